/- VmTypes, VmCore, VmRead, VmOwn, VmMap, VmInv, VmEnv, VmVals, VmRuns, VmMake, VmOps. -/
import Derived.KernelRfl
import GoSem.Claim
import Derived.Orders
import Derived.Laws.AppendOwn
import Derived.Laws.OwnMore
import Derived.Below
import Derived.MapKept
import Derived.Maps.Keyed
import Derived.WideKeyPair
import Derived.Calls
import Derived.Laws.Cells
import Derived.Laws.Slices
import Derived.Laws.Strings
import Derived.Maps.AppendAt
import Derived.IntWalk
import Derived.Laws.Small
import Derived.Laws.CopyRow
import Derived.Lib.Strings
set_option linter.all false
namespace Go.Proofs.YtncejbehidimmaaGreatDoor
def a8U:=@Option.bind_eq_some_iff
def a7v:=@Option.some.injEq
def a8d:=@List.map_cons
def a9h:=@List.map_nil
def a7A:=@List.cons.injEq
def a7W:=@and_true
def b0b:=@Go.World.cell?_of_block
def a8B:=@Nat.add_mul
def a7K:=@List.length_append
def a7I:=@List.length_cons
def a8H:=@List.getElem?_append_left
def a7R:=@List.getElem?_eq_some_iff
def a8m:=@Nat.lt_or_ge
def a9F:=@List.getElem?_append_right
def b1j:=@Nat.add_sub_cancel_left
def a7H:=@Bool.and_eq_true
def b0F:=@List.drop_drop
def b0o:=@List.drop_left
def b0V:=@List.take_append
def a8o:=@List.take_of_length_le
def b0x:=@Nat.zero_mul
def b0G:=@List.drop_zero
def a9W:=@List.take_left
def a9z:=@List.take_zero
def a8l:=@List.nil_append
def a8W:=@Nat.zero_add
def b1J:=@List.set_cons_zero
def a9Q:=@Iff.rfl
def b1k:=@Go.Value.agg.injEq
def a8Y:=@true_and
def a8r:=@Nat.zero_le
def a8i:=@List.mem_of_getElem?
def a8k:=@Go.run_underlying
def a9V:=@Go.MapKept.run_getObj_map
def b0p:=@List.getElem?_cons_zero
def a9d:=@List.pairwise_cons
def b0M:=@Array.toList_push
def b0y:=@List.pairwise_append
def a7O:=@List.mem_singleton
def a7y:=@List.mem_append
def b0N:=@List.ext_getElem?
def a7E:=@if_pos
def a9O:=@List.getElem_of_mem
def b0W:=@List.getElem_set
def a9l:=@List.getElem_mem
def a7P:=@Nat.le_refl
def a8M:=@Nat.le_trans
def a7F:=@Nat.lt_of_lt_of_le
def a7J:=@List.mem_cons
def a8h:=@Array.getD_eq_getD_getElem?
def b0H:=@Array.getElem?_setIfInBounds
def a8f:=@Option.map_eq_some_iff
def a7z:=@if_neg
def a9o:=@if_true
def a7w:=@Nat.eq_of_beq_eq_true
def a7Z:=@of_decide_eq_true
def a8g:=@List.all_eq_true
def b0h:=@List.replicate_succ
def b1C:=@List.sum_cons
def a9L:=@Go.Addr.add_lit
def a7U:=@Go.Sem.run_bind
def a7S:=@Go.Sem.run_pure
def a7N:=@Go.Result.andThen_ok
def a9u:=@Nat.add_zero
def a7D:=@decide_eq_true_eq
def a8G:=@List.eq_nil_of_length_eq_zero
def a7L:=@List.getElem?_eq_getElem
def a8I:=@Option.some.inj
def a9I:=@List.drop_eq_getElem_cons
def a8w:=@Nat.le_of_ble_eq_true
def a8D:=@List.length_take
def a8J:=@List.length_drop
def a8O:=@List.getElem?_take
def a9C:=@List.getElem?_drop
def b0f:=@Nat.add_assoc
def a7B:=@List.mem_map
def a9P:=@Go.Value.pointer.injEq
def a9n:=@Go.Addr.mk.injEq
def b0k:=@eq_of_heq
def a8t:=@Int.toNat_natCast
def a7x:=@Prod.mk.injEq
def b1E:=@Go.ByteArray.toList_eq
def b1l:=@Bool.eq_iff_iff
def b0O:=@Go.eqGuard_at_string
def a8q:=@Array.length_toList
def a8u:=@Array.getElem?_eq_getElem
def b1m:=@Go.Result.ok.injEq
def b0S:=@Array.ext'
def a8j:=@Bool.false_eq_true
def b0l:=@if_false
def b1r:=@List.getElem?_toArray
def b0D:=@List.take_succ_cons
def b1K:=@Int.natCast_nonneg
def a8c:=@List.append_assoc
def a7T:=@List.length_nil
def a8z:=@List.append_nil
def b1v:=@List.replicate_succ'
def a9j:=@List.flatMap_cons
def a8n:=@List.length_map
def a8T:=@List.getElem?_map
def b0z:=@Option.map_none
def a9R:=@Option.map_some
def b1s:=@Go.run_sliceBound
def a8Q:=@Go.heap_alloc_new
def a9f:=@Nat.mul_le_mul_right
def b1L:=@List.map_replicate
def b1w:=@Go.TypeDesc.array.injEq
def a9K:=@List.mapM_cons
def a8v:=@Array.toArray_toList
def a9k:=@Go.Value.slice.injEq
def a9q:=@Array.toList_map
def b1M:=@Go.MapKept.heap_alloc
def Ul:List Nat:=[]
inductive D where
 | int (k:IntKind) (n:Int)
 | bool (b:Bool)
 | str (s:List UInt8)
 | slice (n:Nat) (xs:List D)
 | agg (xs:List D)
 | hole
 | ptr
def mvD{α:Type}(n:Nat)(f:α->D):Option (List α)->D
 | none => .hole
 | some l => .slice n (l.map f)
inductive aJ where
 | arr2
 | sig
 | expr
 | oExpr
 | word
 | automaton
 | reached
 deriving DecidableEq
inductive Ty where
 | int (k:IntKind)
 | bool
 | str
 | slice (t:Ty)
 | st (s:aJ)
 | mv (t:Ty)
 | ptr
 deriving DecidableEq
structure ar where
 a0:Int
 a1:Int
structure aG where
 aS:Int
 av:Int
structure J where
 ai:Int
 aZ:Int
 O:List (J)
structure lE where
 ai:Int
 aZ:Int
 O:Option (List (J))
structure gS where
 Qk:List (Int)
 Vz:List (Int)
structure U where
 sig:aG
 accept:List (List (Bool))
 next:List (List (List (Int)))
structure ae where
 pair:ar
 mJ:Int
 atom:Int
 act:Int
@[reducible] def aJ.den:aJ->Type
 | .arr2=>ar
 | .sig=>aG
 | .expr=>J
 | .oExpr=>lE
 | .word=>gS
 | .automaton=>U
 | .reached=>ae
@[reducible] def Ty.den:Ty->Type
 | .int _=>Int
 | .bool=>Bool
 | .str=>List UInt8
 | .slice t=>List t.den
 | .st s=>s.den
 | .mv t=>Option (List t.den)
 | .ptr=>Unit
structure TV where
 τ:Ty
 x:τ.den
def TV.Z9(τ:Ty)(v:TV):Option τ.den:=if h:v.τ=τ then some (h ▸ v.x) else none
def TV.aR{τ:Ty}{v:TV}{x:τ.den}(h:v.Z9 τ=some x):v=⟨τ,x⟩:=by
 unfold TV.Z9 at h;split at h
 .rename_i e;subst e;cases v;simp at h;subst h;rfl
 .cases h
@[simp] theorem TV.TW(τ:Ty)(x:τ.den):TV.Z9 τ ⟨τ,x⟩=some x:=by simp[TV.Z9]
def aJ.fields:(s:aJ)->s.den->List TV
 | .arr2,x=>[⟨.int .i64,x.a0⟩,⟨.int .i64,x.a1⟩]
 | .sig,x=>[⟨.int .i64,x.aS⟩,⟨.int .i64,x.av⟩]
 | .expr,x=>[⟨.int .i64,x.ai⟩,⟨.int .i64,x.aZ⟩,⟨.slice (.st .expr),x.O⟩]
 | .oExpr,x=>[⟨.int .i64,x.ai⟩,⟨.int .i64,x.aZ⟩,⟨.mv (.st .expr),x.O⟩]
 | .word,x=>[⟨.slice (.int .i64),x.Qk⟩,⟨.slice (.int .i64),x.Vz⟩]
 | .automaton,x=>[⟨.st .sig,x.sig⟩,⟨.slice (.slice (.bool)),x.accept⟩,⟨.slice (.slice (.slice (.int .i64))),x.next⟩]
 | .reached,x=>[⟨.st .arr2,x.pair⟩,⟨.int .i64,x.mJ⟩,⟨.int .i64,x.atom⟩,⟨.int .i64,x.act⟩]
def aJ.cells:(s:aJ)->s.den->List TV
 | .arr2,x=>[⟨.int .i64,x.a0⟩,⟨.int .i64,x.a1⟩]
 | .sig,x=>[⟨.int .i64,x.aS⟩,⟨.int .i64,x.av⟩]
 | .expr,x=>[⟨.int .i64,x.ai⟩,⟨.int .i64,x.aZ⟩,⟨.slice (.st .expr),x.O⟩]
 | .oExpr,x=>[⟨.int .i64,x.ai⟩,⟨.int .i64,x.aZ⟩,⟨.mv (.st .expr),x.O⟩]
 | .word,x=>[⟨.slice (.int .i64),x.Qk⟩,⟨.slice (.int .i64),x.Vz⟩]
 | .automaton,x=>[⟨.int .i64,x.sig.aS⟩,⟨.int .i64,x.sig.av⟩,⟨.slice (.slice (.bool)),x.accept⟩,⟨.slice (.slice (.slice (.int .i64))),x.next⟩]
 | .reached,x=>[⟨.int .i64,x.pair.a0⟩,⟨.int .i64,x.pair.a1⟩,⟨.int .i64,x.mJ⟩,⟨.int .i64,x.atom⟩,⟨.int .i64,x.act⟩]
def aJ.size:aJ->Nat
 | .arr2=>2
 | .sig=>2
 | .expr=>3
 | .oExpr=>3
 | .word=>2
 | .automaton=>4
 | .reached=>5
def aJ.arr:aJ->Bool
 | .arr2=>true
 | _=>false
def aJ.X3(s:aJ)(ha:s.arr=true){x y:s.den}(h:s.cells x=s.cells y):x=y:=by cases s<;>first|(cases ha;done)|(cases x;cases y;simpa [aJ.cells] using h)
def aJ.my:aJ->List Ty
 | .arr2=>[.int .i64, .int .i64]
 | .sig=>[.int .i64, .int .i64]
 | .expr=>[.int .i64, .int .i64, .slice (.st .expr)]
 | .oExpr=>[.int .i64, .int .i64, .mv (.st .expr)]
 | .word=>[.slice (.int .i64), .slice (.int .i64)]
 | .automaton=>[.int .i64, .int .i64, .slice (.slice (.bool)), .slice (.slice (.slice (.int .i64)))]
 | .reached=>[.int .i64, .int .i64, .int .i64, .int .i64, .int .i64]
def aJ.dr:aJ->List Ty
 | .arr2=>[.int .i64, .int .i64]
 | .sig=>[.int .i64, .int .i64]
 | .expr=>[.int .i64, .int .i64, .slice (.st .expr)]
 | .oExpr=>[.int .i64, .int .i64, .mv (.st .expr)]
 | .word=>[.slice (.int .i64), .slice (.int .i64)]
 | .automaton=>[.st .sig, .slice (.slice (.bool)), .slice (.slice (.slice (.int .i64)))]
 | .reached=>[.st .arr2, .int .i64, .int .i64, .int .i64]
def aJ.fL:(s:aJ)->List TV->Option s.den
 | .arr2,[a0,a1]=>(a0.Z9 (.int .i64)).bind λ b0=>(a1.Z9 (.int .i64)).bind λ b1=>some (ar.mk b0 b1)
 | .sig,[a0,a1]=>(a0.Z9 (.int .i64)).bind λ b0=>(a1.Z9 (.int .i64)).bind λ b1=>some (aG.mk b0 b1)
 | .expr,[a0,a1,a2]=>(a0.Z9 (.int .i64)).bind λ b0=>(a1.Z9 (.int .i64)).bind λ b1=>(a2.Z9 (.slice (.st .expr))).bind λ b2=>some (J.mk b0 b1 b2)
 | .oExpr,[a0,a1,a2]=>(a0.Z9 (.int .i64)).bind λ b0=>(a1.Z9 (.int .i64)).bind λ b1=>(a2.Z9 (.mv (.st .expr))).bind λ b2=>some (lE.mk b0 b1 b2)
 | .word,[a0,a1]=>(a0.Z9 (.slice (.int .i64))).bind λ b0=>(a1.Z9 (.slice (.int .i64))).bind λ b1=>some (gS.mk b0 b1)
 | .automaton,[a0,a1,a2,a3]=>(a0.Z9 (.int .i64)).bind λ b0=>(a1.Z9 (.int .i64)).bind λ b1=>(a2.Z9 (.slice (.slice (.bool)))).bind λ b2=>(a3.Z9 (.slice (.slice (.slice (.int .i64))))).bind λ b3=>some (U.mk (aG.mk b0 b1) b2 b3)
 | .reached,[a0,a1,a2,a3,a4]=>(a0.Z9 (.int .i64)).bind λ b0=>(a1.Z9 (.int .i64)).bind λ b1=>(a2.Z9 (.int .i64)).bind λ b2=>(a3.Z9 (.int .i64)).bind λ b3=>(a4.Z9 (.int .i64)).bind λ b4=>some (ae.mk (ar.mk b0 b1) b2 b3 b4)
 | _,_=>none
def aJ.ly:∀ {s:aJ} {l:List TV} {x:s.den},s.fL l=some x->s.cells x=l:=by
 intro s l x h;cases s;case arr2 =>
  match l,h with
  | [a0,a1],h =>
   simp only[aJ.fL,a8U,a7v] at h;obtain⟨b0,h0,⟨b1,h1,rfl⟩⟩:=h;have e0:=TV.aR h0;have e1:=TV.aR h1;subst e0 e1;rfl
 case sig =>
  match l,h with
  | [a0,a1],h =>
   simp only[aJ.fL,a8U,a7v] at h;obtain⟨b0,h0,⟨b1,h1,rfl⟩⟩:=h;have e0:=TV.aR h0;have e1:=TV.aR h1;subst e0 e1;rfl
 case expr =>
  match l,h with
  | [a0,a1,a2],h =>
   simp only[aJ.fL,a8U,a7v] at h;obtain⟨b0,h0,⟨b1,h1,⟨b2,h2,rfl⟩⟩⟩:=h;have e0:=TV.aR h0;have e1:=TV.aR h1;have e2:=TV.aR h2;subst e0 e1 e2;rfl
 case oExpr =>
  match l,h with
  | [a0,a1,a2],h =>
   simp only[aJ.fL,a8U,a7v] at h;obtain⟨b0,h0,⟨b1,h1,⟨b2,h2,rfl⟩⟩⟩:=h;have e0:=TV.aR h0;have e1:=TV.aR h1;have e2:=TV.aR h2;subst e0 e1 e2;rfl
 case word =>
  match l,h with
  | [a0,a1],h =>
   simp only[aJ.fL,a8U,a7v] at h;obtain⟨b0,h0,⟨b1,h1,rfl⟩⟩:=h;have e0:=TV.aR h0;have e1:=TV.aR h1;subst e0 e1;rfl
 case automaton =>
  match l,h with
  | [a0,a1,a2,a3],h =>
   simp only[aJ.fL,a8U,a7v] at h;obtain⟨b0,h0,⟨b1,h1,⟨b2,h2,⟨b3,h3,rfl⟩⟩⟩⟩:=h;have e0:=TV.aR h0;have e1:=TV.aR h1;have e2:=TV.aR h2;have e3:=TV.aR h3;subst e0 e1 e2 e3;rfl
 case reached =>
  match l,h with
  | [a0,a1,a2,a3,a4],h =>
   simp only[aJ.fL,a8U,a7v] at h;obtain⟨b0,h0,⟨b1,h1,⟨b2,h2,⟨b3,h3,⟨b4,h4,rfl⟩⟩⟩⟩⟩:=h;have e0:=TV.aR h0;have e1:=TV.aR h1;have e2:=TV.aR h2;have e3:=TV.aR h3;have e4:=TV.aR h4;subst e0 e1 e2 e3 e4;rfl
def aJ.fv(s:aJ)(x:s.den):(s.cells x).length=s.size:=by cases s<;>rfl
def aJ.iD(s:aJ)(x:s.den):(s.cells x).map TV.τ=s.my:=by cases s<;>rfl
def aJ.AZ(s:aJ)(x:s.den):(s.fields x).map TV.τ=s.dr:=by cases s<;>rfl
def Ty.size:Ty->Nat
 | .st s=>s.size
 | _=>1
def TV.cells(v:TV):List TV :=
 match v with
 | ⟨.st s,x⟩=>s.cells x
 | v=>[v]
def aJ.Dr(s:aJ)(x:s.den):s.cells x=(s.fields x).flatMap TV.cells:=by cases s<;>rfl
def ar.aI(x:ar):D := .agg [.int .i64 x.a0, .int .i64 x.a1]
def aG.aI(x:aG):D := .agg [.int .i64 x.aS, .int .i64 x.av]
mutual
def J.aI:J->D
 | ⟨ai,aZ,O⟩ => .agg [.int .i64 ai, .int .i64 aZ, .slice 3 (J.a0F O)]
def J.a0F:List J->List D
 | []=>[]
 | e::r=>e.aI::J.a0F r
end
def J.HU:∀ l,J.a0F l=l.map J.aI
 | []=>rfl
 | _::r=>congrArg _ (J.HU r)
def lE.aI(x:lE):D := .agg [.int .i64 x.ai, .int .i64 x.aZ,mvD 3 (λ y=>J.aI y) x.O]
def gS.aI(x:gS):D := .agg [.slice 1 (x.Qk.map λ y => .int .i64 y), .slice 1 (x.Vz.map λ y => .int .i64 y)]
def U.aI(x:U):D := .agg [.int .i64 x.sig.aS, .int .i64 x.sig.av, .slice 1 (x.accept.map λ y => .slice 1 (y.map λ y => .bool y)), .slice 1 (x.next.map λ y => .slice 1 (y.map λ y => .slice 1 (y.map λ y => .int .i64 y)))]
def ae.aI(x:ae):D := .agg [.int .i64 x.pair.a0, .int .i64 x.pair.a1, .int .i64 x.mJ, .int .i64 x.atom, .int .i64 x.act]
def aJ.aI:(s:aJ)->s.den->D
 | .arr2,x=>ar.aI x
 | .sig,x=>aG.aI x
 | .expr,x=>J.aI x
 | .oExpr,x=>lE.aI x
 | .word,x=>gS.aI x
 | .automaton,x=>U.aI x
 | .reached,x=>ae.aI x
def Ty.aI:(t:Ty)->t.den->D
 | .int k,n => .int k n
 | .bool,b => .bool b
 | .str,s => .str s
 | .slice t,xs => .slice t.size (xs.map t.aI)
 | .st s,x=>s.aI x
 | .mv t,o=>mvD t.size t.aI o
 | .ptr,_ => .ptr
def TV.aI(v:TV):D:=v.τ.aI v.x
def aJ.bR(s:aJ)(x:s.den):s.aI x = .agg ((s.cells x).map TV.aI):=by
 cases s<;>first
  | rfl
  | (cases x;simp[aJ.aI,J.aI,aJ.cells,TV.aI,Ty.aI,Ty.size,aJ.size,J.HU];done)
  | (simp[aJ.aI,aJ.cells,TV.aI,Ty.aI,Ty.size,aJ.size,ar.aI,aG.aI,J.aI,lE.aI,gS.aI,U.aI,ae.aI,J.HU];done)
def aJ.zero:(s:aJ)->s.den
 | .arr2=>(ar.mk 0 0)
 | .sig=>(aG.mk 0 0)
 | .expr=>(J.mk 0 0 [])
 | .oExpr=>(lE.mk 0 0 none)
 | .word=>(gS.mk [] [])
 | .automaton=>(U.mk (aG.mk 0 0) [] [])
 | .reached=>(ae.mk (ar.mk 0 0) 0 0 0)
def Ty.zero:(t:Ty)->t.den
 | .int _=>(0:Int)
 | .bool=>false
 | .str=>([]:List UInt8)
 | .slice _=>[]
 | .st s=>s.zero
 | .mv _=>none
 | .ptr=>()
instance:Inhabited ar:=⟨aJ.zero .arr2⟩
def ar.eta(x:ar):ar.mk x.a0 x.a1=x:=by cases x;rfl
instance:Inhabited aG:=⟨aJ.zero .sig⟩
def aG.eta(x:aG):aG.mk x.aS x.av=x:=by cases x;rfl
instance:Inhabited J:=⟨aJ.zero .expr⟩
def J.eta(x:J):J.mk x.ai x.aZ x.O=x:=by cases x;rfl
instance:Inhabited lE:=⟨aJ.zero .oExpr⟩
def lE.eta(x:lE):lE.mk x.ai x.aZ x.O=x:=by cases x;rfl
instance:Inhabited gS:=⟨aJ.zero .word⟩
def gS.eta(x:gS):gS.mk x.Qk x.Vz=x:=by cases x;rfl
instance:Inhabited U:=⟨aJ.zero .automaton⟩
def U.eta(x:U):U.mk x.sig x.accept x.next=x:=by cases x;rfl
instance:Inhabited ae:=⟨aJ.zero .reached⟩
def ae.eta(x:ae):ae.mk x.pair x.mJ x.atom x.act=x:=by cases x;rfl
def aP(x:J):J:=J.mk x.ai x.aZ x.O
def cu(x:J):aP x=x:=by cases x;simp[aP]
def aJ.Ue:∀ (s:aJ) (fl:List TV),fl.map TV.τ=s.dr->∃ x,s.fields x=fl
 | .arr2,fl,h=>by
  match fl,h with
  | [⟨t0,a0⟩,⟨t1,a1⟩],h =>
   simp only[a8d,a9h,aJ.dr,a7A,a7W] at h;obtain⟨rfl,rfl⟩:=h;exact⟨⟨a0,a1⟩,rfl⟩
 | .sig,fl,h=>by
  match fl,h with
  | [⟨t0,a0⟩,⟨t1,a1⟩],h =>
   simp only[a8d,a9h,aJ.dr,a7A,a7W] at h;obtain⟨rfl,rfl⟩:=h;exact⟨⟨a0,a1⟩,rfl⟩
 | .expr,fl,h=>by
  match fl,h with
  | [⟨t0,a0⟩,⟨t1,a1⟩,⟨t2,a2⟩],h =>
   simp only[a8d,a9h,aJ.dr,a7A,a7W] at h;obtain⟨rfl,rfl,rfl⟩:=h;exact⟨⟨a0,a1,a2⟩,rfl⟩
 | .oExpr,fl,h=>by
  match fl,h with
  | [⟨t0,a0⟩,⟨t1,a1⟩,⟨t2,a2⟩],h =>
   simp only[a8d,a9h,aJ.dr,a7A,a7W] at h;obtain⟨rfl,rfl,rfl⟩:=h;exact⟨⟨a0,a1,a2⟩,rfl⟩
 | .word,fl,h=>by
  match fl,h with
  | [⟨t0,a0⟩,⟨t1,a1⟩],h =>
   simp only[a8d,a9h,aJ.dr,a7A,a7W] at h;obtain⟨rfl,rfl⟩:=h;exact⟨⟨a0,a1⟩,rfl⟩
 | .automaton,fl,h=>by
  match fl,h with
  | [⟨t0,a0⟩,⟨t1,a1⟩,⟨t2,a2⟩],h =>
   simp only[a8d,a9h,aJ.dr,a7A,a7W] at h;obtain⟨rfl,rfl,rfl⟩:=h;exact⟨⟨a0,a1,a2⟩,rfl⟩
 | .reached,fl,h=>by
  match fl,h with
  | [⟨t0,a0⟩,⟨t1,a1⟩,⟨t2,a2⟩,⟨t3,a3⟩],h =>
   simp only[a8d,a9h,aJ.dr,a7A,a7W] at h;obtain⟨rfl,rfl,rfl,rfl⟩:=h;exact⟨⟨a0,a1,a2,a3⟩,rfl⟩
abbrev zE:J:=J.mk (0:Int) (0:Int) []
def af:True:=trivial
noncomputable section
@[reducible] def FN:List Ty->Ty->Type
 | [],r=>Prop×r.den
 | t::ts,r=>t.den->FN ts r
structure FV where
 ps:List Ty
 r:Ty
 F:FN ps r
def FV.Z9(ps:List Ty)(r:Ty)(v:FV):Option (FN ps r):=if h:v.ps=ps then (if k:v.r=r then some (h ▸ k ▸ v.F) else none) else none
def FV.aR{ps:List Ty}{r:Ty}{v:FV}{F:FN ps r}(h:v.Z9 ps r=some F):v=⟨ps,r,F⟩:=by
 unfold FV.Z9 at h;split at h
 .split at h
  .rename_i e k;obtain⟨ps',r',F'⟩:=v;simp only at e k;subst e k;simp at h;subst h;rfl
  .cases h
 .cases h
@[simp] theorem FV.TW(ps:List Ty)(r:Ty)(F:FN ps r):FV.Z9 ps r ⟨ps,r,F⟩=some F:=by simp[FV.Z9]
structure MV where
 κ:Ty
 ε:Ty
 f:κ.den->Option ε.den
 n:Nat
def MV.Z9(κ ε:Ty)(m:MV):Option ((κ.den->Option ε.den)×Nat):=if h:m.κ=κ then (if k:m.ε=ε then some (h ▸ k ▸ (m.f,m.n)) else none) else none
def MV.aR{κ ε:Ty}{m:MV}{F:(κ.den->Option ε.den)×Nat}(h:m.Z9 κ ε=some F):m=⟨κ,ε,F.1,F.2⟩:=by
 unfold MV.Z9 at h;split at h
 .split at h
  .rename_i e k;obtain⟨κ',ε',f',n'⟩:=m;simp only at e k;subst e k;simp at h;subst h;rfl
  .cases h
 .cases h
@[simp] theorem MV.TW(κ ε:Ty)(f:κ.den->Option ε.den)(n:Nat):MV.Z9 κ ε ⟨κ,ε,f,n⟩=some (f,n):=by simp[MV.Z9]
def eL{α β:Type}(f:α->Option β)(k:α)(v:β):α->Option β:=λ x => @ite _ (x=k) (Classical.propDecidable _) (some v) (f x)
def ie(α β:Type):α->Option β:=λ _=>none
def fK{β:Type}(o:Option β)(n:Nat):Nat:=bif o.isSome then n else n+1
inductive AV where
 | any
 | dN
 | aQ (v:TV)
 | nil
 | cP (v:TV)
 | ptr (id off:Nat)
 | row (id:Nat)
 | dS (id i off:Nat)
 | agg (cs:List AV)
 | fZ (vs:List AV)
 | fn (f:FuncId)
 | aC (id:Nat)
 | sub (id i off sz:Nat)
 | ed (id i off sz:Nat)
 | cK (f:FuncId) (cs:List AV)
 | gp (v:FV)
 | mp (id:Nat)
inductive aw where
 | box (cs:List AV)
 | row (e:TypeId) (τ:Ty) (xs:List τ.den)
 | aC (τ:Ty) (xs:List τ.den)
 | map (m:MV)
structure ah where
 aA:List AV
 aH:List (Nat×aw)
inductive Arg where
 | val (v:TV)
 | ref (v:TV)
 | fn (f:FuncId)
 | cK (v:FV)
 | own (v:TV)
 | box (k:Nat)
inductive CK where
 | d (τ:Ty)
 | o (τ:Ty)
 | p (k:Nat)
structure SK where
 ps:List (Option Nat)
 sh:List (List CK)
def ag{α:Type}:List (Nat×α)->Nat->Option α
 | [],_=>none
 | (k,v)::r,n=>match Nat.beq k n with
  | true=>some v
  | false=>ag r n
abbrev Vc:=Option Prop
def Vc.ok:Vc->Prop
 | .none=>True
 | .some p=>p
def Vc.and(v:Vc)(K:Prop):Prop:=match v with
 | .none=>K
 | .some p=>p/\K
def Vc.iA{v:Vc}{K:Prop}(h:v.and K):v.ok/\K:=by
 cases v with
 | none=>exact⟨af,h⟩
 | some p=>exact h
structure RW where
 τ:Ty
 g:τ.den->Int->Vc×τ.den×Int
structure rP where
 ps:List Ty
 r:Ty
 dY:List (Bool×Ty)
def Arg.Fy:Arg->Bool
 | .ref _ | .cK _ | .box _=>false
 | _=>true
inductive Vx where
 | box (cells:List TV)
 | row (e:TypeId) (τ:Ty) (xs:List τ.den)
 | res (l:List (Bool×TV))
structure Env where
 ty:List (Nat×Ty×Nat×Nat)
 Rv:List (Nat×Ty)
 Io:Nat->List Arg->Option (Vc×List TV)
 wr:List Nat:=[]
 own:List Nat:=[]
 Hp:Nat->List Arg->Option (Vc×List TV):=λ _ _=>none
 mark:Nat->Option RW:=λ _=>none
 cK:Nat->Option rP:=λ _=>none
 ro:List Nat:=[]
 tk:Nat->List Bool:=λ _=>[]
 sk:Nat->Option SK:=λ _=>none
 P3:Nat->List Arg->List (List TV)->Option (Vc×List TV×List (List TV)):=λ _ _ _=>none
 Hj:List (Nat×Ty×Ty):=[]
 NC:Nat->List Arg->Option (Vc×Vx):=λ _ _=>none
 cmp:List Nat:=[]
 Kl:Nat->List Arg->(τ:Ty)->List τ.den->Option (Vc×List τ.den):=λ _ _ _ _=>none
def ah.ag(s:ah)(id:Nat):Option aw:=YtncejbehidimmaaGreatDoor.ag s.aH id
def Mn(k:IntKind)(n:Int):Bool :=
 match n with
 | .ofNat m=>match k with
  | .i64=>Nat.ble m 9223372036854775807
  | .u64=>Nat.ble m 18446744073709551615
  | .u8=>Nat.ble m 255
  | _=>Nat.ble m 127
 | .negSucc m=>match k with
  | .i64=>Nat.ble m 9223372036854775807
  | _=>false
def Ge:Value->AV
 | .int k n=>match Mn k n with
  | true => .aQ ⟨.int k,n⟩
  | false => .any
 | .bool b => .aQ ⟨.bool,b⟩
 | .string s=>match Nat.ble s.data.size 1000000 with
  | true => .aQ ⟨.str,s.data.toList⟩
  | false => .any
 | .slice none 0 0 => .nil
 | _ => .any
def R7:Value->AV
 | .agg cs => .agg (cs.toList.map Ge)
 | .tuple cs=>match Nat.beq cs.size 0 with
  | true => .dN
  | false => .any
 | v=>Ge v
def ah.eval(s:ah):Operand->AV
 | .tmp t=>s.aA.getD t .any
 | .const v=>R7 v
 | .func f => .fn f
 | .global _ => .any
def ik(lk:Nat->Option aw)(τ:Ty):AV->Option τ.den
 | .aQ v=>v.Z9 τ
 | .nil=>match τ with
  | .slice _=>some []
  | _=>none
 | .row id=>match lk id with
  | some (.row _ aT xs)=>TV.Z9 τ ⟨.slice aT,xs⟩
  | _=>none
 | .aC id=>match lk id with
  | some (.aC aT xs)=>TV.Z9 τ ⟨.slice aT,xs⟩
  | _=>none
 | _=>none
def Ho(lk:Nat->Option aw)(id:Nat):Option aw:=match lk id with
 | some (.aC _ _)=>none
 | o=>o
def L6(lk:Nat->Option aw):List AV->List Ty->Option (List TV)
 | [],[]=>some []
 | c::cs,t::ts=>match ik lk t c with
  | some x=>match L6 lk cs ts with
   | some r=>some (⟨t,x⟩::r)
   | none=>none
  | none=>none
 | _,_=>none
def ri(lk:Nat->Option aw)(τ:Ty):AV->Option τ.den
 | .agg cs=>match τ with
  | .st s=>match L6 lk cs s.my with
   | some l=>s.fL l
   | none=>none
  | _=>none
 | v=>ik lk τ v
def AV.cell:AV->Bool
 | .any | .dN | .agg _ | .fZ _ | .ed .. | .cK .. | .gp .. => false
 | .aQ v=>match v.τ with
  | .st _=>false
  | _=>true
 | _=>true
def cellsOf(τ:Ty)(v:AV):Option (List AV) :=
 match τ with
 | .st s=>match v with
  | .aQ x=>match x.Z9 (.st s) with
   | some y=>some ((s.cells y).map .aQ)
   | none=>none
  | .agg cs=>match Nat.beq cs.length s.size&&cs.all AV.cell with
   | true=>some cs
   | false=>none
  | _=>none
 | _=>match v.cell with
  | true=>some [v]
  | false=>none
def Cj(cs:List AV)(off:Nat)(τ:Ty):Option AV :=
 match τ with
 | .st s=>match Nat.ble (off+s.size) cs.length with
  | true=>some (.agg ((cs.drop off).take s.size))
  | false=>none
 | _=>cs[off]?
def putCells(cs:List AV)(off:Nat)(new:List AV):Option (List AV) :=
 match Nat.ble (off+new.length) cs.length with
 | true=>some (cs.take off++(new++cs.drop (off+new.length)))
 | false=>none
def TV.part(v:TV)(off:Nat)(τ:Ty):Option TV :=
 match Nat.beq off 0&&decide (v.τ=τ) with
 | true=>some v
 | false=>match v.cells[off]? with
  | some u=>match decide (u.τ=τ) with
   | true=>some u
   | false=>none
  | none=>none
def TV.U5(v:TV)(off:Nat):Ty->Option AV
 | .st s=>match Nat.ble (off+s.size) v.cells.length with
  | true=>some (.agg (((v.cells.drop off).take s.size).map .aQ))
  | false=>none
 | _=>none
def oN(lk:Nat->Option aw)(τ:Ty):AV->Option AV
 | .cP v=>match decide (v.τ=τ) with
  | true=>some (.aQ v)
  | false=>none
 | .ptr id off=>match lk id with
  | some (.box cs)=>Cj cs off τ
  | _=>none
 | .dS id i off=>match lk id with
  | some (.row _ aT xs)=>match TV.part ⟨aT,xs.getD i aT.zero⟩ off τ with
   | some u=>some (.aQ u)
   | none=>TV.U5 ⟨aT,xs.getD i aT.zero⟩ off τ
  | _=>none
 | _=>none
def deref(lk:Nat->Option aw)(τ:Ty)(v:AV):Option τ.den :=
 match oN lk τ v with
 | some u=>ri lk τ u
 | none=>none
def aJ.dB(s:aJ)(i:Nat):Nat:=((s.dr.take i).map Ty.size).sum
def zeroCell(τ:Ty):AV :=
 match τ with
 | .slice _ => .nil
 | τ => .aQ ⟨τ,τ.zero⟩
def zeroCells(τ:Ty):List AV :=
 match τ with
 | .st s=>s.my.map zeroCell
 | τ=>[zeroCell τ]
def mP(lk:Nat->Option aw):List (Bool×Ty)->List AV->Option (List Arg)
 | [],[]=>some []
 | (true,τ)::ks,v::vs=>match deref lk τ v with
  | some x=>match mP lk ks vs with
   | some r=>some (.ref ⟨τ,x⟩::r)
   | none=>none
  | none=>none
 | (false,τ)::ks,v::vs=>match ri lk τ v with
  | some x=>match mP lk ks vs with
   | some r=>some (.val ⟨τ,x⟩::r)
   | none=>none
  | none=>none
 | _,_=>none
def Ml(E:Env)(f:FuncId)(dY:List Arg):(ps:List Ty)->(r:Ty)->List Arg->FN ps r
 | [],r,acc=>match E.Io f (acc++dY) with
  | some (pre,[v])=>match v.Z9 r with
   | some y=>(pre.ok,y)
   | none=>(False,r.zero)
  | _=>(False,r.zero)
 | t::ts,r,acc=>λ x=>Ml E f dY ts r (acc++[.val ⟨t,x⟩])
def pA:(ps:List Ty)->(r:Ty)->FN ps r->List Arg->Option (Prop×r.den)
 | [],_,F,[]=>some F
 | t::ts,r,F, .val a::zs=>match a.Z9 t with
  | some x=>pA ts r (F x) zs
  | none=>none
 | _,_,_,_=>none
def ye(E:Env)(lk:Nat->Option aw):AV->Option FV
 | .cK f cs=>match E.cK f with
  | some k=>match mP lk k.dY cs with
   | some Z9=>some ⟨k.ps,k.r,Ml E f Z9 k.ps k.r []⟩
   | none=>none
  | none=>none
 | .gp v=>some v
 | .fn f=>match E.cK f with
  | some k=>match k.dY with
   | []=>some ⟨k.ps,k.r,Ml E f [] k.ps k.r []⟩
   | _=>none
  | none=>none
 | _=>none
def L4(E:Env)(lk:Nat->Option aw)(T:TypeId)(v:AV):Option Arg :=
 match ag E.ty T with
 | some (τ,_)=>match ri lk τ v with
  | some x=>some (.val ⟨τ,x⟩)
  | none=>none
 | none=>match ag E.Rv T with
  | some τ=>match deref lk τ v with
   | some x=>some (.ref ⟨τ,x⟩)
   | none=>none
  | none=>match ye E lk v with
   | some q=>some (.cK q)
   | none=>match v with
    | .fn f=>some (.fn f)
    | _=>none
def jT(E:Env)(lk:Nat->Option aw):List TypeId->List AV->Option (List Arg)
 | [],[]=>some []
 | T::Ts,v::vs=>match L4 E lk T v with
  | some x=>match jT E lk Ts vs with
   | some r=>some (x::r)
   | none=>none
  | none=>none
 | _,_=>none
def yJ:List TV->AV
 | [v] => .aQ v
 | vs => .fZ (vs.map .aQ)
def au(n:Int):Prop := -9223372036854775808<=n/\n<=9223372036854775807
def cI(k:IntKind)(n:Int):Prop :=
 match k with
 | .i64=>au n
 | k=>k.min<=n/\n<=k.max
def aE(n:Int)(len:Nat):Prop:=0<=n/\n<(len:Int)
def iE(l h:Int)(len:Nat):Prop:=0<=l/\l<=h/\h<=(len:Int)
def cN(n m:Int)(b:Nat):Prop:=0<=n/\n<=m/\m * ((b:Int)+1)<=140737488355328
def bB(n b:Nat):Prop:=n * (b+1)<=140737488355328
def arith(op:BinOp)(k:IntKind)(a b:Int):Option (Vc×Int) :=
 match op with
 | .add=>match k with
  | .u64=>some (.none,IntKind.u64.wrap (a+b))
  | k=>some (.some (cI k (a+b)),a+b)
 | .sub=>some (.some (cI k (a - b)),a - b)
 | .mul=>match k with
  | .u64=>some (.none,IntKind.u64.wrap (a * b))
  | k=>some (.some (cI k (a * b)),a * b)
 | .quo=>some (.some (b≠0/\cI k (a.tdiv b)),a.tdiv b)
 | .rem=>some (.some (b≠0/\cI k (a.tmod b)),a.tmod b)
 | .shl=>some (.some (0<=b/\b<k.bits/\cI k (a * 2 ^ b.toNat)),a * 2 ^ b.toNat)
 | .shr=>some (.some (0<=b/\b<k.bits/\cI k (a.fdiv (2 ^ b.toNat))),a.fdiv (2 ^ b.toNat))
 | .and=>some (.some (0<=a/\0<=b/\cI k a/\cI k b),((a.toNat &&& b.toNat:Nat):Int))
 | _=>none
def cmp(op:BinOp)(a b:Int):Option Bool :=
 match op with
 | .eql=>some (decide (a=b))
 | .neq=>some (!decide (a=b))
 | .lss=>some (decide (a<b))
 | .leq=>some (decide (a<=b))
 | .gtr=>some (decide (b<a))
 | .geq=>some (decide (b<=a))
 | _=>none
def Qi(wr:Bool)(op:BinOp)(k:IntKind)(a b:Int):Option (Vc×Int) :=
 match wr with
 | true=>match op with
  | .add=>some (.none,k.wrap (a+b))
  | .sub=>some (.none,k.wrap (a - b))
  | .mul=>some (.none,k.wrap (a * b))
  | op=>arith op k a b
 | false=>arith op k a b
def T3(tb wr:Bool)(op:BinOp)(u v:AV):Option (Vc×AV) :=
 match u,v with
 | .aQ ⟨.int k,a⟩, .aQ ⟨.int k',b⟩=>match Qi wr op k a b with
  | some (p,r)=>match op with
   | .shl | .shr=>some (p, .aQ ⟨.int k,r⟩)
   | _=>match decide (k=k') with
    | true=>some (p, .aQ ⟨.int k,r⟩)
    | false=>none
  | none=>match decide (k=k') with
   | true=>match cmp op a b with
    | some c=>some (.none, .aQ ⟨.bool,c⟩)
    | none=>none
   | false=>none
 | .aQ ⟨.bool,a⟩, .aQ ⟨.bool,b⟩=>match tb with
  | true=>match op with
   | .eql=>some (.none, .aQ ⟨.bool,a == b⟩)
   | .neq=>some (.none, .aQ ⟨.bool,!(a == b)⟩)
   | _=>none
  | false=>none
 | .aQ ⟨.str,a⟩, .aQ ⟨.str,b⟩=>match op with
  | .eql=>some (.none, .aQ ⟨.bool,decide (a=b)⟩)
  | .neq=>some (.none, .aQ ⟨.bool,!decide (a=b)⟩)
  | .add=>some (.some (a.length+b.length<=140737488355328), .aQ ⟨.str,a++b⟩)
  | _=>none
 | _,_=>none
def partsOf(E:Env)(s:aJ)(cs:List AV):List (Nat×AV)->Option (List AV)
 | []=>some cs
 | (i,v)::r=>match s.dr[i]? with
  | some τ=>match cellsOf τ v with
   | some new=>match putCells cs (s.dB i) new with
    | some dt=>partsOf E s dt r
    | none=>none
   | none=>none
  | none=>none
def oY(τ:Ty):Nat->List (Nat×AV)->Option (List τ.den)
 | _,[]=>some []
 | n,(
    i,v)::r=>match Nat.beq i n with
  | true=>match ri (λ _=>none) τ v with
   | some x=>match oY τ (n+1) r with
    | some xs=>some (x::xs)
    | none=>none
   | none=>none
  | false=>none
def TV.flat(v:TV):Bool:=v.cells.all λ u=>match u.τ with
 | .slice _=>false
 | .mv _=>false
 | _=>true
def mO(d:Int):Option AV->Option Int
 | none=>some d
 | some (.aQ ⟨.int _,n⟩)=>some n
 | _=>none
def oO(lk:Nat->Option aw)(id:Nat):Option aw:=match lk id with
 | some (.box cs)=>some (.box cs)
 | _=>none
def Cg(E:Env)(lk:Nat->Option aw)(f:FuncId)(Ts:List TypeId)(vs:List AV):Option (Vc×AV×Option aw) :=
 match jT E (oO lk) Ts vs with
 | some Z9=>match E.Io f Z9 with
  | some (pre,res)=>some (pre,yJ res,none)
  | none=>none
 | none=>match jT E lk Ts vs with
  | some Z9=>match E.Io f Z9 with
   | some (pre,res)=>match res.all TV.flat with
    | true=>some (pre,yJ res,none)
    | false=>none
   | none=>none
  | none=>none
def wR(E:Env)(lk:Nat->Option aw)(g:AV)(Ts:List TypeId)(vs:List AV):Option (Vc×AV×Option aw) :=
 match (match jT E (oO lk) Ts vs with
  | some Z9=>match ye E (oO lk) g with
   | some q=>match pA q.ps q.r q.F Z9 with
    | some (pre,y)=>some (some pre,yJ [⟨q.r,y⟩],none)
    | none=>none
   | none=>none
  | none=>none) with
 | some r=>some r
 | none=>match jT E lk Ts vs with
  | some Z9=>match ye E lk g with
   | some q=>match pA q.ps q.r q.F Z9 with
    | some (pre,y)=>match TV.flat ⟨q.r,y⟩ with
     | true=>some (some pre,yJ [⟨q.r,y⟩],none)
     | false=>none
    | none=>none
   | none=>none
  | none=>none
def AV.Yk:AV->Bool
 | .dN | .fZ _ | .cK .. | .gp .. | .sub .. | .ed .. => false
 | _=>true
def Rn(E:Env)(op:BinOp)(T:TypeId)(u v:AV):Option (Vc×AV) :=
 match ag E.ty T,u,v with
 | some (.slice _,_), .aQ ⟨.slice _,xs⟩, .nil=>match op with
  | .eql=>some (.some (1<=xs.length), .aQ ⟨.bool,false⟩)
  | .neq=>some (.some (1<=xs.length), .aQ ⟨.bool,true⟩)
  | _=>none
 | _,_,_=>none
def Gw(n:aJ)(i:Nat):AV->Option AV
 | .cP v=>match v.Z9 (.st n) with
  | some y=>match (n.fields y)[i]? with
   | some f=>some (.cP f)
   | none=>none
  | none=>none
 | .ptr id off=>match Nat.blt i n.dr.length with
  | true=>some (.ptr id (off+n.dB i))
  | false=>none
 | .dS id k off=>match Nat.blt i n.dr.length with
  | true=>some (.dS id k (off+n.dB i))
  | false=>none
 | _=>none
def Lx(n:aJ)(i:Nat):AV->Option AV
 | .aQ v=>match v.Z9 (.st n) with
  | some y=>match (n.fields y)[i]? with
   | some f=>some (.aQ f)
   | none=>none
  | none=>none
 | .agg cs=>match n.dr[i]? with
  | some τ=>Cj cs (n.dB i) τ
  | none=>none
 | _=>none
def Fp(E:Env)(lk:Nat->Option aw)(ev:Operand->AV)(o:Oper):Option (Vc×AV×Option aw) :=
 match o.op with
 | .move x=>some (.none,ev x,none)
 | .assign x=>some (.none,ev x,none)
 | .pick c a b=>match ev c with
  | .aQ ⟨.bool,true⟩=>some (.none,ev a,none)
  | .aQ ⟨.bool,false⟩=>some (.none,ev b,none)
  | _=>none
 | .alloc T=>match o.dst,ag E.ty T with
  | some d,some (τ,_)=>some (.none, .ptr d 0,some (.box (zeroCells τ)))
  | _,_=>none
 | .box T x=>match o.dst,ag E.ty T with
  | some d,some (τ,_)=>match E.ro.contains d with
   | true=>match ri (λ _=>none) τ (ev x) with
    | some y=>some (.none, .cP ⟨τ,y⟩,none)
    | none=>none
   | false=>match cellsOf τ (ev x) with
    | some cs=>some (.none, .ptr d 0,some (.box cs))
    | none=>none
  | _,_=>none
 | .build T parts=>match ag E.ty T with
  | some (.st n,_)=>match partsOf E n (zeroCells (.st n)) (parts.toList.map λ p=>(p.1,ev p.2)) with
   | some cs=>some (.none, .agg cs,none)
   | none=>none
  | _=>none
 | .buildSlice T len parts=>match o.dst,ag E.ty T with
  | some d,some (.slice τ,_,e)=>match Nat.beq parts.size len&&Nat.ble len 1000 with
   | true=>match oY τ 0 (parts.toList.map λ p=>(p.1,ev p.2)) with
    | some xs=>match E.ro.contains d with
     | true=>some (.none, .aQ ⟨.slice τ,xs⟩,none)
     | false=>some (.none, .row d,some (.row e τ xs))
    | none=>none
   | false=>none
  | _,_=>none
 | .load T a=>match ag E.ty T with
  | some (τ,_)=>match oN lk τ (ev a) with
   | some v=>some (.none,v,none)
   | none=>none
  | none=>none
 | .nilCheck x=>match ev x with
  | .cP v=>some (.none, .cP v,none)
  | .ptr id off=>some (.none, .ptr id off,none)
  | .dS id i off=>some (.none, .dS id i off,none)
  | _=>none
 | .fieldAddr T x i=>match ag E.ty T with
  | some (.st n,_)=>match n.arr with
   | true=>none
   | false=>match Gw n i (ev x) with
    | some v=>some (.none,v,none)
    | none=>none
  | _=>none
 | .field T x i=>match ag E.ty T with
  | some (.st n,_)=>match n.arr with
   | true=>none
   | false=>match Lx n i (ev x) with
    | some v=>some (.none,v,none)
    | none=>none
  | _=>none
 | .indexAddr T x ix=>match ag E.ty T with
  | some (
      .slice τ,_)=>match ev ix with
   | .aQ ⟨.int _,n⟩=>match ev x with
    | .aQ v=>match v.Z9 (.slice τ) with
     | some xs=>some (.some (aE n xs.length), .cP ⟨τ,xs.getD n.toNat τ.zero⟩,none)
     | none=>none
    | .row id=>match lk id with
     | some (.row _ aT xs)=>match decide (aT=τ) with
      | true=>some (.some (aE n xs.length), .dS id n.toNat 0,none)
      | false=>none
     | _=>none
    | _=>none
   | _=>none
  | some (.st n,_)=>match n.arr,ev ix with
   | true, .aQ ⟨.int _, .ofNat i⟩=>match Gw n i (ev x) with
    | some v=>some (.none,v,none)
    | none=>none
   | _,_=>none
  | _=>none
 | .index T x ix=>match ag E.ty T with
  | some (.str,_)=>match ev ix with
   | .aQ ⟨.int _,n⟩=>match ev x with
    | .aQ ⟨.str,xs⟩=>some (.some (aE n xs.length), .aQ ⟨.int .u8,((xs.getD n.toNat 0).toNat:Int)⟩,none)
    | _=>none
   | _=>none
  | some (.st n,_)=>match n.arr,ev ix with
   | true, .aQ ⟨.int _, .ofNat i⟩=>match Lx n i (ev x) with
    | some v=>some (.none,v,none)
    | none=>none
   | _,_=>none
  | _=>none
 | .binOp op T x y _=>match Rn E op T (ev x) (ev y) with
  | some (p,v)=>some (p,v,none)
  | none=>match T3 (match ag E.ty T with
   | some (.bool,_)=>true
   | _=>false) (match o.dst with
   | some d=>E.wr.contains d
   | none=>false) op (ev x) (ev y) with
   | some (p,v)=>some (p,v,none)
   | none=>none
 | .unOp op _ x=>match op,ev x with
  | .not, .aQ ⟨.bool,b⟩=>some (.none, .aQ ⟨.bool,!b⟩,none)
  | .neg, .aQ ⟨.int k,n⟩=>some (.some (cI k (-n)), .aQ ⟨.int k,-n⟩,none)
  | _,_=>none
 | .convert src dst x=>match ag E.ty src,ag E.ty dst with
  | some (.int _,_),some (.int k,_)=>match ev x with
   | .aQ ⟨.int _,n⟩=>some (.some (cI k n), .aQ ⟨.int k,n⟩,none)
   | _=>none
  | _,_=>none
 | .slice T x lo hi mx=>match ag E.ty T,mx with
  | some (.slice τ,_),none=>match ev x with
   | .aQ v=>match v.Z9 (.slice τ) with
    | some xs=>match mO 0 (lo.map ev),mO (xs.length:Int) (hi.map ev) with
     | some l,some h=>some (.some (iE l h xs.length), .aQ ⟨.slice τ,(xs.take h.toNat).drop l.toNat⟩,none)
     | _,_=>none
    | none=>none
   | _=>none
  | some (.str,_),none=>match ev x with
   | .aQ ⟨.str,xs⟩=>match mO 0 (lo.map ev),mO (xs.length:Int) (hi.map ev) with
    | some l,some h=>some (.some (iE l h xs.length), .aQ ⟨.str,(xs.take h.toNat).drop l.toNat⟩,none)
    | _,_=>none
   | _=>none
  | _,_=>none
 | .extract t i=>match ev t with
  | .fZ vs=>match vs[i]? with
   | some v=>some (.none,v,none)
   | none=>none
  | _=>none
 | .makeSlice T l c=>match o.dst,ag E.ty T with
  | some d,some (.slice τ,b,e)=>match ev l,ev c with
   | .aQ ⟨.int .i64,n⟩, .aQ ⟨.int .i64,m⟩=>some (.some (cN n m b), .row d,some (.row e τ (List.replicate n.toNat τ.zero)))
   | _,_=>none
  | _,_=>none
 | .call c=>match c.callee with
  | .builtin .len=>match c.argTypes.toList,c.args.toList.map ev with
   | [T],[v]=>match ag E.ty T with
    | some (.slice _,_)=>match v with
     | .nil=>some (.none, .aQ ⟨.int .i64,(0:Int)⟩,none)
     | .aQ ⟨.slice _,xs⟩=>some (.none, .aQ ⟨.int .i64,(xs.length:Int)⟩,none)
     | .row id=>match lk id with
      | some (.row _ _ xs)=>some (.none, .aQ ⟨.int .i64,(xs.length:Int)⟩,none)
      | _=>none
     | _=>none
    | some (.str,_)=>match v with
     | .aQ ⟨.str,xs⟩=>some (.none, .aQ ⟨.int .i64,(xs.length:Int)⟩,none)
     | _=>none
    | none=>match v,ag E.Hj T with
     | .mp id,some _=>match lk id with
      | some (.map m)=>some (.none, .aQ ⟨.int .i64,(m.n:Int)⟩,none)
      | _=>none
     | _,_=>none
    | _=>none
   | _,_=>none
  | .builtin .append=>match o.dst,c.argTypes.toList with
   | some d,[T,T']=>match Nat.beq T T',ag E.ty T with
    | true,some (.slice τ,b,e)=>match c.args.toList.map ev with
     | [.nil,y]=>match ik (Ho lk) (.slice τ) y with
      | some ys=>some (.some (bB ys.length b), .row d,some (.row e τ ys))
      | none=>none
     | _=>none
    | _,_=>none
   | _,_=>none
  | .builtin .max=>match c.args.toList.map ev with
   | [.aQ ⟨.int k,m⟩, .aQ ⟨.int k',n⟩]=>match decide (k'=k) with
    | true=>some (.none, .aQ ⟨.int k,(max m n:Int)⟩,none)
    | false=>none
   | _=>none
  | .value (.func f)=>Cg E lk f c.argTypes.toList (c.args.toList.map ev)
  | .value (.tmp t)=>match ev (.tmp t) with
   | .fn f=>Cg E lk f c.argTypes.toList (c.args.toList.map ev)
   | .cK f cs=>wR E lk (.cK f cs) c.argTypes.toList (c.args.toList.map ev)
   | .gp v=>wR E lk (.gp v) c.argTypes.toList (c.args.toList.map ev)
   | _=>none
  | _=>none
 | .makeMap T none=>match o.dst,ag E.Hj T with
  | some d,some (κ,ε)=>some (.none, .mp d,some (.map ⟨κ,ε,ie κ.den ε.den,0⟩))
  | _,_=>none
 | .lookup T x ix ok=>match ag E.Hj T with
  | some (
      κ,ε)=>match ev x,ri (λ _=>none) κ (ev ix) with
   | .mp id,some k=>match lk id with
    | some (.map m)=>match m.Z9 κ ε with
     | some (f,_)=>match ok with
      | true=>some (.none, .fZ [.aQ ⟨ε,(f k).getD ε.zero⟩, .aQ ⟨.bool,(f k).isSome⟩],none)
      | false=>some (.none, .aQ ⟨ε,(f k).getD ε.zero⟩,none)
     | none=>none
    | _=>none
   | _,_=>none
  | none=>none
 | .makeFunc fn first captured=>match fn,first.toList,(captured.toList.map ev).all AV.Yk with
  | .func f,[],true=>match captured.toList.map ev with
   | []=>some (.none, .fn f,none)
   | cs=>some (.none, .cK f cs,none)
  | _,_,_=>none
 | _=>none
mutual
def AV.refs(id:Nat):AV->Bool
 | .ptr i _=>Nat.beq i id
 | .row i=>Nat.beq i id
 | .dS i _ _=>Nat.beq i id
 | .aC i=>Nat.beq i id
 | .sub i _ _ _=>Nat.beq i id
 | .ed i _ _ _=>Nat.beq i id
 | .mp i=>Nat.beq i id
 | .agg cs=>AV.eZ id cs
 | .fZ cs=>AV.eZ id cs
 | .cK _ cs=>AV.eZ id cs
 | _=>false
def AV.eZ(id:Nat):List AV->Bool
 | []=>false
 | v::r=>match AV.refs id v with
  | true=>true
  | false=>AV.eZ id r
end
def AV.kill(id:Nat)(v:AV):AV:=match v.refs id with
 | true => .any
 | false=>v
def aw.kill(id:Nat):aw->aw
 | .box cs => .box (cs.map (AV.kill id))
 | o=>o
def ah.bO(s:ah)(id:Nat):ah :=
 { aA:=s.aA.map (AV.kill id),aH:=s.aH.map λ p=>(p.1,p.2.kill id) }
def bD(id:Nat):List (Nat×aw)->List (Nat×aw)
 | []=>[]
 | (k,o)::r=>match Nat.beq k id with
  | true=>bD id r
  | false=>(k,o)::bD id r
def ah.put(s:ah)(d:Option Nat)(v:AV):ah :=
 match d with
 | some d=>{ s with aA:=s.aA.set d v }
 | none=>s
def ah.lay(s:ah)(d:Option Nat)(v:AV)(o:Option aw):ah :=
 match o,d with
 | some o,some d =>
  let s':=s.bO d;{ aA:=s'.aA.set d v,aH:=(d,o.kill d)::bD d s'.aH }
 | _,d=>s.put d v
mutual
def AV.rows:AV->List Nat
 | .row i=>[i]
 | .agg cs=>AV.Vh cs
 | _=>[]
def AV.Vh:List AV->List Nat
 | []=>[]
 | v::r=>AV.rows v++AV.Vh r
end
def Po(s:ah)(v:AV):List Nat :=
 match v with
 | .ptr id _=>match s.ag id with
  | some (.box cs)=>AV.Vh cs
  | _=>[]
 | v=>v.rows
def X2(s:ah)(v:AV):List Nat :=
 match v with
 | .cK _ cs=>cs.flatMap (Po s)
 | v=>Po s v
def jc(E:Env)(s:ah)(o:Oper):List Nat :=
 match (match o.dst with
  | some d=>E.own.contains d
  | none=>false) with
 | true=>[]
 | false=>match o.op with
 | .buildSlice _ _ parts=>parts.toList.flatMap λ p=>(s.eval p.2).rows
 | .slice _ x _ _ _=>(s.eval x).rows
 | .store _ a x=>match s.eval a with
  | .dS _ _ _=>(s.eval x).rows
  | _=>[]
 | .call c=>match c.callee with
  | .value _=>match E.Io (match c.callee with
    | .value (.func f)=>f
    | .value (.tmp t)=>match s.eval (.tmp t) with
     | .fn f=>f
     | _=>0
    | _=>0) (match jT E s.ag c.argTypes.toList (c.args.toList.map s.eval) with
     | some Z9=>Z9
     | none=>[]) with
   | some (_,res)=>match res.all TV.flat with
    | true=>[]
    | false=>c.args.toList.flatMap λ x=>X2 s (s.eval x)
   | none=>[]
  | _=>[]
 | _=>[]
mutual
def AV.CZ(id:Nat)(u:AV):AV->AV
 | .row i=>match Nat.beq i id with
  | true=>u
  | false => .row i
 | .dS i k off=>match Nat.beq i id with
  | true => .any
  | false => .dS i k off
 | .agg cs => .agg (AV.MI id u cs)
 | .fZ cs => .fZ (AV.MI id u cs)
 | .cK f cs => .cK f (AV.MI id u cs)
 | v=>v
def AV.MI(id:Nat)(u:AV):List AV->List AV
 | []=>[]
 | v::r=>AV.CZ id u v::AV.MI id u r
end
def aw.CZ(id:Nat)(u:AV):aw->aw
 | .box cs => .box (AV.MI id u cs)
 | o=>o
mutual
def AV.Ad(id:Nat)(u:AV):AV->AV
 | .aC i=>match Nat.beq i id with
  | true=>u
  | false => .aC i
 | .sub i k off z=>match Nat.beq i id with
  | true => .any
  | false => .sub i k off z
 | .ed i k off z=>match Nat.beq i id with
  | true => .any
  | false => .ed i k off z
 | .agg cs => .agg (AV.MH id u cs)
 | .fZ cs => .fZ (AV.MH id u cs)
 | .cK f cs => .cK f (AV.MH id u cs)
 | v=>v
def AV.MH(id:Nat)(u:AV):List AV->List AV
 | []=>[]
 | v::r=>AV.Ad id u v::AV.MH id u r
end
def aw.Ad(id:Nat)(u:AV):aw->aw
 | .box cs => .box (AV.MH id u cs)
 | o=>o
def ah.freeze(s:ah)(id:Nat):ah :=
 match s.ag id with
 | some (.row _ τ xs) =>
  { aA:=AV.MI id (.aQ ⟨.slice τ,xs⟩) s.aA,aH:=(bD id s.aH).map λ p=>(p.1,p.2.CZ id (.aQ ⟨.slice τ,xs⟩)) }
 | some (.aC τ xs) =>
  { aA:=AV.MH id (.aQ ⟨.slice τ,xs⟩) s.aA,aH:=(bD id s.aH).map λ p=>(p.1,p.2.Ad id (.aQ ⟨.slice τ,xs⟩)) }
 | _=>s
def Cr(E:Env)(s:ah)(d:Option Nat)(T:TypeId)(m k x:Operand):Option (Vc×ah):=match ag E.Hj T with
 | some (κ,ε)=>match s.eval m,s.eval x with
  | .mp id, .aQ v=>match s.ag id,ri (λ _=>none) κ (s.eval k),v.Z9 ε with
   | some (.map m),some k,some x=>match m.Z9 κ ε with
    | some (f,n)=>some (.some (n<1000000000),{ s with aH:=(id, .map ⟨κ,ε,eL f k x,fK (f k) n⟩)::bD id s.aH }.put d .any)
    | none=>none
   | _,_,_=>none
  | _,_=>none
 | none=>none
def QF(E:Env)(s:ah)(o:Oper):Option (Vc×ah) :=
 match o.op with
 | .mapUpdate T m k x=>Cr E s o.dst T m k x
 | .insert T m k x=>Cr E s o.dst T m k x
 | .store T a x=>match ag E.ty T with
  | some (
      τ,_)=>match s.eval a with
   | .ptr id off=>match s.ag id with
    | some (.box cs)=>match cellsOf τ (s.eval x) with
     | some new=>match putCells cs off new with
      | some dt=>some (.none,{ s with aH:=(id, .box dt)::bD id s.aH }.put o.dst .any)
      | none=>none
     | none=>none
    | _=>none
   | .dS id i 0=>match s.ag id with
    | some (.row e' aT xs)=>match decide (aT=τ),ri (λ _=>none) aT (s.eval x) with
     | true,some x=>some (.none,{ s with aH:=(id, .row e' aT (xs.set i x))::bD id s.aH }.put o.dst .any)
     | _,_=>none
    | _=>none
   | _=>none
  | none=>none
 | .call c=>match c.callee with
  | .builtin .append=>match o.dst,c.argTypes.toList with
   | some d,[T,T']=>match Nat.beq T T',ag E.ty T with
    | true,some (.slice τ,b,e)=>match c.args.toList.map s.eval with
     | [.row id,y]=>match s.ag id,ik (Ho s.ag) (.slice τ) y with
      | some (.row e' aT xs),some ys=>match Nat.beq e' e,TV.Z9 (.slice τ) ⟨.slice aT,xs⟩ with
       | true,some cF =>
        let s':=s.bO id;some (.some (bB (cF.length+ys.length) b),{ aA:=s'.aA.set d (.row id),aH:=(id, .row e τ (cF++ys))::bD id s'.aH })
       | _,_=>none
      | _,_=>none
     | _=>none
    | _,_=>none
   | _,_=>none
  | _=>none
 | _=>none
def nodupB:List Nat->Bool
 | []=>true
 | a::r=>match r.contains a with
  | true=>false
  | false=>nodupB r
def cU:Option aw->Bool
 | some (.aC ..)=>true
 | _=>false
def lA(id:Nat):TV->AV
 | ⟨.slice _,_⟩ => .aC id
 | ⟨.mv _,_⟩ => .any
 | u => .aQ u
def eP(id:Nat):TV->List (Nat×aw)
 | ⟨.slice τ,xs⟩=>[(id, .aC τ xs)]
 | _=>[]
def dG:Nat->List TV->List AV
 | _,[]=>[]
 | id,u::r=>lA id u::dG (id+1) r
def bT:Nat->List TV->List (Nat×aw)
 | _,[]=>[]
 | id,u::r=>eP id u++bT (id+1) r
def gR(id:Nat):TV->AV
 | ⟨.st s,y⟩ => .agg (dG id (s.cells y))
 | v=>lA id v
def Hu:Nat->List TV->List AV
 | _,[]=>[]
 | id,v::r=>gR id v::Hu (id+20) r
def bc:Nat->List TV->List (Nat×aw)
 | _,[]=>[]
 | id,v::r=>bT id v.cells++bc (id+20) r
def iM(id:Nat):List TV->AV
 | [v]=>gR id v
 | vs => .fZ (Hu id vs)
def Ty.agg:Ty->Bool
 | .st _=>true
 | _=>false
def Ty.pj:Ty->Bool
 | .int _ | .bool | .str | .ptr=>true
 | _=>false
def Ty.key:Ty->Bool
 | .int _ | .bool | .str=>true
 | _=>false
def Ty.DG:Ty->Bool
 | .st s=>s.arr&&(decide (s.my=[.int .i64, .int .i64])&&decide (s.dr=[.int .i64, .int .i64]))
 | t=>t.key
def Ty.plain:Ty->Bool
 | .st s=>s.my.all Ty.pj
 | .slice _=>false
 | .mv _=>false
 | _=>true
def eA(lk:Nat->Option aw)(τ:Ty):AV->Option (τ.den×List Nat)
 | .aQ v=>match τ.pj,v.Z9 τ with
  | true,some y=>some (y,[])
  | _,_=>none
 | .nil=>match τ with
  | .slice _=>some ([],[])
  | _=>none
 | .aC id=>match lk id with
  | some (.aC aT xs)=>match TV.Z9 τ ⟨.slice aT,xs⟩ with
   | some y=>some (y,[id])
   | none=>none
  | _=>none
 | .row id=>match lk id with
  | some (.row _ aT xs)=>match aT.plain,TV.Z9 τ ⟨.slice aT,xs⟩ with
   | true,some y=>some (y,[id])
   | _,_=>none
  | _=>none
 | _=>none
def HQ(lk:Nat->Option aw):List AV->List Ty->Option (List TV×List Nat)
 | [],[]=>some ([],[])
 | c::cs,t::ts=>match eA lk t c with
  | some (x,i)=>match HQ lk cs ts with
   | some (r,j)=>some (⟨t,x⟩::r,i++j)
   | none=>none
  | none=>none
 | _,_=>none
def FE(lk:Nat->Option aw)(τ:Ty):AV->Option (τ.den×List Nat)
 | .agg cs=>match τ with
  | .st s=>match HQ lk cs s.my with
   | some (l,ids)=>match s.fL l with
    | some y=>some (y,ids)
    | none=>none
   | none=>none
  | _=>none
 | v=>eA lk τ v
mutual
def AV.HM:AV->Bool
 | .sub .. => true
 | .agg cs=>AV.mn cs
 | .fZ cs=>AV.mn cs
 | .cK _ cs=>AV.mn cs
 | _=>false
def AV.mn:List AV->Bool
 | []=>false
 | v::r=>match AV.HM v with
  | true=>true
  | false=>AV.mn r
end
def AV.cO(v:AV):AV:=match v.HM with
 | true => .any
 | false=>v
def aw.cO:aw->aw
 | .box cs => .box (cs.map AV.cO)
 | o=>o
def ah.bX(s:ah):ah:={ aA:=s.aA.map AV.cO,aH:=s.aH.map λ p=>(p.1,p.2.cO) }
def ah.fb(s:ah)(id:Nat)(τ:Ty)(xs:List τ.den):ah :=
 { s with aH:=(id, .aC τ xs)::bD id s.aH }
def ah.gone(s:ah)(id:Nat):ah :=
 let s':=s.bO id
 { s' with aH:=bD id s'.aH }
def lB(τ:Ty)(x:τ.den)(off:Nat)(u:TV):Option τ.den :=
 match τ with
 | .st s=>match (s.cells x)[off]? with
  | some v=>match decide (v.τ=u.τ) with
   | true=>s.fL ((s.cells x).set off u)
   | false=>none
  | none=>none
 | τ=>match Nat.beq off 0 with
  | true=>u.Z9 τ
  | false=>none
def Ty.full:Ty->Ty
 | .mv t => .slice t
 | t=>t
def Ty.a2G:Ty->Ty->Bool
 | .st p, .st q=>decide (p.my.map Ty.full=q.my)
 | _,_=>false
def Ty.LD:Ty->Bool
 | .mv _=>true
 | t=>t.pj
def Uk:TV->TV
 | ⟨.mv t,o⟩=>⟨.slice t,Option.getD (α:=List t.den) o []⟩
 | u=>u
def QE:TV->TV
 | ⟨.mv t,_⟩=>⟨.mv t,(none:Option (List t.den))⟩
 | u=>u
def wA:List TV->Prop
 | []=>True
 | ⟨.mv t,o⟩::r=>Option.isSome (α:=List t.den) o=true/\wA r
 | _::r=>wA r
def a1n(_:ah)(_:Nat)(_:RW)(_:List AV):Option (Vc×ah):=none
def Uc:Ty->Bool
 | .slice _=>true
 | t=>t.pj
def Iq(id i sz:Nat):Nat->List TV->List AV
 | _,[]=>[]
 | j,u::us=>(match u.τ.pj with
  | true => .aQ u
  | false => .sub id i j sz)::Iq id i sz (j+1) us
def SR(s:ah)(d:Option Nat)(id i off sz:Nat)(τ aT:Ty)(xs:List aT.den):Option (Vc×ah):=match τ with
 | .st q=>match Nat.beq q.size sz&&(Nat.beq off 0&&q.my.all Uc),TV.Z9 (.st q) ⟨aT,xs.getD i aT.zero⟩ with
  | true,some y=>some (.none,s.put d (.agg (Iq id i sz 0 (q.cells y))))
  | _,_=>none
 | _=>none
def Rs(E:Env)(s:ah)(o:Oper):Option (Vc×ah) :=
 match o.op with
 | .indexAddr T x ix=>match ag E.ty T with
  | some (.slice τ,_)=>match s.eval ix,s.eval x with
   | .aQ ⟨.int _,n⟩, .aC id=>match s.ag id with
    | some (.aC aT xs)=>match decide (aT=τ)||aT.a2G τ with
     | true=>some (.some (aE n xs.length),s.put o.dst (.ed id n.toNat 0 τ.size))
     | false=>none
    | _=>none
   | _,_=>none
  | _=>none
 | .fieldAddr T x i=>match ag E.ty T with
  | some (.st n,_)=>match s.eval x with
   | .ed id k off sz=>match !n.arr&&Nat.blt i n.dr.length with
    | true=>some (.none,s.put o.dst (.ed id k (off+n.dB i) sz))
    | false=>none
   | _=>none
  | _=>none
 | .load T ad=>match ag E.ty T with
  | some (
      τ,_)=>match s.eval ad with
   | .ed id i off sz=>match s.ag id with
    | some (.aC aT xs)=>match TV.part ⟨aT,xs.getD i aT.zero⟩ off τ,Nat.beq aT.size sz&&(!τ.agg&&Nat.blt off aT.size) with
     | some u,true=>match τ.pj with
      | true=>some (.none,s.put o.dst (.aQ u))
      | false=>some (.none,s.put o.dst (.sub id i off sz))
     | _,_=>SR s o.dst id i off sz τ aT xs
    | _=>none
   | _=>none
  | none=>none
 | .store T ad x=>match ag E.ty T with
  | some (
      τ,_)=>match s.eval ad with
   | .ed id i off sz=>match s.ag id with
    | some (
        .aC aT xs)=>match Nat.beq aT.size sz&&Nat.blt off aT.size with
     | true=>match τ.pj with
      | true=>match eA (λ _=>none) τ (s.eval x) with
       | some (u,_)=>match TV.part ⟨aT,xs.getD i aT.zero⟩ off τ,lB aT (xs.getD i aT.zero) off ⟨τ,u⟩ with
        | some _,some y=>some (.none,(s.bX.fb id aT (xs.set i y)).put o.dst .any)
        | _,_=>none
       | none=>none
      | false=>match Nat.beq off 0,FE s.ag τ (s.eval x) with
       | true,some (y,ids)=>match nodupB (id::ids),TV.Z9 aT ⟨τ,y⟩ with
        | true,some y'=>some (.none,((ids.foldl ah.gone s).bX.fb id aT (xs.set i y')).put o.dst .any)
        | _,_=>none
       | _,_=>none
     | false=>none
    | _=>none
   | _=>none
  | none=>none
 | .makeSlice T l cc=>match o.dst,ag E.ty T with
  | some d,some (.slice τ,b,_)=>match E.own.contains d&&(Nat.blt d 50||Nat.ble 100 d) with
   | true=>match s.eval l,s.eval cc with
    | .aQ ⟨.int .i64,n⟩, .aQ ⟨.int .i64,m⟩=>some (.some (cN n m b),{ aA:=(s.gone d).aA.set d (.aC d),aH:=(d, .aC τ (List.replicate n.toNat τ.zero))::(s.gone d).aH })
    | _,_=>none
   | false=>none
  | _,_=>none
 | .call c=>match c.callee with
  | .builtin .len=>match c.argTypes.toList,c.args.toList.map s.eval with
   | [T],[.aC id]=>match ag E.ty T,s.ag id with
    | some (.slice _,_),some (.aC _ xs)=>some (.none,s.put o.dst (.aQ ⟨.int .i64,(xs.length:Int)⟩))
    | _,_=>none
   | _,_=>none
  | .value (
       .func f)=>match o.dst with
   | some d=>match E.own.contains d with
    | true=>match E.mark f with
     | some m=>a1n s d m (c.args.toList.map s.eval)
     | none=>match jT E s.ag c.argTypes.toList (c.args.toList.map s.eval) with
      | some Z9=>match E.Hp f Z9 with
       | some (pre,res)=>match ((bc (100 * (d+1)) res).all λ p=>(s.ag p.1).isNone)&&nodupB ((bc (100 * (d+1)) res).map (·.1)) with
        | true=>some (pre,{ aA:=s.aA.set d (iM (100 * (d+1)) res),aH:=bc (100 * (d+1)) res++s.aH })
        | false=>none
       | none=>none
      | none=>none
    | false=>none
   | none=>none
  | _=>none
 | _=>none
def bF(d:Nat):Nat:=100 * (d+1)
def B3(lk:Nat->Option aw)(τ:Ty):Nat->List (Nat×AV)->Option (List τ.den×List Nat)
 | _,[]=>some ([],[])
 | n,(
    i,v)::r=>match Nat.beq i n with
  | true=>match FE lk τ v with
   | some (x,ids)=>match B3 lk τ (n+1) r with
    | some (xs,js)=>some (x::xs,ids++js)
    | none=>none
   | none=>none
  | false=>none
def ah.oU(s:ah)(d:Nat)(τ:Ty)(xs:List τ.den):ah :=
 { aA:=s.aA.set d (.aC (bF d)),aH:=(bF d, .aC τ xs)::s.aH }
def fG(E:Env)(lk:Nat->Option aw):List Bool->List TypeId->List AV->Option (List (Option TV)×List Nat)
 | [],[],[]=>some ([],[])
 | true::fl,T::Ts,v::vs=>match ag E.ty T with
  | some (τ,_)=>match FE lk τ v with
   | some (x,i)=>match fG E lk fl Ts vs with
    | some (r,j)=>some (some ⟨τ,x⟩::r,i++j)
    | none=>none
   | none=>none
  | none=>none
 | false::fl,_::Ts,_::vs=>match fG E lk fl Ts vs with
  | some (r,j)=>some (none::r,j)
  | none=>none
 | _,_,_=>none
def eJ(E:Env)(lk:Nat->Option aw):List (Option TV)->List TypeId->List AV->Option (List Arg)
 | [],[],[]=>some []
 | some x::r,_::Ts,_::vs=>match eJ E lk r Ts vs with
  | some Z9=>some (.own x::Z9)
  | none=>none
 | none::r,T::Ts,v::vs=>match L4 E lk T v with
  | some x=>match x.Fy,eJ E lk r Ts vs with
   | true,some Z9=>some (x::Z9)
   | _,_=>none
  | none=>none
 | _,_,_=>none
def Qq(E:Env)(s:ah)(o:Oper):Option (Vc×ah) :=
 match o.dst with
 | some d=>match E.own.contains d with
  | true=>match o.op with
   | .buildSlice T len parts=>match ag E.ty T with
    | some (.slice τ,_)=>match Nat.beq parts.size len&&Nat.ble len 1000 with
     | true=>match B3 s.ag τ 0 (parts.toList.map λ p=>(p.1,s.eval p.2)) with
      | some (xs,ids)=>match nodupB ids,(ids.foldl ah.gone s).ag (bF d) with
       | true,none=>some (.none,(ids.foldl ah.gone s).oU d τ xs)
       | _,_=>none
      | none=>none
     | false=>none
    | _=>none
   | .load T ad=>match ag E.ty T,s.eval ad with
    | some (.st q,_), .ed id i 0 sz=>match s.ag id with
     | some (.aC (.st p) xs)=>match Nat.beq p.size sz&&p.my.all Ty.LD,p.fL ((p.cells (xs.getD i (Ty.zero (.st p)))).map QE),q.fL ((p.cells (xs.getD i (Ty.zero (.st p)))).map Uk) with
      | true,some y,some z=>match ((bT (bF d) (q.cells z)).all λ e=>(s.ag e.1).isNone)&&nodupB ((bT (bF d) (q.cells z)).map (·.1)) with
       | true=>some (.some (wA (p.cells (xs.getD i (Ty.zero (.st p))))),{ aA:=s.bX.aA.set d (gR (bF d) ⟨.st q,z⟩),aH:=bT (bF d) (q.cells z)++(s.bX.fb id (.st p) (xs.set i y)).aH })
       | false=>none
      | _,_,_=>none
     | _=>none
    | _,_=>none
   | .call c=>match c.callee with
    | .builtin .append=>match c.argTypes.toList with
     | [T,T']=>match Nat.beq T T',ag E.ty T with
      | true,some (.slice τ,b,_)=>match c.args.toList.map s.eval with
       | [x,y]=>match eA s.ag (.slice τ) x,eA s.ag (.slice τ) y with
        | some (xs,i),some (ys,j)=>match nodupB (i++j),((i++j).foldl ah.gone s).ag (bF d) with
         | true,none=>some (.some (bB (xs.length+ys.length) b),((i++j).foldl ah.gone s).oU d τ (xs++ys))
         | _,_=>none
        | _,_=>none
       | _=>none
      | _,_=>none
     | _=>none
    | .value (
         .func f)=>match E.tk f with
     | []=>none
     | fl=>match fG E s.ag fl c.argTypes.toList (c.args.toList.map s.eval) with
      | some (own,ids)=>match nodupB ids,eJ E (ids.foldl ah.gone s).ag own c.argTypes.toList (c.args.toList.map (ids.foldl ah.gone s).eval) with
       | true,some Z9=>match E.Hp f Z9 with
        | some (pre,res)=>match ((bc (bF d) res).all λ p=>((ids.foldl ah.gone s).ag p.1).isNone)&&nodupB ((bc (bF d) res).map (·.1)) with
         | true=>some (pre,{ aA:=(ids.foldl ah.gone s).aA.set d (iM (bF d) res),aH:=bc (bF d) res++(ids.foldl ah.gone s).aH })
         | false=>none
        | none=>none
       | _,_=>none
      | none=>none
    | _=>none
   | _=>none
  | false=>none
 | none=>none
def gU:List (Option Nat)->List AV->List (Nat×Nat)->Option (List (Nat×Nat))
 | [],[],m=>some m
 | some k::fl,v::vs,m=>match v with
  | .ptr id 0=>match ag m k with
   | some i=>match Nat.beq i id with
    | true=>gU fl vs m
    | false=>none
   | none=>gU fl vs ((k,id)::m)
  | _=>none
 | none::fl,_::vs,m=>gU fl vs m
 | _,_,_=>none
def cM(lk:Nat->Option aw):List CK->List AV->List (Nat×Nat)->Option (List TV×List Nat×List (Nat×Nat))
 | [],[],m=>some ([],[],m)
 | .d τ::ks,v::vs,m=>match ik (λ _=>none) τ v,τ.agg with
  | some x,false=>match cM lk ks vs m with
   | some (ds,ids,m)=>some (⟨τ,x⟩::ds,ids,m)
   | none=>none
  | _,_=>none
 | .o τ::ks,v::vs,m=>match eA lk τ v,τ.agg with
  | some (x,i),false=>match cM lk ks vs m with
   | some (ds,ids,m)=>some (⟨τ,x⟩::ds,i++ids,m)
   | none=>none
  | _,_=>none
 | .p j::ks,v::vs,m=>match v with
  | .ptr id 0=>match ag m j with
   | some i=>match Nat.beq i id with
    | true=>cM lk ks vs m
    | false=>none
   | none=>cM lk ks vs ((j,id)::m)
  | _=>none
 | _,_,_=>none
def jR(lk:Nat->Option aw):List (List CK)->Nat->List (Nat×Nat)->Option (List (List TV)×List Nat×List (Nat×Nat))
 | [],_,m=>some ([],[],m)
 | ks::sh,k,m=>match ag m k with
  | some id=>match lk id with
   | some (.box cs)=>match cM lk ks cs m with
    | some (ds,i,m)=>match jR lk sh (k+1) m with
     | some (cA,ids,m)=>some (ds::cA,i++ids,m)
     | none=>none
    | none=>none
   | _=>none
  | none=>none
def Rr(lk:Nat->Option aw)(ids:List Nat)(id:Nat):Option aw:=match ids.contains id with
 | true=>none
 | false=>match lk id with
  | some (.box cs)=>some (.box cs)
  | _=>none
def Gv(sh:List (List CK)):Bool:=sh.all λ ks=>ks.all λ k=>match k with
 | .d (.slice _)=>false
 | .d (.mv _)=>false
 | _=>true
def Xs(sh:List (List CK))(lk:Nat->Option aw)(ids:List Nat)(id:Nat):Option aw:=match Gv sh with
 | true=>match ids.contains id with
  | true=>none
  | false=>lk id
 | false=>Rr lk ids id
def nv(E:Env)(lk:Nat->Option aw):List (Option Nat)->List TypeId->List AV->Option (List Arg)
 | [],[],[]=>some []
 | some k::fl,_::Ts,_::vs=>match nv E lk fl Ts vs with
  | some r=>some (.box k::r)
  | none=>none
 | none::fl,T::Ts,v::vs=>match L4 E lk T v with
  | some x=>match nv E lk fl Ts vs with
   | some r=>some (x::r)
   | none=>none
  | none=>none
 | _,_,_=>none
def bN(m:List (Nat×Nat)):List CK->List AV->List TV->Nat->Option (List AV×List (Nat×aw)×Nat)
 | [],[],[],n=>some ([],[],n)
 | .d τ::ks,_::cs,v::ds,n=>match decide (v.τ=τ) with
  | true=>match bN m ks cs ds n with
   | some (r,os,n)=>some (.aQ v::r,os,n)
   | none=>none
  | false=>none
 | .o τ::ks,_::cs,v::ds,n=>match decide (v.τ=τ) with
  | true=>match bN m ks cs ds (n+1) with
   | some (r,os,n')=>some (lA n v::r,eP n v++os,n')
   | none=>none
  | false=>none
 | .p j::ks,c::cs,ds,n=>match c with
  | .ptr id 0=>match ag m j with
   | some i=>match Nat.beq i id,bN m ks cs ds n with
    | true,some (r,os,n)=>some (.ptr id 0::r,os,n)
    | _,_=>none
   | none=>none
  | _=>none
 | _,_,_,_=>none
def oB(lk:Nat->Option aw)(m:List (Nat×Nat)):List (List CK)->Nat->List (List TV)->Nat->Option (List (Nat×aw)×List (Nat×aw))
 | [],_,[],_=>some ([],[])
 | ks::sh,k,ds::cA,n=>match ag m k with
  | some id=>match lk id with
   | some (.box cs)=>match bN m ks cs ds n with
    | some (r,os,n)=>match oB lk m sh (k+1) cA n with
     | some (bs,ts)=>some ((id, .box r)::bs,os++ts)
     | none=>none
    | none=>none
   | _=>none
  | none=>none
 | _,_,_,_=>none
def fD:List Nat->List (Nat×aw)->List (Nat×aw)
 | [],os=>os
 | id::r,os=>fD r (bD id os)
def RQ(E:Env)(s:ah)(d:Nat)(f:FuncId)(Ts:List TypeId)(vs:List AV):Option (Vc×ah) :=
 match vs.reverse with
 | .aC id::rv=>match s.ag id with
  | some (.aC τ xs)=>match nv E (Rr s.ag []) (rv.map λ _=>none) Ts.dropLast rv.reverse with
   | some Z9=>match E.Kl f Z9 τ xs,τ.pj with
    | some (pre,ys),true=>some (pre,(s.bX.fb id τ ys).put (some d) .any)
    | _,_=>none
   | none=>none
  | _=>none
 | _=>none
def RF(E:Env)(s:ah)(o:Oper):Option (Vc×ah) :=
 match o.dst with
 | some d=>match o.op with
  | .call c=>match c.callee with
   | .value (
        .func f)=>match E.sk f with
    | some sk=>match gU sk.ps (c.args.toList.map s.eval) [] with
     | some m0=>match jR s.ag sk.sh 0 m0 with
      | some (
          cA,ids,m)=>match nodupB ids&&(nodupB (m.map (·.1))&&(nodupB (m.map (·.2))&&Nat.beq m.length sk.sh.length)) with
       | true=>match nv E (Xs sk.sh (ids.foldl ah.gone s).ag (m.map (·.2))) sk.ps c.argTypes.toList (c.args.toList.map (ids.foldl ah.gone s).eval) with
        | some Z9=>match E.P3 f Z9 cA with
         | some (pre,res,eD)=>match oB (ids.foldl ah.gone s).ag m sk.sh 0 eD (bF d+60) with
          | some (bs,ts)=>match ((bc (bF d) res++ts).all λ p=>((ids.foldl ah.gone s).ag p.1).isNone)&&nodupB ((bc (bF d) res++ts).map (·.1)) with
           | true=>some (pre,{ aA:=(ids.foldl ah.gone s).aA.set d (iM (bF d) res),aH:=bs++(bc (bF d) res++ts)++fD (m.map (·.2)) (ids.foldl ah.gone s).aH })
           | false=>none
          | none=>none
         | none=>none
        | none=>none
       | false=>none
      | none=>none
     | none=>none
    | none =>
     match RQ E s d f c.argTypes.toList (c.args.toList.map s.eval) with
     | some r=>some r
     | none =>
      none
   | _=>none
  | _=>none
 | none=>none
def known(v:AV)(K:Prop):Prop :=
 match v with
 | .aQ ⟨.int .i64,n⟩=>au n->K
 | .aQ ⟨.slice _,xs⟩=>xs.length<=140737488355328->K
 | .aQ ⟨.str,xs⟩=>xs.length<=140737488355328->K
 | _=>K
def Om:Op->Bool
 | .load .. | .field .. | .index .. | .extract .. => true
 | .call c=>match c.callee with
  | .builtin .append=>false
  | _=>true
 | _=>false
def pE:Option Nat->Bool
 | none=>true
 | some d=>Nat.blt d 400000
def AV.stays:AV->Bool
 | .aQ v=>match v.τ with
  | .ptr=>false
  | _=>true
 | .cP _=>true
 | _=>false
def a6f:Bool×TV->AV
 | (true,v) => .cP v
 | (false,v) => .aQ v
def Ro(E:Env)(s:ah)(o:Oper):Option (Vc×AV×Option aw):=match o.op with
 | .call c=>match c.callee with
  | .value (.func f)=>match o.dst with
   | some d=>match jT E (oO s.ag) c.argTypes.toList (c.args.toList.map s.eval) with
    | some Z9=>match E.NC f Z9 with
     | some (pre, .box cells)=>some (pre, .ptr d 0,some (.box (cells.map .aQ)))
     | some (pre, .row e τ xs)=>some (pre, .row d,some (.row e τ xs))
     | some (pre, .res l)=>match (c.args.toList.map s.eval).all AV.stays with
      | true=>some (pre, .fZ (l.map a6f),none)
      | false=>none
     | none=>none
    | none=>none
   | none=>none
  | _=>none
 | _=>none
def jg(E:Env)(o:Oper)(K:ah->Prop)(s:ah):Prop :=
 match pE o.dst with
 | false=>False
 | true =>
 let s:=(jc E s o).foldl ah.freeze s;match RF E s o with
 | some (vc,s')=>vc.and (K s')
 | none=>match Qq E s o with
 | some (vc,s')=>vc.and (K s')
 | none=>match QF E s o with
 | some (vc,s')=>vc.and (K s')
 | none=>match Rs E s o with
 | some (vc,s')=>vc.and (K s')
 | none=>match Ro E s o with
 | some (vc,v,ob)=>vc.and (K (s.lay o.dst v ob))
 | none=>match Fp E s.ag s.eval o with
  | some (vc,v,ob)=>vc.and (match Om o.op with
   | true=>known v (K (s.lay o.dst v ob))
   | false=>K (s.lay o.dst v ob))
  | none=>False
def sL(ops:Array Oper)(g:Nat):Option Nat:=(ops[g]?).bind (·.dst)
def eB(
      E:Env) (ops:Array Oper):List Oper->List (Nat×Bool)->(ah->Prop)->ah->Prop
 | [],_,Q,s=>Q s
 | o::r,kn,Q,s=>match o.guard with
  | none=>jg E o (eB E ops r kn Q) s
  | some (
      g,want)=>match sL ops g with
   | none=>False
   | some t=>match ag kn t with
    | some b=>match s.eval (.tmp t) with
     | .aQ ⟨.bool,b'⟩=>match b' == b,b == want with
      | true,true=>jg E o (eB E ops r kn Q) s
      | true,false=>eB E ops r kn Q (s.put o.dst .dN)
      | false,_=>False
     | .dN=>eB E ops r kn Q (s.put o.dst .dN)
     | _=>False
    | none=>match s.eval (.tmp t) with
     | .aQ ⟨.bool,b⟩ =>
      (b=want->jg E o (eB E ops r ((t,want)::kn) Q) (s.put (some t) (.aQ ⟨.bool,want⟩))) /\
      (b = !want->eB E ops r ((t,!want)::kn) Q ((s.put (some t) (.aQ ⟨.bool,!want⟩)).put o.dst .dN))
     | .dN=>eB E ops r kn Q (s.put o.dst .dN)
     | _=>False
def rE(acc:List Nat)(s:Nat)(e:Edge):Nat :=
 match Region.binds .any e with
 | true=>s ||| (1 <<< e.on ||| acc.getD e.on 0)
 | false=>s
def bG:List Oper->List Nat->List Nat
 | [],acc=>acc
 | o::r,acc=>bG r (acc++[o.after.toList.foldl (rE acc) 0])
def lC:List Nat->Nat->Nat->Nat
 | [],_,m=>m
 | b::r,i,m=>match Nat.beq (b+1) (2 ^ i) with
  | true=>lC r (i+1) m
  | false=>lC r (i+1) (i+1)
def bZ(ops:List Oper)(k:Nat):Option Nat:=(ops[k]?).bind (·.dst)
def hidden(ops:List Oper)(m bits t:Nat):Bool:=(List.range m).any λ k=>match bZ ops k with
 | some d=>match Nat.beq d t with
  | true => !Nat.testBit bits k
  | false=>false
 | none=>false
def OE(ops:List Oper)(m bits:Nat)(s:ah):Operand->AV
 | .tmp t=>match hidden ops m bits t with
  | true => .any
  | false=>s.eval (.tmp t)
 | x=>s.eval x
def Lc(ops:List Oper)(m bits:Nat)(s:ah)(id:Nat):Option aw:=match hidden ops m bits id with
 | true=>none
 | false=>s.ag id
def sb:Op->Bool
 | .alloc _ | .box .. | .buildSlice .. | .makeSlice .. | .makeMap .. => true
 | .call c=>match c.callee with
  | .builtin .append=>true
  | _=>false
 | _=>false
def ah.fresh(s:ah)(o:Oper):ah :=
 match sb o.op,o.dst with
 | true,some d=>let s':=s.bO d
  { s' with aH:=bD d s'.aH }
 | _,_=>s
def ah.hU(s:ah)(d:Option Nat)(v:AV)(o:Option aw):ah :=
 match d with
 | some d=>{ aA:=s.aA.set d v,aH:=match o with
  | some o=>(d,o)::s.aH
  | none=>s.aH }
 | none=>s
def HD(E:Env)(ops:List Oper)(m bits:Nat)(o:Oper)(K:ah->Prop)(s:ah):Prop :=
 match jc E s o with
 | []=>match Fp E (Lc ops m bits s) (OE ops m bits s) o with
  | some (vc,v,ob)=>vc.and (K (s.hU o.dst v ob))
  | none=>False
 | _=>False
def kh(
      E:Env) (ops:List Oper) (m:Nat) (bM:List Nat):Nat->List Oper->List (Nat×Bool)->(List (Nat×Bool)->ah->Prop)->ah->Prop
 | _,[],kn,Q,s=>Q kn s
 | i,o::r,kn,Q,s=>match o.guard with
  | none=>HD E ops m (bM.getD i 0) o (kh E ops m bM (i+1) r kn Q) s
  | some (
      g,want)=>match bZ ops g,Nat.testBit (bM.getD i 0) g with
   | some t,true=>match ag kn t with
    | some b=>match s.eval (.tmp t) with
     | .aQ ⟨.bool,b'⟩=>match b' == b,b == want with
      | true,true=>HD E ops m (bM.getD i 0) o (kh E ops m bM (i+1) r kn Q) s
      | true,false=>kh E ops m bM (i+1) r kn Q (s.put o.dst .dN)
      | false,_=>False
     | .dN=>kh E ops m bM (i+1) r kn Q (s.put o.dst .dN)
     | _=>False
    | none=>match s.eval (.tmp t) with
     | .aQ ⟨.bool,b⟩ =>
      (b=want->HD E ops m (bM.getD i 0) o (kh E ops m bM (i+1) r ((t,want)::kn) Q) (s.put (some t) (.aQ ⟨.bool,want⟩))) /\
      (b = !want->kh E ops m bM (i+1) r ((t,!want)::kn) Q ((s.put (some t) (.aQ ⟨.bool,!want⟩)).put o.dst .dN))
     | .dN=>kh E ops m bM (i+1) r kn Q (s.put o.dst .dN)
     | _=>False
   | _,_=>False
def distinct:List (Option Nat)->Bool
 | []=>true
 | none::_=>false
 | some d::r=>match r.any λ x=>match x with
   | some e=>Nat.beq d e
   | none=>false with
  | true=>false
  | false=>distinct r
def backward(ops:List Oper):Bool:=(List.range ops.length).all λ i=>match ops[i]? with
 | some o=>o.after.toList.all λ e=>match Region.binds .any e with
  | true=>Nat.blt e.on i
  | false=>true
 | none=>true
def rG(ops:List Oper)(s:ah)(K:Prop):Prop :=
 match ops with
 | []=>K
 | o::r=>match Om o.op,o.dst with
  | true,some d=>known (s.aA.getD d .any) (rG r s K)
  | _,_=>rG r s K
def Na(bM:List Nat)(p:Nat):Bool:=(bM.drop p).all λ b=>Nat.beq (b % 2 ^ p) (2 ^ p - 1)
def Qs(bM:List Nat):List Nat->List Nat
 | []=>[]
 | p::r=>match Na bM p with
  | true=>p::Qs bM r
  | false=>Qs bM r
def sf:List (Option Nat)->Bool
 | []=>true
 | none::r=>sf r
 | some d::r=>match r.any λ x=>match x with
   | some e=>Nat.beq d e
   | none=>false with
  | true=>false
  | false=>sf r
def A4(l:List Oper)(lo hi:Nat):Bool :=
 ((
  (l.take hi).drop lo).all λ o=>pE o.dst)&&sf (((l.take hi).drop lo).map (·.dst))&&(l.take lo).all λ o=>match o.dst with
  | none=>true
  | some d => !(((l.take hi).drop lo).any λ p=>match p.dst with
   | some e=>Nat.beq d e
   | none=>false)
def Oper.alone(E:Env)(o:Oper):Bool:=match o.op with
 | .store .. | .mapUpdate .. | .insert .. => true
 | _=>match o.dst with
  | some d=>E.own.contains d
  | none=>false
def tQ(u v:TV):Prop:=match u.Z9 v.τ with
 | some x=>x=v.x
 | none=>False
def Rt:Op->Option (List Operand)
 | .move x | .assign x | .nilCheck x | .fieldAddr _ x _ | .load _ x | .box _ x | .extract x _=>some [x]
 | .indexAddr _ x i | .store _ x i | .lookup _ x i _=>some [x,i]
 | .mapUpdate _ m k x | .insert _ m k x=>some [m,k,x]
 | .makeMap _ none=>some []
 | .alloc _=>some []
 | .binOp _ _ x y _=>some [x,y]
 | .build _ ps=>some (ps.toList.map (·.2))
 | .buildSlice _ _ ps=>some (ps.toList.map (·.2))
 | .call c=>match c.callee with
  | .value f=>some (f::c.args.toList)
  | .builtin _=>some c.args.toList
  | _=>none
 | .pick c x y=>some [c,x,y]
 | .slice _ x l h m=>some (x::(l.toList++(h.toList++m.toList)))
 | _=>none
def eR(D:List Nat)(o:Oper):Bool:=match Rt o.op with
 | some l=>l.all λ x=>match x with
  | .tmp t => !D.contains t
  | _=>true
 | none=>false
def reads:Op->Bool
 | .move _ | .nilCheck _ | .fieldAddr .. | .load .. | .indexAddr .. => true
 | _=>false
def Xr(E:Env)(s:ah)(o:Oper):Option (Vc×AV):=match reads o.op with
 | true=>match Fp E s.ag s.eval o with
  | some (vc,v,none)=>some (vc,v)
  | _=>none
 | false=>none
def FW:AV->AV->Prop
 | .aQ v, .aQ u=>tQ v u
 | .cP v, .cP u=>tQ v u
 | .aC i, .aC j=>i=j
 | .row i, .row j=>i=j
 | .ptr i p, .ptr j q=>i=j/\p=q
 | .nil, .nil=>True
 | .dN, .dN=>True
 | _,_=>False
def L7:List AV->List AV->Prop
 | [],[]=>True
 | a::Z9,b::bs=>FW a b/\L7 Z9 bs
 | _,_=>False
def Ql(a b:AV):Prop:=match a,b with
 | .agg Z9, .agg bs=>L7 Z9 bs
 | a,b=>FW a b
def fN(E:Env):List (Nat×Oper)->ah->Prop->Prop
 | [],_,K=>K
 | r::rs,s,K=>match r.2.dst,Xr E s r.2 with
  | some d,some (vc,v)=>vc.and (Ql v (s.aA.getD d .any)/\fN E rs s K)
  | _,_=>False
def FX(E:Env):List (Nat×Oper)->(ah->Prop)->ah->Prop
 | [],K,s=>K s
 | r::rs,K,s=>match r.2.dst,Xr E s r.2 with
  | some d,some (vc,v)=>vc.and (known v (FX E rs K (s.put (some d) v)))
  | _,_=>False
def dstsOf(R:List (Nat×Oper)):List Nat:=R.filterMap λ r=>r.2.dst
def lv:Op->Bool
 | .alloc _=>true
 | _=>false
def iI:Op->Bool
 | .extract .. => true
 | _=>false
def rn:Op->Bool
 | .buildSlice _ len ps=>Nat.beq len 0&&Nat.beq ps.size 0
 | _=>false
def BV(E:Env)(o:Oper):Bool:=match o.dst with
 | some d=>E.ro.contains d
 | none=>false
def de(E:Env)(o:Oper):Bool:=lv o.op||(iI o.op||(rn o.op&&BV E o))
def oM(E:Env)(X:List (Nat×Oper)):List Nat:=X.filterMap λ x=>match de E x.2 with
 | true=>x.2.dst
 | false=>none
def uA(s:ah):Op->Bool
 | .extract t i=>match s.eval t with
  | .fZ vs=>Nat.blt i vs.length
  | _=>false
 | _=>true
def Ri(E:Env)(bM:List Nat)(X:List (Nat×Oper))(s:ah):Bool:=X.all λ e=>uA s e.2.op||X.any λ y => !de E y.2&&Nat.testBit (bM.getD e.1 0) y.1
def G8(bM:List Nat)(x:Nat×Oper):List (Nat×Oper)->List (Nat×Oper)
 | []=>[x]
 | y::ys=>match Nat.testBit (bM.getD y.1 0) x.1 with
  | true=>x::y::ys
  | false=>y::G8 bM x ys
def Fg(E:Env)(bM:List Nat):List (Nat×Oper)->List (Nat×Oper)
 | []=>[]
 | x::xs=>match de E x.2 with
  | true=>G8 bM x (Fg E bM xs)
  | false=>x::Fg E bM xs
def mM(E:Env)(o:Oper):Bool:=match o.op with
 | .alloc T=>o.dst.isSome&&(pE o.dst&&(ag E.ty T).isSome)
 | .extract .. => o.dst.isSome
 | .buildSlice T len ps => !(Nat.beq len 0&&Nat.beq ps.size 0&&BV E o)||(match o.dst,ag E.ty T with
  | some d,some (.slice _,_)=>Nat.blt d 400000&&(E.ro.contains d && !E.own.contains d)
  | _,_=>false)
 | _=>true
def Mi(E:Env)(bM:List Nat)(X:List (Nat×Oper))(y:Nat×Oper):Bool := !de E y.2&&X.all λ z=>de E z.2 || !Nat.testBit (bM.getD y.1 0) z.1
def wS(p:Nat×Oper->Bool)(f:Nat×Oper->Prop):List (Nat×Oper)->Prop
 | []=>True
 | y::ys=>match p y with
  | true=>f y/\wS p f ys
  | false=>wS p f ys
def gj(E:Env)(bM:List Nat):Nat->List (Nat×Oper)->List (Nat×Oper)->(ah->Prop)->ah->Prop
 | 0,_,X,K,s=>match X with
  | []=>K s
  | _::_=>False
 | n+1,R,X,K,s=>match X with
  | []=>K s
  | x::xs=>match Ri E bM (x::xs) s with
   | true=>match eR (dstsOf (R.filter λ r => !Nat.testBit (bM.getD x.1 0) r.1)++oM E xs) x.2&&xs.all λ y=>de E y.2||Nat.testBit (bM.getD y.1 0) x.1 with
    | true=>jg E x.2 (λ s'=>fN E (R.filter λ r => !Nat.testBit (bM.getD x.1 0) r.1) s' (gj E bM n (R.filter λ r => !Nat.testBit (bM.getD x.1 0) r.1) xs K s')) s
    | false=>match de E x.2 with
     | true=>False
     | false=>wS (Mi E bM (x::xs)) (λ y=>match eR (dstsOf (R.filter λ r => !Nat.testBit (bM.getD y.1 0) r.1)++oM E ((x::xs).filter λ z => !Nat.beq z.1 y.1)) y.2 with
      | true=>jg E y.2 (λ s'=>fN E (R.filter λ r => !Nat.testBit (bM.getD y.1 0) r.1) s' (gj E bM n (R.filter λ r => !Nat.testBit (bM.getD y.1 0) r.1) ((x::xs).filter λ z => !Nat.beq z.1 y.1) K s')) s
      | false=>False) (x::xs)
   | false=>False
def ju:Nat->List Oper->List (Nat×Oper)
 | _,[]=>[]
 | i,o::r=>(i,o)::ju (i+1) r
def HA(E:Env)(o:Oper):Bool:=reads o.op&&(match o.dst with
 | some d => !E.own.contains d
 | none=>true)
def kI(E:Env)(bM:List Nat)(eG:List (Nat×Oper))(r:Nat×Oper):Bool :=
 HA E r.2&&eG.all λ y=>HA E y.2 || !Nat.testBit (bM.getD r.1 0) y.1
def ZD(E:Env)(bM:List Nat)(eG:List (Nat×Oper)):Bool :=
 (eG.all λ r=>r.2.guard.isNone&&mM E r.2)&&eG.all λ r => !(kI E bM eG r||iI r.2.op)||eR (dstsOf (eG.filter λ y => !Nat.testBit (bM.getD r.1 0) y.1)++bif iI r.2.op then oM E eG else []) r.2
def VD(E:Env)(bM:List Nat)(eG:List (Nat×Oper))(K:ah->Prop)(s:ah):Prop :=
 match ZD E bM eG with
 | true=>FX E (eG.filter (kI E bM eG)) (λ s'=>fN E (eG.filter (kI E bM eG)) s' (gj E bM eG.length (eG.filter (kI E bM eG)) (Fg E bM (eG.filter λ r => !kI E bM eG r)) K s')) s
 | false=>False
def rY(E:Env)(ops:Array Oper)(l:List Oper)(bM:List Nat):List Nat->Nat->List (Nat×Bool)->(ah->Prop)->ah->Prop
 | [],lo,_,Q,s=>match Nat.beq lo l.length with
  | true=>Q s
  | false=>False
 | hi::r,lo,kn,Q,s=>match Na bM hi&&(Na bM lo&&(Nat.blt lo hi&&Nat.ble hi l.length)) with
  | true=>match Nat.beq hi (lo+1) with
   | true=>eB E ops ((l.take hi).drop lo) kn (rY E ops l bM r hi kn Q) s
   | false=>match A4 l lo hi,((l.take hi).drop lo).any (Oper.alone E) with
    | true,true=>VD E bM (ju lo ((l.take hi).drop lo)) (rY E ops l bM r hi kn Q) s
    | true,false=>kh E l hi bM lo ((l.take hi).drop lo) kn (λ kn s=>rG ((l.take hi).drop lo) s (rY E ops l bM r hi kn Q s)) (((l.take hi).drop lo).foldl ah.fresh s)
    | false,_=>False
  | false=>False
def L9(E:Env)(ops:Array Oper)(Q:ah->Prop)(s:ah):Prop :=
 let l:=ops.toList
 let bM:=bG l []
 let m:=lC bM 0 0
 match ((l.take m).all λ o=>pE o.dst)&&(distinct ((l.take m).map (·.dst))&&backward l) with
 | true=>kh E l m bM 0 (l.take m) [] (λ kn s=>rG (l.take m) s (eB E ops (l.drop m) kn Q s)) ((l.take m).foldl ah.fresh s)
 | false=>False
def H8(E:Env)(ops:Array Oper)(Q:ah->Prop)(s:ah):Prop :=
 let l:=ops.toList
 let bM:=bG l []
 match (l.take (lC bM 0 0)).any (Oper.alone E) with
 | false=>L9 E ops Q s
 | true=>match backward l with
  | true=>rY E ops l bM (Qs bM ((List.range l.length).map (·+1))) 0 [] Q s
  | false=>False
def R3(E:Env)(ops:Array Oper)(Q:ah->Prop)(s:ah):Prop:=H8 E ops Q s
inductive aL:Type 1 where
 | none
 | mk (ι:Type) (P:ι->Prop) (μ:ι->Nat) (fz dead:List Nat) (ins:ι->List (Nat×AV)) (aK:List Nat) (os:ι->List (Nat×aw)) (PZ ren:List (Nat×Nat)) (sub:ι->Nat->aL)
def aL.a(ι:Type)(P:ι->Prop)(μ:ι->Nat)(dead:List Nat)(ins:ι->List (Nat×AV))(aK:List Nat)(os:ι->List (Nat×aw)):aL := .mk ι P μ [] dead ins aK os [] [] λ _ _ => .none
def aL.b(ι:Type)(P:ι->Prop)(μ:ι->Nat)(dead:List Nat)(ins:ι->List (Nat×AV)):aL := .mk ι P μ [] dead ins [] (λ _=>[]) [] [] λ _ _ => .none
def aL.u(P:Prop)(dead:List Nat)(ins:List (Nat×AV))(aK:List Nat)(os:List (Nat×aw))(sub:Nat->aL):aL := .mk Unit (λ _=>P) (λ _=>0) [] dead (λ _=>ins) aK (λ _=>os) [] [] λ _=>sub
def eS(k:Nat)(X:aL)(r:Nat->aL)(z:Nat):aL:=match Nat.beq z k with
 | true=>X
 | false=>r z
def cB:Nat->aL:=λ _ => .none
def Code.x6:Code->List Nat
 | .region _ ops _=>ops.toList.filterMap (·.dst)
 | .seq a b=>Code.x6 a++Code.x6 b
 | .cond _ a b=>Code.x6 a++Code.x6 b
 | .block _ c=>Code.x6 c
 | .loop c=>Code.x6 c
 | .scope c=>Code.x6 c
 | _=>[]
def Code.first:Code->Option Nat
 | .region id _ _=>some id
 | .seq a _=>Code.first a
 | .block _ c=>Code.first c
 | .loop c=>Code.first c
 | .cond _ a _=>Code.first a
 | _=>none
def Code.a1l(Λ:Nat->aL)(b:Code):aL:=match Code.first b with
 | some r=>Λ (r+100000)
 | none => .none
def Wm(sl:List AV):List (Nat×AV)->List AV
 | []=>sl
 | (t,v)::r=>Wm (sl.set t v) r
def IV(aK:List Nat):List (Nat×aw)->List (Nat×aw)
 | []=>[]
 | (k,o)::r=>match aK.contains k with
  | true=>(k,o)::IV aK r
  | false=>IV aK r
def oh(s:ah)(x6:List Nat)(ins:List (Nat×AV))(aK:List Nat)(os:List (Nat×aw)):ah :=
 { aA:=Wm (x6.foldl (λ l t=>l.set t .any) s.aA) ins,aH:=os++IV aK s.aH }
def cY(ρ:List (Nat×Nat))(id:Nat):Nat:=match ag ρ id with
 | some k=>k
 | none=>id
def isRow:Option aw->Bool
 | some (.row ..)=>true
 | _=>false
def gH:Option aw->Bool
 | some (.box _)=>true
 | _=>false
def E5:Option aw->Bool
 | some (.map _)=>true
 | _=>false
def AV.qR(ρ:List (Nat×Nat))(s t:ah)(a b:AV):Prop :=
 match b with
 | .any=>True
 | .aQ v=>match a with
  | .aQ u=>tQ u v
  | .nil=>match v with
   | ⟨.slice _,xs⟩=>xs=[]
   | _=>False
  | _=>False
 | .nil=>match a with
  | .nil=>True
  | _=>False
 | .cP v=>match a with
  | .cP u=>tQ u v
  | _=>False
 | .ptr id off=>match a with
  | .ptr i o=>match Nat.beq i (cY ρ id)&&Nat.beq o off&&gH (t.ag id) with
   | true=>True
   | false=>False
  | _=>False
 | .row id=>match a with
  | .row i=>match Nat.beq i (cY ρ id)&&isRow (t.ag id) with
   | true=>True
   | false=>False
  | .nil=>match isRow (t.ag id),s.ag (cY ρ id) with
   | true,Option.none=>True
   | _,_=>False
  | _=>False
 | .aC id=>match a with
  | .aC i=>match Nat.beq i (cY ρ id)&&cU (t.ag id) with
   | true=>True
   | false=>False
  | .nil=>match cU (t.ag id),s.ag (cY ρ id) with
   | true,Option.none=>True
   | _,_=>False
  | _=>False
 | .fn f=>match a with
  | .fn g=>match Nat.beq f g with
   | true=>True
   | false=>False
  | _=>False
 | .mp id=>match a with
  | .mp i=>match Nat.beq i (cY ρ id)&&E5 (t.ag id) with
   | true=>True
   | false=>False
  | _=>False
 | _=>False
def Dw(ρ:List (Nat×Nat))(s t:ah):List AV->List AV->Prop
 | [],[]=>True
 | a::Z9,b::bs=>match b with
  | .any=>Dw ρ s t Z9 bs
  | b=>AV.qR ρ s t a b/\Dw ρ s t Z9 bs
 | _,_=>False
def AV.a2g(ρ:List (Nat×Nat))(s t:ah)(a b:AV):Prop :=
 match a,b with
 | .agg Z9, .agg bs=>Dw ρ s t Z9 bs
 | a,b=>AV.qR ρ s t a b
def Se(ρ:List (Nat×Nat))(s t:ah):List AV->List AV->Prop
 | [],[]=>True
 | a::Z9,b::bs=>match b with
  | .any=>Se ρ s t Z9 bs
  | b=>AV.a2g ρ s t a b/\Se ρ s t Z9 bs
 | _,_=>False
def VS(u v:FV):Prop:=match u.Z9 v.ps v.r with
 | some F=>F=v.F
 | none=>False
def AV.fit(ρ:List (Nat×Nat))(s t:ah)(a b:AV):Prop :=
 match a,b with
 | .cK f Z9, .cK g bs=>match Nat.beq f g with
  | true=>Se ρ s t Z9 bs
  | false=>False
 | .gp u, .gp v=>VS u v
 | .agg Z9, .agg bs=>Dw ρ s t Z9 bs
 | .agg Z9, .aQ v=>match ri (λ _=>none) v.τ (.agg Z9) with
  | some x=>x=v.x
  | none=>False
 | a,b=>AV.qR ρ s t a b
def wV(ρ:List (Nat×Nat))(s t:ah):List AV->List AV->Prop
 | [],[]=>True
 | a::Z9,b::bs=>match b with
  | .any=>wV ρ s t Z9 bs
  | b=>AV.fit ρ s t a b/\wV ρ s t Z9 bs
 | _,_=>False
def toO(x:J):lE:=⟨x.ai,x.aZ,some x.O⟩
def RO(aT:Ty)(ys:List aT.den)(τ:Ty)(xs:List τ.den):Prop :=
 match decide (τ = .st .oExpr),decide (aT = .st .expr) with
 | true,true=>tQ ⟨.slice (.st .oExpr),((show Option (List J) from TV.Z9 (.slice (.st .expr)) ⟨.slice aT,ys⟩).getD []).map toO⟩ ⟨.slice τ,xs⟩
 | _,_=>tQ ⟨.slice aT,ys⟩ ⟨.slice τ,xs⟩
def UR(a b:MV):Prop:=match a.Z9 b.κ b.ε with
 | some (f,n)=>f=b.f/\n=b.n
 | none=>False
def iT(ρ:List (Nat×Nat))(s t:ah):List (Nat×aw)->Prop
 | []=>True
 | (id, .box bs)::r=>match s.ag (cY ρ id) with
  | some (.box Z9)=>Dw ρ s t Z9 bs/\iT ρ s t r
  | _=>False
 | (id, .row e τ xs)::r=>match s.ag (cY ρ id) with
  | some (.row e' aT ys)=>match Nat.beq e e' with
   | true=>tQ ⟨.slice aT,ys⟩ ⟨.slice τ,xs⟩/\iT ρ s t r
   | false=>False
  | Option.none=>xs=[]/\iT ρ s t r
  | _=>False
 | (id, .aC τ xs)::r=>match s.ag (cY ρ id) with
  | some (.aC aT ys)=>RO aT ys τ xs/\iT ρ s t r
  | Option.none=>xs=[]/\iT ρ s t r
  | _=>False
 | (id, .map m)::r=>match s.ag (cY ρ id) with
  | some (.map m')=>UR m' m/\iT ρ s t r
  | _=>False
def Fits(ρ:List (Nat×Nat))(s t:ah):Prop :=
 match (nodupB (t.aH.map (·.1))&&nodupB (t.aH.map λ p=>cY ρ p.1))&&t.aH.all (λ p=>Nat.blt p.1 50||(Nat.ble 100 p.1||(Nat.beq (cY ρ p.1) p.1&&cU (s.ag p.1))))&&t.aH.all (λ p=>Nat.blt p.1 400000||(!gH (some p.2)||(Nat.beq (cY ρ p.1) p.1&&gH (s.ag p.1)))) with
 | true=>wV ρ s t s.aA t.aA/\iT ρ s t t.aH
 | false=>False
def ZV(ρ:List (Nat×Nat))(a b:AV):List (Nat×Nat):=match b with
 | .aC k=>match a with
  | .aC i=>match Nat.beq i (cY ρ k) with
   | true=>[]
   | false=>[(k,i)]
  | _=>[]
 | _=>[]
def U4(ρ:List (Nat×Nat)):List AV->List AV->List (Nat×Nat)
 | a::Z9,b::bs=>ZV ρ a b++U4 ρ Z9 bs
 | _,_=>[]
def a3V(ρ:List (Nat×Nat))(a b:AV):List (Nat×Nat):=match b with
 | .agg bs=>match a with
  | .agg Z9=>U4 ρ Z9 bs
  | _=>[]
 | b=>ZV ρ a b
def NQ(ρ:List (Nat×Nat)):List AV->List AV->List (Nat×Nat)
 | a::Z9,b::bs=>a3V ρ a b++NQ ρ Z9 bs
 | _,_=>[]
def Cu(ρ:List (Nat×Nat))(s:ah):List (Nat×aw)->List (Nat×Nat)
 | []=>[]
 | (id, .box bs)::r=>match s.ag (cY ρ id) with
  | some (.box Z9)=>U4 ρ Z9 bs++Cu ρ s r
  | _=>Cu ρ s r
 | _::r=>Cu ρ s r
def QJ:List (Nat×Nat)->(List (Nat×Nat)->Prop)->Prop
 | [],K=>K []
 | (a,b)::r,K=>QJ r λ r'=>K ((a,b)::r')
def Gy:∀ {l:List (Nat×Nat)} {K:List (Nat×Nat)->Prop},QJ l K->K l
 | [],_,h=>h
 | (a,b)::r,K,h=>Gy (l:=r) (K:=λ r'=>K ((a,b)::r')) h
def LQ(ρ:List (Nat×Nat))(s t:ah):Prop:=QJ (Cu ρ s t.aH++NQ ρ s.aA t.aA) λ r=>Fits (r++ρ) s t
def LQ.ex{ρ:List (Nat×Nat)}{s t:ah}(h:LQ ρ s t):∃ r,Fits (r++ρ) s t:=⟨_,Gy h⟩
def rX(E:Env):Code->(Nat->aL)->Nat->(Exit->ah->Prop)->ah->Prop
 | .skip,_,_,Q,s=>Q .normal s
 | .region _ ops draw,_,_,Q,s=>match draw with
  | true=>R3 E ops (Q .normal) s
  | false=>eB E ops ops.toList [] (Q .normal) s
 | .seq a b,Λ,cur,Q,s=>match Code.a1l Λ b with
  | .none=>rX E a Λ cur (λ e s'=>match e with
   | .normal=>rX E b Λ cur Q s'
   | e=>Q e s') s
  | .mk ι P _ fz dead ins aK os PZ _ sub =>
   let x6:=dead++Code.x6 a;rX E a Λ cur (λ e s'=>match e with
    | .normal=>∃ j:ι,P j/\LQ PZ (fz.foldl ah.freeze s') (oh s x6 (ins j) aK (os j))
    | e=>Q e s') s /\
   ∀ i:ι,P i->rX E b (sub i) cur Q (oh s x6 (ins i) aK (os i))
 | .cond c a b,Λ,cur,Q,s=>match s.eval c with
  | .aQ ⟨.bool,t⟩=>(t=true->rX E a Λ cur Q s)/\(t=false->rX E b Λ cur Q s)
  | _=>False
 | .block id c,Λ,_,Q,s=>rX E c Λ id (λ e s'=>match e with
  | .exit i=>match Nat.beq i id with
   | true=>Q .normal s'
   | false=>Q (.exit i) s'
  | e=>Q e s') s
 | .loop c,Λ,cur,Q,s=>match Λ cur with
  | .none=>False
  | .mk ι P μ fz dead ins aK os PZ ren sub =>
   let x6:=dead++Code.x6 c;(∃ i:ι,P i/\LQ PZ (fz.foldl ah.freeze s) (oh s x6 (ins i) aK (os i))) /\
   ∀ i:ι,P i->rX E c (sub i) cur (λ e s'=>match e with
    | .normal=>∃ j:ι,P j/\μ j<μ i/\LQ ren (fz.foldl ah.freeze s') (oh s x6 (ins j) aK (os j))
    | e=>Q e s') (oh s x6 (ins i) aK (os i))
 | .exit id,_,_,Q,s=>Q (.exit id) s
 | .ret,_,_,Q,s=>Q .ret s
 | .label _,_,_,Q,s=>Q .normal s
 | _,_,_,_,_=>False
def Jp(E:Env)(s:ah):List ResultVar->List TypeId->Option (List TV)
 | [],[]=>some []
 | r::rs,T::Ts=>match ag E.ty T with
  | some (τ,_)=>match (match r with
    | .tmp t=>ri (Ho s.ag) τ (s.eval (.tmp t))
    | .cell a t=>match Nat.beq t T with
     | true=>deref (Ho s.ag) τ (s.eval (.tmp a))
     | false=>none) with
   | some x=>match Jp E s rs Ts with
    | some l=>some (⟨τ,x⟩::l)
    | none=>none
   | none=>none
  | none=>none
 | _,_=>none
def xZ:Arg->AV
 | .val v => .aQ v
 | .ref v => .cP v
 | .fn f => .fn f
 | .cK v => .gp v
 | .own _ => .any
 | .box _ => .any
def dw(fn:Func)(args:List Arg):ah :=
 { aA:=args.map xZ++List.replicate (fn.ntmps - args.length) .any,aH:=[] }
def oG:Nat->List Arg->ah->ah
 | _,[],s=>s
 | p, .own v::r,s=>oG (p+1) r { aA:=s.aA.set p (gR (1000000+100 * p) v),aH:=bT (1000000+100 * p) v.cells++s.aH }
 | p,_::r,s=>oG (p+1) r s
def HL(fn:Func)(args:List Arg):ah:=oG 0 args (dw fn args)
def sG(E:Env)(fn:Func)(post:List TV->Prop)(e:Exit)(s:ah):Prop :=
 match e with
 | .ret | .normal=>match Jp E s fn.results.toList fn.resultTypes.toList with
  | some vs=>post vs
  | none=>False
 | _=>False
def xY:List TV->List TV->Prop
 | [],[]=>True
 | [v],[u]=>tQ v u
 | v::vs,u::us=>tQ v u/\xY vs us
 | _,_=>False
end
def bn(w:World)(b o:Nat)(cs:List Value):Prop:=∀ j v,cs[j]?=some v->w.cell? ⟨b,o+j,none⟩=some v
def D.size:D->Nat
 | .agg ds=>ds.length
 | _=>1
mutual
def Rd(w:World)(S:Nat->Prop):D->List Value->Prop
 | .int k n,cs=>cs=[.int k n]/\k.min<=n/\n<=k.max
 | .bool b,cs=>cs=[.bool b]
 | .str s,cs=>∃ x:ByteArray,cs=[.string x]/\x.data.toList=s/\x.size<=140737488355328
 | .slice _ xs,cs=>∃ a cap,cs=[.slice a xs.length cap]/\xs.length<=cap/\cap<=maxLen/\xs.length<=140737488355328/\(xs=[]\/∃ b o,a=some ⟨b,o,none⟩/\S b/\cR w S xs b o)
 | .agg ds,cs=>cJ w S ds cs
 | .hole,cs=>∃ a n m,cs=[.slice a n m]
 | .ptr,cs=>∃ p,cs=[.pointer p]
def cJ(w:World)(S:Nat->Prop):List D->List Value->Prop
 | [],cs=>cs=[]
 | d::ds,cs=>∃ v r,cs=v::r/\Rd w S d [v]/\cJ w S ds r
def cR(w:World)(S:Nat->Prop):List D->Nat->Nat->Prop
 | [],_,_=>True
 | d::ds,b,o=>(∃ cs,cs.length=d.size/\Rd w S d cs/\bn w b o cs)/\cR w S ds b (o+d.size)
end
def bn.aK{w w':World}{b o:Nat}{cs:List Value}(h:bn w b o cs)(hb:w'.heap[b]?=w.heap[b]?):bn w' b o cs :=
 λ j v hj=>by rw[<-h j v hj];exact b0b (a:=⟨b,o+j,none⟩) hb
mutual
def Rd.aK{w w':World}{S S':Nat->Prop}(hS:∀ b,S b->S' b)(hw:∀ b,S b->w'.heap[b]?=w.heap[b]?):∀ (d:D) {cs:List Value},Rd w S d cs->Rd w' S' d cs
 | .int _ _,_,h=>h
 | .bool _,_,h=>h
 | .str _,_,h=>h
 | .slice _ xs,_,h=>by
  obtain⟨a,cap,h1,h2,h3,h4,h5⟩:=h;refine⟨a,cap,h1,h2,h3,h4,h5.imp id ?_⟩;rintro⟨b,o,ha,hb,hr⟩;exact⟨b,o,ha,hS b hb,cR.aK hS hw xs b o hb hr⟩
 | .agg ds,_,h=>cJ.aK hS hw ds h
 | .hole,_,h=>h
 | .ptr,_,h=>h
def cJ.aK{w w':World}{S S':Nat->Prop}(hS:∀ b,S b->S' b)(hw:∀ b,S b->w'.heap[b]?=w.heap[b]?):∀ (ds:List D) {cs:List Value},cJ w S ds cs->cJ w' S' ds cs
 | [],_,h=>h
 | d::ds,_,h=>by
  obtain⟨v,r,h1,h2,h3⟩:=h;exact⟨v,r,h1,Rd.aK hS hw d h2,cJ.aK hS hw ds h3⟩
def cR.aK{w w':World}{S S':Nat->Prop}(hS:∀ b,S b->S' b)(hw:∀ b,S b->w'.heap[b]?=w.heap[b]?):∀ (ds:List D) (b o:Nat),S b->cR w S ds b o->cR w' S' ds b o
 | [],_,_,_,_=>trivial
 | d::ds,b,o,hb,h=>by
  obtain⟨⟨cs,h1,h2,h3⟩,h4⟩:=h;exact⟨⟨cs,h1,Rd.aK hS hw d h2,h3.aK (hw b hb)⟩,cR.aK hS hw ds b _ hb h4⟩
end
def cJ.length{w:World}{S:Nat->Prop}:∀ (ds:List D) {cs:List Value},cJ w S ds cs->cs.length=ds.length
 | [],_,h=>by rw[show _=[] from h];rfl
 | d::ds,_,h=>by
  obtain⟨v,r,rfl,_,h3⟩:=h;simp[cJ.length ds h3]
def Rd.length{w:World}{S:Nat->Prop}(d:D){cs:List Value}(h:Rd w S d cs):cs.length=d.size:=by
 cases d with
 | int k n=>rw[h.1];rfl
 | bool b=>rw[show cs=_ from h];rfl
 | str s=>obtain⟨x,h,_⟩:=h;rw[h];rfl
 | slice n xs=>obtain⟨a,cap,h,_⟩:=h;rw[h];rfl
 | agg ds=>exact cJ.length ds h
 | hole=>obtain⟨a,n,m,h⟩:=h;rw[h];rfl
 | ptr=>obtain⟨p,h⟩:=h;rw[h];rfl
def Ty.cm(t:Ty)(x:t.den):(t.aI x).size=t.size:=by
 cases t with
 | st s=>simp[Ty.aI,aJ.bR,D.size,Ty.size,aJ.fv]
 | mv t=>cases (show Option (List t.den) from x)<;>rfl
 | _=>rfl
def cR.at_{w:World}{S:Nat->Prop}{n:Nat}:∀ (ds:List D) (b o:Nat),cR w S ds b o->(∀ d∈ds,d.size=n)->∀ i d,ds[i]?=some d ->
  ∃ cs,cs.length=n/\Rd w S d cs/\bn w b (o+i * n) cs
 | [],_,_,_,_,i,d,h=>by simp at h
 | e::ds,b,o,h,hn,0,d,hi=>by
  obtain⟨⟨cs,h1,h2,h3⟩,_⟩:=h;simp at hi;subst hi;exact⟨cs,by rw[h1];exact hn _ (by simp),h2,by simpa using h3⟩
 | e::ds,b,o,h,hn,i+1,d,hi=>by
  obtain⟨_,h4⟩:=h;rw[hn e (by simp)] at h4;obtain⟨cs,h1,h2,h3⟩:=cR.at_ ds b (o+n) h4 (λ d hd=>hn d (by simp[hd])) i d (by simpa using hi);exact⟨cs,h1,h2,by rw[show o+(i+1) * n=o+n+i * n by rw[Nat.add_mul];omega];exact h3⟩
def cR.Yp{w:World}{S:Nat->Prop}{n:Nat}:∀ (k:Nat) (ds:List D) (b o:Nat),cR w S ds b o->(∀ d∈ds,d.size=n)->cR w S (ds.drop k) b (o+k * n)
 | 0,ds,b,o,h,_=>by simpa using h
 | k+1,[],b,o,h,_=>by simp[cR]
 | k+1,d::ds,b,o,h,hn=>by
  have:=cR.Yp k ds b (o+n) (by have:=h.2;rwa [hn d (by simp)] at this) (λ d hd=>hn d (by simp[hd]));rw[show o+(k+1) * n=o+n+k * n by rw[a8B];omega];exact this
def cR.a0A{w:World}{S:Nat->Prop}:∀ (k:Nat) (ds:List D) (b o:Nat),cR w S ds b o->cR w S (ds.take k) b o
 | 0,ds,b,o,h=>by simp[cR]
 | k+1,[],b,o,h=>by simp[cR]
 | k+1,d::ds,b,o,h=>⟨h.1,cR.a0A k ds b _ h.2⟩
def cZ(w:World)(S:Nat->Prop):List D->List Value->Prop
 | [],l=>l=[]
 | d::ds,l=>∃ c r,l=c++r/\Rd w S d c/\cZ w S ds r
def cZ.aK{w w':World}{S S':Nat->Prop}(hS:∀ b,S b->S' b)(hw:∀ b,S b->w'.heap[b]?=w.heap[b]?):∀ (ds:List D) {l:List Value},cZ w S ds l->cZ w' S' ds l
 | [],_,h=>h
 | d::ds,_,h=>by
  obtain⟨c,r,h1,h2,h3⟩:=h;exact⟨c,r,h1,Rd.aK hS hw d h2,cZ.aK hS hw ds h3⟩
def cZ.append{w:World}{S:Nat->Prop}:∀ (ds es:List D) {l m:List Value},cZ w S ds l->cZ w S es m->cZ w S (ds++es) (l++m)
 | [],_,_,_,h,k=>by rw[show _=[] from h];simpa using k
 | d::ds,es,_,m,h,k=>by
  obtain⟨c,r,rfl,h2,h3⟩:=h;exact⟨c,r++m,by simp,h2,cZ.append ds es h3 k⟩
def cZ.length{w:World}{S:Nat->Prop}{n:Nat}:∀ (ds:List D) {l:List Value},cZ w S ds l->(∀ d∈ds,d.size=n)->l.length=ds.length * n
 | [],_,h,_=>by rw[show _=[] from h];simp
 | d::ds,_,h,hn=>by
  obtain⟨c,r,rfl,h2,h3⟩:=h;rw[a7K,Rd.length d h2,hn d (by simp),cZ.length ds h3 (λ d hd=>hn d (by simp[hd])),a7I,a8B];omega
def cZ.row{w:World}{S:Nat->Prop}:∀ (ds:List D) {l:List Value} (b o:Nat),cZ w S ds l->bn w b o l->cR w S ds b o
 | [],_,_,_,_,_=>trivial
 | d::ds,_,b,o,h,hc=>by
  obtain⟨c,r,rfl,h2,h3⟩:=h;refine⟨⟨c,Rd.length d h2,h2,λ j v hj=>hc j v ?_⟩,cZ.row ds b _ h3 λ j v hj=>?_⟩
  .rw[a8H]
   .exact hj
   .exact (a7R.1 hj).1
  .have:=hc (c.length+j) v (by rw[List.getElem?_append_right (by omega)];simpa using hj);rwa [Rd.length d h2,<-Nat.add_assoc] at this
def cR.cells{w:World}{S:Nat->Prop}:∀ (ds:List D) (b o:Nat),cR w S ds b o->∃ l,cZ w S ds l/\bn w b o l
 | [],_,_,_=>⟨[],rfl,λ j v h=>by simp at h⟩
 | d::ds,b,o,h=>by
  obtain⟨⟨c,h1,h2,h3⟩,h4⟩:=h;obtain⟨r,h5,h6⟩:=cR.cells ds b _ h4;refine⟨c++r,⟨c,r,rfl,h2,h5⟩,λ j v hj=>?_⟩;rcases a8m j c.length with bp|QX
  .exact h3 j v (by rwa [a8H bp] at hj)
  .rw[a9F QX] at hj;have:=h6 (j - c.length) v hj;rwa [<-h1,show o+c.length+(j - c.length)=o+j by omega] at this
def cZ.at_{w:World}{S:Nat->Prop}{n:Nat}:∀ (ds:List D) {l:List Value},cZ w S ds l->(∀ d∈ds,d.size=n)->∀ i d,ds[i]?=some d->Rd w S d ((l.drop (i * n)).take n)
 | [],_,_,_,i,d,h=>by simp at h
 | e::ds,_,h,hn,0,d,hi=>by
  obtain⟨c,r,rfl,h2,h3⟩:=h;simp at hi;subst hi;have:c.length=n:=by rw[Rd.length _ h2];exact hn _ (by simp)
  simpa [<-this] using h2
 | e::ds,_,h,hn,i+1,d,hi=>by
  obtain⟨c,r,rfl,h2,h3⟩:=h;have hc:c.length=n:=by rw[Rd.length _ h2];exact hn _ (by simp)
  have:=cZ.at_ ds h3 (λ d hd=>hn d (by simp[hd])) i d (by simpa using hi);have h0:List.drop (n+i * n) c=[]:=List.drop_eq_nil_of_le (by omega);rw[show (i+1) * n=n+i * n by rw[Nat.add_mul];omega,List.drop_append,h0,List.nil_append,show n+i * n - c.length=i * n by omega];exact this
def qu:Value->Bool
 | .int .. | .bool _ | .string _ | .slice .. | .pointer _=>true
 | _=>false
def D.leaf:D->Bool
 | .agg _=>false
 | _=>true
def Rd.qu{w:World}{S:Nat->Prop}{d:D}(hd:d.leaf=true){cs:List Value}(h:Rd w S d cs):∃ v,cs=[v]/\YtncejbehidimmaaGreatDoor.qu v=true:=by
 cases d with
 | int k n=>exact⟨_,h.1,rfl⟩
 | bool b=>exact⟨_,h,rfl⟩
 | str s=>obtain⟨x,h,_⟩:=h;exact⟨_,h,rfl⟩
 | slice n xs=>obtain⟨a,cap,h,_⟩:=h;exact⟨_,h,rfl⟩
 | agg ds=>cases hd
 | hole=>obtain⟨a,n,m,h⟩:=h;exact⟨_,h,rfl⟩
 | ptr=>obtain⟨p,h⟩:=h;exact⟨_,h,rfl⟩
def vw{v:Value}(h:YtncejbehidimmaaGreatDoor.qu v=true):v.oneCell'=true:=by cases v<;>first|rfl|cases h
def Hg{v:Value}(h:YtncejbehidimmaaGreatDoor.qu v=true):v.cells = #[v]:=by cases v<;>first|rfl|cases h
def I9{α:Type}(n:Nat)(f:α->D)(o:Option (List α)):(mvD n f o).leaf=true:=by cases o<;>rfl
def aJ.mC(s:aJ)(x:s.den):∀ v∈s.cells x,v.aI.leaf=true:=by
 cases s<;>simp[aJ.cells,TV.aI,Ty.aI,D.leaf]<;>exact I9 _ _ _
mutual
def Ow(w:World):D->List Value->List Nat->Prop
 | .int k n,cs,fp=>(cs=[.int k n]/\k.min<=n/\n<=k.max)/\fp=[]
 | .bool b,cs,fp=>cs=[.bool b]/\fp=[]
 | .str s,cs,fp=>(∃ x:ByteArray,cs=[.string x]/\x.data.toList=s/\x.size<=140737488355328)/\fp=[]
 | .slice n xs,cs,fp=>∃ a cap,cs=[.slice a xs.length cap]/\xs.length<=cap/\cap<=maxLen/\xs.length<=140737488355328 /\
   ((xs=[]/\(a=none/\cap=0)/\fp=[])\/∃ b f l t,a=some ⟨b,0,none⟩/\fp=b::f/\w.heap[b]?=some (.cells l.toArray t (0,0))/\l.length=cap * n/\bI w xs l f)
 | .agg ds,cs,fp=>cW w ds cs fp
 | .hole,cs,fp=>(∃ a n m,cs=[.slice a n m])/\fp=[]
 | .ptr,cs,fp=>(∃ p,cs=[.pointer p])/\fp=[]
def cW(w:World):List D->List Value->List Nat->Prop
 | [],cs,fp=>cs=[]/\fp=[]
 | d::ds,cs,fp=>∃ v r f1 f2,cs=v::r/\fp=f1++f2/\Ow w d [v] f1/\cW w ds r f2
def bI(w:World):List D->List Value->List Nat->Prop
 | [],_,fp=>fp=[]
 | d::ds,l,fp=>∃ c r f1 f2,l=c++r/\fp=f1++f2/\Ow w d c f1/\bI w ds r f2
end
def cW.length{w:World}:∀ (ds:List D) {cs:List Value} {fp:List Nat},cW w ds cs fp->cs.length=ds.length
 | [],_,_,h=>by rw[h.1];rfl
 | d::ds,_,_,h=>by
  obtain⟨v,r,f1,f2,rfl,_,_,h4⟩:=h;simp[cW.length ds h4]
def Ow.length{w:World}(d:D){cs:List Value}{fp:List Nat}(h:Ow w d cs fp):cs.length=d.size:=by
 cases d with
 | int k n=>rw[h.1.1];rfl
 | bool b=>rw[h.1];rfl
 | str s=>obtain⟨⟨x,h,_⟩,_⟩:=h;rw[h];rfl
 | slice n xs=>obtain⟨a,cap,h,_⟩:=h;rw[h];rfl
 | agg ds=>exact cW.length ds h
 | hole=>obtain⟨⟨a,n,m,h⟩,_⟩:=h;rw[h];rfl
 | ptr=>obtain⟨⟨p,h⟩,_⟩:=h;rw[h];rfl
def AN{w:World}{b:Nat}{p c r:List Value}{t:TypeId}(h:w.heap[b]?=some (.cells (p++(c++r)).toArray t (0,0))):bn w b p.length c:=by
 intro j v hj;have hl:j<c.length:=(a7R.1 hj).1;have h2:(p++(c++r))[p.length+j]?=some v:=by
  rw[a9F (by omega),b1j,a8H hl];exact hj
 simp[World.cell?,h,h2]
mutual
def Ow.rd{w:World}{S:Nat->Prop}:∀ (d:D) {cs:List Value} {fp:List Nat},Ow w d cs fp->(∀ b∈fp,S b)->Rd w S d cs
 | .int _ _,_,_,h,_=>h.1
 | .bool _,_,_,h,_=>h.1
 | .str _,_,_,h,_=>h.1
 | .slice n xs,_,_,h,hS=>by
  obtain⟨a,cap,h1,h2,h3,h4,h5⟩:=h;refine⟨a,cap,h1,h2,h3,h4,h5.imp And.left ?_⟩;rintro⟨b,f,l,t,rfl,rfl,hb,_,hr⟩;exact⟨b,0,rfl,hS b (by simp),bI.rd xs (p:=[]) (by simpa using hb) hr (λ b hb=>hS b (by simp[hb]))⟩
 | .agg ds,_,_,h,hS=>cW.rd ds h hS
 | .hole,_,_,h,_=>h.1
 | .ptr,_,_,h,_=>h.1
def cW.rd{w:World}{S:Nat->Prop}:∀ (ds:List D) {cs:List Value} {fp:List Nat},cW w ds cs fp->(∀ b∈fp,S b)->cJ w S ds cs
 | [],_,_,h,_=>h.1
 | d::ds,_,_,h,hS=>by
  obtain⟨v,r,f1,f2,h1,rfl,h3,h4⟩:=h;exact⟨v,r,h1,Ow.rd d h3 λ b hb=>hS b (by simp[hb]),cW.rd ds h4 λ b hb=>hS b (by simp[hb])⟩
def bI.rd{w:World}{S:Nat->Prop}{b:Nat}{t:TypeId}:∀ (ds:List D) {p l:List Value} {fp:List Nat},w.heap[b]?=some (.cells (p++l).toArray t (0,0))->bI w ds l fp->(∀ b∈fp,S b)->cR w S ds b p.length
 | [],_,_,_,_,_,_=>trivial
 | d::ds,p,_,_,hb,h,hS=>by
  obtain⟨c,r,f1,f2,rfl,rfl,h3,h4⟩:=h;have hl:=Ow.length d h3;refine⟨⟨c,hl,Ow.rd d h3 λ b hb=>hS b (by simp[hb]),AN hb⟩,?_⟩;have:=bI.rd ds (p:=p++c) (l:=r) (by simpa using hb) h4 (λ b hb=>hS b (by simp[hb]));rw[<-hl];simpa using this
end
mutual
def Ow.aK{w w':World}:∀ (d:D) {cs:List Value} {fp:List Nat},Ow w d cs fp->(∀ b∈fp,w'.heap[b]?=w.heap[b]?)->Ow w' d cs fp
 | .int _ _,_,_,h,_=>h
 | .bool _,_,_,h,_=>h
 | .str _,_,_,h,_=>h
 | .slice n xs,_,_,h,hw=>by
  obtain⟨a,cap,h1,h2,h3,h4,h5⟩:=h;refine⟨a,cap,h1,h2,h3,h4,h5.imp id ?_⟩;rintro⟨b,f,l,t,rfl,rfl,hb,hc,hr⟩;exact⟨b,f,l,t,rfl,rfl,by rw[hw b (by simp)];exact hb,hc,bI.aK xs hr λ b hb=>hw b (by simp[hb])⟩
 | .agg ds,_,_,h,hw=>cW.aK ds h hw
 | .hole,_,_,h,_=>h
 | .ptr,_,_,h,_=>h
def cW.aK{w w':World}:∀ (ds:List D) {cs:List Value} {fp:List Nat},cW w ds cs fp->(∀ b∈fp,w'.heap[b]?=w.heap[b]?)->cW w' ds cs fp
 | [],_,_,h,_=>h
 | d::ds,_,_,h,hw=>by
  obtain⟨v,r,f1,f2,h1,rfl,h3,h4⟩:=h;exact⟨v,r,f1,f2,h1,rfl,Ow.aK d h3 λ b hb=>hw b (by simp[hb]),cW.aK ds h4 λ b hb=>hw b (by simp[hb])⟩
def bI.aK{w w':World}:∀ (ds:List D) {l:List Value} {fp:List Nat},bI w ds l fp->(∀ b∈fp,w'.heap[b]?=w.heap[b]?)->bI w' ds l fp
 | [],_,_,h,_=>h
 | d::ds,_,_,h,hw=>by
  obtain⟨c,r,f1,f2,h1,rfl,h3,h4⟩:=h;exact⟨c,r,f1,f2,h1,rfl,Ow.aK d h3 λ b hb=>hw b (by simp[hb]),bI.aK ds h4 λ b hb=>hw b (by simp[hb])⟩
end
mutual
def D.light:D->Bool
 | .slice .. => false
 | .agg ds=>D.Cp ds
 | _=>true
def D.Cp:List D->Bool
 | []=>true
 | d::ds=>d.light&&D.Cp ds
end
mutual
def Ow.eu{w:World}{S:Nat->Prop}:∀ (d:D) {cs:List Value},d.light=true->Rd w S d cs->Ow w d cs []
 | .int _ _,_,_,h=>⟨h,rfl⟩
 | .bool _,_,_,h=>⟨h,rfl⟩
 | .str _,_,_,h=>⟨h,rfl⟩
 | .slice n xs,_,hl,h=>by
  obtain⟨a,cap,h1,h2,h3,h4,h5⟩:=h;cases hl
 | .agg ds,_,hl,h=>cW.eu ds hl h
 | .hole,_,_,h=>⟨h,rfl⟩
 | .ptr,_,_,h=>⟨h,rfl⟩
def cW.eu{w:World}{S:Nat->Prop}:∀ (ds:List D) {cs:List Value},D.Cp ds=true->cJ w S ds cs->cW w ds cs []
 | [],_,_,h=>⟨h,rfl⟩
 | d::ds,_,hl,h=>by
  obtain⟨v,r,h1,h2,h3⟩:=h;simp only[D.Cp,a7H] at hl;exact⟨v,r,[],[],h1,rfl,Ow.eu d hl.1 h2,cW.eu ds hl.2 h3⟩
end
def bI.eu{w:World}{S:Nat->Prop}:∀ (ds:List D) {l m:List Value},(∀ d∈ds,d.light=true)->cZ w S ds l->bI w ds (l++m) []
 | [],_,_,_,_=>rfl
 | d::ds,_,m,hl,h=>by
  obtain⟨c,r,rfl,h2,h3⟩:=h;exact⟨c,r++m,[],[],by simp,rfl,Ow.eu d (hl d (by simp)) h2,bI.eu ds (λ d hd=>hl d (by simp[hd])) h3⟩
def Dt{α:Type}(c r:List α)(k:Nat):(c++r).drop (c.length+k)=r.drop k:=by
 rw[<-b0F,b0o]
def wv{α:Type}(c r:List α)(k:Nat):(c++r).take (c.length+k)=c++r.take k:=by
 rw[b0V,a8o (by omega),b1j]
def bI.split{w:World}{n:Nat}:∀ (ds:List D) {l:List Value} {fp:List Nat} (i:Nat) (d:D),bI w ds l fp->(∀ d∈ds,d.size=n)->ds[i]?=some d ->
  ∃ f0 f1 f2,fp=f0++f1++f2/\i * n+n<=l.length/\Ow w d ((l.drop (i * n)).take n) f1 /\
   ∀ (w':World) (d':D) (c':List Value) (gV:List Nat),(∀ b∈f0++f2,w'.heap[b]?=w.heap[b]?)->c'.length=n->Ow w' d' c' gV->bI w' (ds.set i d') (l.take (i * n)++c'++l.drop (i * n+n)) (f0++gV++f2)
 | [],_,_,_,_,_,_,h=>by simp at h
 | e::ds,l,fp,0,d,h,hn,hi=>by
  obtain⟨c,r,f1,f2,rfl,rfl,h3,h4⟩:=h;simp at hi;subst hi;have hc:c.length=n:=by rw[Ow.length _ h3];exact hn _ (by simp)
  refine⟨[],f1,f2,by simp,by simp;omega,?_,λ w' d' c' gV hw IE Ux=>?_⟩
  .simp only[b0x,b0G];rw[<-hc,a9W];exact h3
  .simp only[b0x,a9z,a8l,a8W,b1J];rw[<-hc,b0o];exact⟨c',r,gV,f2,rfl,rfl,Ux,bI.aK ds h4 λ b hb=>hw b (by simp[hb])⟩
 | e::ds,l,fp,i+1,d,h,hn,hi=>by
  obtain⟨c,r,g1,g2,rfl,rfl,h3,h4⟩:=h;have hc:c.length=n:=by rw[Ow.length _ h3];exact hn _ (by simp)
  obtain⟨f0,f1,f2,rfl,hlen,k1,k2⟩:=bI.split ds i d h4 (λ d hd=>hn d (by simp[hd])) (by simpa using hi);have e1:(i+1) * n=c.length+i * n:=by rw[hc,Nat.add_mul];omega
  have e2:(i+1) * n+n=c.length+(i * n+n):=by omega
  refine⟨g1++f0,f1,f2,by simp,by simp;omega,?_,λ w' d' c' gV hw IE Ux=>?_⟩
  .rw[e1,Dt];exact k1
  .rw[e1,show c.length+i * n+n=c.length+(i * n+n) by omega,wv,Dt];have:=k2 w' d' c' gV (λ b hb=>hw b (by simp at hb ⊢;rcases hb with hb|hb<;>simp[hb])) IE Ux;rw[show (e::ds).set (i+1) d'=e::ds.set i d' from rfl];exact⟨c,r.take (i * n)++c'++r.drop (i * n+n),g1,f0++gV++f2,by simp,by simp,Ow.aK e h3 λ b hb=>hw b (by simp[hb]),this⟩
open Go.MapKept
def mH(τ:Ty)(x:τ.den)(v:Value):Prop:=∀ (w:World) (S:Nat->Prop),Rd w S (τ.aI x) [v]
theorem mH.of{τ:Ty}(ei:τ.key=true){x:τ.den}{v:Value}{w:World}{S:Nat->Prop}(h:Rd w S (τ.aI x) [v]):mH τ x v:=by
 intro w' S';cases τ with
 | int k=>exact h
 | bool=>exact h
 | str=>exact h
 | _=>cases ei
theorem mH.val{τ:Ty}(ei:τ.key=true){x y:τ.den}{v:Value}(h:mH τ x v)(k:mH τ y v)(w:World):x=y:=by
 have h:=h w (λ _=>False);have k:=k w (λ _=>False);cases τ with
 | int q =>
  simp only[Ty.aI,Rd,List.cons.injEq,and_true] at h k;obtain⟨rfl,_⟩:=h;exact (by simpa using k.1)
 | bool =>
  simp only[Ty.aI,Rd,List.cons.injEq,and_true] at h k;subst h;simpa using k
 | str =>
  obtain⟨a,h1,h2,_⟩:=h;obtain⟨b,k1,k2,_⟩:=k;simp only[a7A,a7W] at h1 k1;subst h1;simp only[Value.string.injEq] at k1;subst k1;exact h2.symm.trans k2
 | _=>cases ei
theorem mH.inj{τ:Ty}(ei:τ.key=true){x:τ.den}{v u:Value}(h:mH τ x v)(k:mH τ x u)(w:World):v=u:=by
 have h:=h w (λ _=>False);have k:=k w (λ _=>False);cases τ with
 | int q =>
  simp only[Ty.aI,Rd,a7A,a7W] at h k;exact h.1.trans k.1.symm
 | bool =>
  simp only[Ty.aI,Rd,a7A,a7W] at h k;exact h.trans k.symm
 | str =>
  obtain⟨⟨⟨a⟩⟩,h1,h2,_⟩:=h;obtain⟨⟨⟨b⟩⟩,k1,k2,_⟩:=k;simp only[a7A,a7W] at h1 k1;simp only at h2 k2;rw[h1,k1,h2,k2]
 | _=>cases ei
def xT:(τ:Ty)->τ.den->Value->Prop
 | .st s,x,v=>∃ a b:Int,s.cells x=[⟨.int .i64,a⟩,⟨.int .i64,b⟩]/\v = .agg #[.int .i64 a, .int .i64 b]/\(au a/\au b)
 | τ,x,v=>mH τ x v
theorem xT.sc{τ:Ty}(ei:τ.key=true){x:τ.den}{v:Value}:xT τ x v↔mH τ x v:=by
 cases τ<;>first|exact a9Q|cases ei
theorem xT.val{τ:Ty}(ei:τ.DG=true){x y:τ.den}{v:Value}(h:xT τ x v)(k:xT τ y v)(w:World):x=y:=by
 cases τ with
 | st s =>
  obtain⟨a,b,h1,rfl,_⟩:=h;obtain⟨a',b',k1,k2,_⟩:=k;simp only[b1k,Array.mk.injEq,a7A,Value.int.injEq,a8Y,a7W] at k2;obtain⟨rfl,rfl⟩:=k2;simp only[Ty.DG,a7H] at ei;exact aJ.X3 s ei.1 (h1.trans k1.symm)
 | int q=>exact mH.val (τ := .int q) rfl h k w
 | bool=>exact mH.val (τ := .bool) rfl h k w
 | str=>exact mH.val (τ := .str) rfl h k w
 | _=>cases ei
theorem xT.inj{τ:Ty}(ei:τ.DG=true){x:τ.den}{v u:Value}(h:xT τ x v)(k:xT τ x u)(w:World):v=u:=by
 cases τ with
 | st s =>
  obtain⟨a,b,h1,rfl,_⟩:=h;obtain⟨a',b',k1,rfl,_⟩:=k;rw[h1] at k1;simp only[a7A,TV.mk.injEq,heq_eq_eq,a8Y,a7W] at k1;obtain⟨rfl,rfl⟩:=k1;rfl
 | int q=>exact mH.inj (τ := .int q) rfl h k w
 | bool=>exact mH.inj (τ := .bool) rfl h k w
 | str=>exact mH.inj (τ := .str) rfl h k w
 | _=>cases ei
structure FG(P:Program)(kT:TypeId)(κ:Ty):Prop where
 keyed:Go.Maps.Keyed P kT
 of:∀ (x:κ.den) (v:Value),xT κ x v->∃ l,keyOf P kT v=some l
theorem FG.str{P:Program}{k:TypeId}(hk:P.underlying k=some .string)(w:World):FG P k .str:=⟨Go.Maps.string_keyed hk,λ x v h=>by
 obtain⟨s,h1,h2,h4⟩:=h w (λ _=>False);simp only[a7A,a7W] at h1;subst h1;exact⟨_,Go.WideMaps.keyOf_string_mk hk (by simp only[maxLen];omega)⟩⟩
structure uk(m:MV)(es:Array MapEntry):Prop where
 sk:m.κ.DG=true
 se:m.ε.key=true
 len:es.size=m.n
 small:m.n<=1000000000
 nd:es.toList.Pairwise λ x y=>x.key≠y.key
 Yv:∀ e∈es.toList,∃ k v,xT m.κ k e.key/\mH m.ε v e.val/\m.f k=some v
 all:∀ k v,m.f k=some v->∃ e∈es.toList,xT m.κ k e.key
theorem uk.empty{κ ε:Ty}(h1:κ.DG=true)(h2:ε.key=true):uk ⟨κ,ε,ie κ.den ε.den,0⟩ #[] where
 sk:=h1
 se:=h2
 len:=rfl
 small:=a8r _
 nd:=by simp
 Yv e he:=by simp at he
 all k v h:=by simp[ie] at h
section
variable {P:Program} {w:World} {m:MV} {es:Array MapEntry} {clock b:Nat} {T kT eT:TypeId}
theorem uk.found(h:uk m es)(K:FG P kT m.κ){k:m.κ.den}{v:Value}(hv:xT m.κ k v)(w:World) :
  ((Instr.findKey kT v es.toList).run P w = .ok none w/\(∀ e∈es.toList,e.key≠v)/\m.f k=none) \/
  ∃ j e x,(Instr.findKey kT v es.toList).run P w = .ok (some (j,e.val)) w/\es.toList[j]?=some e/\e.key=v/\m.f k=some x/\mH m.ε x e.val:=by
 have hk:∀ e∈es.toList,∃ l,keyOf P kT e.key=some l:=λ e he=>by
  obtain⟨k',v',h1,_⟩:=h.Yv e he;exact K.of k' _ h1
 obtain⟨lx,OK⟩:=K.of k v hv;rcases K.keyed.find w OK es.toList hk with ⟨h1,h2⟩|⟨j,e,h1,h2,h3⟩
 .refine .inl ⟨h1,h2,?_⟩;cases hf:m.f k with
  | none=>rfl
  | some x =>
   obtain⟨e,he,UB⟩:=h.all k x hf;exact absurd (UB.inj h.sk hv w) (h2 e he)
 .obtain⟨k',x,k1,k2,k3⟩:=h.Yv e (a8i h2);have:k'=k:=k1.val h.sk (h3 ▸ hv) w;subst this;exact .inr ⟨j,e,x,h1,h2,h3,k3,k2⟩
theorem uk.ag(h:uk m es)(hT:P.underlying T=some (.map kT eT))(K:FG P kT m.κ)(hb:w.heap[b]?=some (.map es clock)){z:Value}(hz:(zeroValue eT).run P w = .ok z w)(Xe:mH m.ε m.ε.zero z)
  {k:m.κ.den} {v:Value} (hv:xT m.κ k v) (c:Bool):∃ u,mH m.ε ((m.f k).getD m.ε.zero) u/\(Instr.lookup T (.map (some b)) v c).run P w = .ok (if c then .tuple #[u, .bool (m.f k).isSome] else u) w:=by
 obtain⟨lx,OK⟩:=K.of k v hv;rcases h.found K hv w with ⟨h1,h2,h3⟩|⟨j,e,x,h1,h2,h3,h4,h5⟩
 .refine⟨z,by rw[h3];exact Xe,?_⟩;rw[h3];simp[Instr.lookup,a8k hT,a9V hb,K.keyed.check w _ OK,h1,hz,Result.andThen]
 .refine⟨e.val,by rw[h4];exact h5,?_⟩;rw[h4];simp[Instr.lookup,a8k hT,a9V hb,K.keyed.check w _ OK,h1,Result.andThen]
theorem ou{α β:Type}(f:α->Option β)(k:α)(v:β):eL f k v k=some v:=by simp[eL]
theorem iw{α β:Type}(f:α->Option β)(k:α)(v:β){x:α}(h:x≠k):eL f k v x=f x:=by simp[eL,h]
theorem DT{α:Type}{R:α->α->Prop}{a b:α}:∀ {l:List α} {j:Nat},l.Pairwise R->l[j]?=some a->(∀ x,R a x->R b x)->(∀ x,R x a->R x b)->(l.set j b).Pairwise R
 | [],j,h,hj,h1,h2=>by simp at hj
 | y::ys,0,h,hj,h1,h2=>by
  simp only[b0p,a7v] at hj;subst hj;obtain⟨k1,k2⟩:=a9d.1 h;exact a9d.2 ⟨λ x hx=>h1 x (k1 x hx),k2⟩
 | y::ys,j+1,h,hj,h1,h2=>by
  obtain⟨k1,k2⟩:=a9d.1 h;simp only[List.getElem?_cons_succ] at hj;refine a9d.2 ⟨λ x hx=>?_,DT k2 hj h1 h2⟩;rcases List.mem_or_eq_of_mem_set hx with hx|rfl
  .exact k1 x hx
  .exact h2 y (k1 a (a8i hj))
theorem uk.store(h:uk m es)(hT:P.underlying T=some (.map kT eT))(K:FG P kT m.κ)(hb:w.heap[b]?=some (.map es clock))
  {k:m.κ.den} {v:Value} (hv:xT m.κ k v) {x:m.ε.den} {u:Value} (hu:mH m.ε x u) (hn:m.n<1000000000) :
  ∃ Sc Lt,(Instr.mapUpdate T (.map (some b)) v u).run P w = .ok () { w with heap:=w.heap.setIfInBounds b (.map Sc Lt) }/\uk ⟨m.κ,m.ε,eL m.f k x,fK (m.f k) m.n⟩ Sc:=by
 obtain⟨lx,OK⟩:=K.of k v hv;rcases h.found K hv w with ⟨h1,h2,h3⟩|⟨j,e,y,h1,h2,h3,h4,h5⟩
 .refine⟨es.push ⟨v,u,clock⟩,clock+1,?_,?_⟩
  .simp[Instr.mapUpdate,a8k hT,a9V hb,K.keyed.check w _ OK,h1,run_setObj_map _ hb,Result.andThen]
  .refine⟨h.sk,h.se,?_,by simp[fK,h3];omega,?_,?_,?_⟩
   .simp[fK,h3,h.len]
   .simp only[b0M];refine b0y.2 ⟨h.nd,by simp,λ a ha b' cv=>?_⟩;simp only[a7O] at cv;subst cv;exact h2 a ha
   .intro e he;simp only[b0M,a7y,a7O] at he;rcases he with he|rfl
    .obtain⟨k',v',k1,k2,k3⟩:=h.Yv e he;refine⟨k',v',k1,k2,?_⟩;show eL m.f k x k'=some v';rw[iw _ _ _ (λ e1=>h2 e he ((e1 ▸ k1).inj h.sk hv w))];exact k3
    .exact⟨k,x,hv,hu,ou _ _ _⟩
   .intro k' v' hf;by_cases W0:k'=k
    .exact⟨⟨v,u,clock⟩,by simp,by rw[W0];exact hv⟩
    .have hf':m.f k'=some v':=by rw[<-iw m.f k x W0];exact hf
     obtain⟨e,he,UB⟩:=h.all k' v' hf';exact⟨e,by simp only[b0M,a7y];exact .inl he,UB⟩
 .have hj:es[j]?=some e:=by simpa using h2
  have QZ:(es.modify j (λ e'=>{ e' with key:=v,val:=u })).toList=es.toList.set j { e with key:=v,val:=u }:=by
   rw[Array.toList_modify];apply b0N;intro i;simp only[List.getElem?_modify,List.getElem?_set];by_cases qi:j=i
   .subst qi;have hl:=(a7R.1 h2).1;simp only[a7E,a7E hl];rw[h2];rfl
   .simp[qi]
  refine⟨es.modify j (λ e'=>{ e' with key:=v,val:=u }),clock,?_,?_⟩
  .simp[Instr.mapUpdate,a8k hT,a9V hb,K.keyed.check w _ OK,h1,hj,h3,K.keyed.stays w OK,run_setObj_map _ hb,Result.andThen]
  .have oth:∀ x'∈es.toList.set j { e with key:=v,val:=u },x'={ e with key:=v,val:=u }\/(x'∈es.toList/\x'.key≠v):=by
    intro x' hx;obtain⟨i,hi,ex⟩:=a9O hx;rw[b0W] at ex;split at ex
    .exact .inl ex.symm
    .rename_i dm;have jy:i<es.toList.length:=by simpa using hi
     refine .inr ⟨ex ▸ a9l jy,λ Q7=>?_⟩;have Y3:j<es.toList.length:=(a7R.1 h2).1;have hje:es.toList[j]=e:=(a7R.1 h2).2;have hpw:=List.pairwise_iff_getElem.1 h.nd;rcases Nat.lt_or_gt_of_ne dm with hl|hl
     .exact hpw j i Y3 jy hl (by rw[hje,ex,h3,Q7])
     .exact hpw i j jy Y3 hl (by rw[hje,ex,h3,Q7])
   refine⟨h.sk,h.se,?_,by simp[fK,h4];omega,?_,?_,?_⟩
   .simp[fK,h4,h.len]
   .rw[QZ];exact DT h.nd h2 (λ x' hx=>by rw[<-h3];exact hx) (λ x' hx=>by rw[<-h3];exact hx)
   .intro e' xf;rw[QZ] at xf;rcases oth e' xf with rfl|⟨he,dm⟩
    .exact⟨k,x,hv,hu,ou _ _ _⟩
    .obtain⟨k',v',k1,k2,k3⟩:=h.Yv e' he;refine⟨k',v',k1,k2,?_⟩;show eL m.f k x k'=some v';rw[iw _ _ _ (λ e1=>dm ((e1 ▸ k1).inj h.sk hv w))];exact k3
   .intro k' v' hf;by_cases W0:k'=k
    .refine⟨{ e with key:=v,val:=u },?_,(show k'=k from W0).symm ▸ hv⟩;rw[QZ];exact List.mem_iff_getElem.2 ⟨j,by simpa using (List.getElem?_eq_some_iff.1 h2).1,by simp⟩
    .have hf':m.f k'=some v':=by rw[<-iw m.f k x W0];exact hf
     obtain⟨e',xf,UB⟩:=h.all k' v' hf';refine⟨e',?_,UB⟩;rw[QZ];obtain⟨i,hi,ex⟩:=a9O xf;have qi:j≠i:=by
      intro e1;subst e1;have hje:es.toList[j]=e:=(a7R.1 h2).2;have:e'=e:=ex ▸ hje;subst this;exact W0 ((h3 ▸ UB).val h.sk hv w)
     exact List.mem_iff_getElem.2 ⟨i,by simpa using hi,by rw[List.getElem_set_ne qi];exact ex⟩
end
end Go.Proofs.YtncejbehidimmaaGreatDoor

namespace Go.Proofs.YtncejbehidimmaaGreatDoor
def aM{α β:Type}(R:α->β->Prop):List α->List β->Prop
 | [],[]=>True
 | a::Z9,b::bs=>R a b/\aM R Z9 bs
 | _,_=>False
theorem aM.length{α β:Type}{R:α->β->Prop}:∀ {Z9:List α} {bs:List β},aM R Z9 bs->Z9.length=bs.length
 | [],[],_=>rfl
 | _::_,_::_,h=>by simp[aM.length h.2]
 | [],_::_,h=>h.elim
 | _::_,[],h=>h.elim
theorem aM.imp{α β:Type}{R R':α->β->Prop}:∀ {Z9:List α} {bs:List β},aM R Z9 bs->(∀ a b,a∈Z9->R a b->R' a b)->aM R' Z9 bs
 | [],[],_,_=>trivial
 | _::_,_::_,h,k=>⟨k _ _ (by simp) h.1,aM.imp h.2 λ a b ha=>k a b (by simp[ha])⟩
 | [],_::_,h,_=>h.elim
 | _::_,[],h,_=>h.elim
theorem aM.at_{α β:Type}{R:α->β->Prop}:∀ {Z9:List α} {bs:List β},aM R Z9 bs->∀ (i:Nat) a,Z9[i]?=some a->∃ b,bs[i]?=some b/\R a b
 | [],[],_,i,a,h=>by simp at h
 | _::_,b::_,h,0,a,hi=>by simp at hi;subst hi;exact⟨b,rfl,h.1⟩
 | _::_,_::_,h,i+1,a,hi=>by simpa using aM.at_ h.2 i a (by simpa using hi)
 | [],_::_,h,_,_,_=>h.elim
 | _::_,[],h,_,_,_=>h.elim
theorem aM.append{α β:Type}{R:α->β->Prop}:∀ {Z9:List α} {bs:List β} {as' bs'},aM R Z9 bs->aM R as' bs'->aM R (Z9++as') (bs++bs')
 | [],[],_,_,_,k=>k
 | _::_,_::_,_,_,h,k=>⟨h.1,aM.append h.2 k⟩
 | [],_::_,_,_,h,_=>h.elim
 | _::_,[],_,_,h,_=>h.elim
theorem aM.take{α β:Type}{R:α->β->Prop}(n:Nat):∀ {Z9:List α} {bs:List β},aM R Z9 bs->aM R (Z9.take n) (bs.take n):=by
 induction n with
 | zero=>intro Z9 bs _;simp[aM]
 | succ n ih =>
  intro Z9 bs h;match Z9,bs,h with
  | [],[],_=>simp[aM]
  | _::_,_::_,h=>exact⟨h.1,ih h.2⟩
theorem aM.drop{α β:Type}{R:α->β->Prop}(n:Nat):∀ {Z9:List α} {bs:List β},aM R Z9 bs->aM R (Z9.drop n) (bs.drop n):=by
 induction n with
 | zero=>intro Z9 bs h;simpa using h
 | succ n ih =>
  intro Z9 bs h;match Z9,bs,h with
  | [],[],_=>simp[aM]
  | _::_,_::_,h=>exact ih h.2
theorem aM.dF{α β γ:Type}{R:γ->β->Prop}(f:α->γ):∀ {Z9:List α} {bs:List β},aM (λ a b=>R (f a) b) Z9 bs->aM R (Z9.map f) bs
 | [],[],_=>trivial
 | _::_,_::_,h=>⟨h.1,aM.dF f h.2⟩
 | [],_::_,h=>h.elim
 | _::_,[],h=>h.elim
theorem aM.of_map{α β γ:Type}{R:γ->β->Prop}(f:α->γ):∀ {Z9:List α} {bs:List β},aM R (Z9.map f) bs->aM (λ a b=>R (f a) b) Z9 bs
 | [],[],_=>trivial
 | _::_,_::_,h=>⟨h.1,aM.of_map f h.2⟩
 | [],_::_,h=>h.elim
 | _::_,[],h=>h.elim
theorem cJ.rU{w:World}{S:Nat->Prop}:∀ {vs:List TV} {cs:List Value},cJ w S (vs.map TV.aI) cs↔aM (λ v x=>Rd w S v.aI [x]) vs cs
 | [],[]=>by simp[cJ,aM]
 | [],_::_=>by simp[cJ,aM]
 | v::vs,[]=>by simp[cJ,aM]
 | v::vs,x::cs=>by
  simp only[a8d,cJ,aM];constructor
  .rintro⟨y,r,h1,h2,h3⟩;simp only[a7A] at h1;obtain⟨rfl,rfl⟩:=h1;exact⟨h2,cJ.rU.1 h3⟩
  .rintro⟨h1,h2⟩;exact⟨x,cs,rfl,h1,cJ.rU.2 h2⟩
structure bJ(X:Nat->Prop)(w w':World):Prop where
 os:w'.os=w.os
 tape:w'.tape=w.tape
 output:w'.output=w.output
 size:w.heap.size<=w'.heap.size
 block:∀ b,b<w.heap.size->¬ X b->w'.heap[b]?=w.heap[b]?
theorem bJ.refl(X:Nat->Prop)(w:World):bJ X w w:=⟨rfl,rfl,rfl,a7P _,λ _ _ _=>rfl⟩
theorem bJ.trans{X Y:Nat->Prop}{a b c:World}(h:bJ X a b)(k:bJ Y b c)(hXY:∀ i,i<a.heap.size->Y i->X i):bJ X a c :=
 ⟨k.os.trans h.os,k.tape.trans h.tape,k.output.trans h.output,a8M h.size k.size,
  λ i hi hx=>(k.block i (a7F hi h.size) (λ hy=>hx (hXY i hi hy))).trans (h.block i hi hx)⟩
structure Ctx where
 P:Program
 E:Env
 w0:World
 X:Nat->Prop
 S0:Nat->Prop
 R:Nat->Option Value
 Z:Nat->Prop
 RB:Nat->Option Nat
structure Gh where
 S:Nat->Prop
 η:Nat->Value
 φ:Nat->List Nat
def St(c:Ctx)(S:Nat->Prop)(b:Nat):Prop:=S b\/(b<c.w0.heap.size/\¬ c.X b/\¬ c.Z b)
def dx:Value->Option Nat
 | .pointer (some a)=>some a.block
 | .slice (some a) _ _=>some a.block
 | .map (some b)=>some b
 | _=>none
def du(w:World)(S:Nat->Prop)(v:TV)(x:Value):Prop :=
 match v with
 | ⟨.st s,y⟩=>∃ cs,x = .agg cs.toArray/\Rd w S (s.aI y) cs
 | v=>Rd w S v.aI [x]
def D1(w:World)(S:Nat->Prop):Arg->Value->Prop
 | .val v,x=>du w S v x
 | .ref v,x=>∃ b o cs,x = .pointer (some ⟨b,o,none⟩)/\b<w.heap.size/\bn w b o cs/\Rd w S v.aI cs
 | .fn f,x=>x = .func (.func f) #[] #[]
 | .cK _,_=>False
 | .own _,_=>False
 | .box _,_=>False
def Di(w:World)(S:Nat->Prop):List TV->Value->Prop
 | [v],x=>du w S v x
 | vs,x=>∃ l,x = .tuple l.toArray/\aM (du w S) vs l
def XM(w:World)(S:Nat->Prop):Prop:=∀ g∈Ul,S g/\∃ m,w.cell? ⟨g,0,none⟩=some (.int .i64 m)
def iR(w:World)(S:Nat->Prop):Prop:=(∀ b,S b->b<w.heap.size)/\XM w S
theorem XM.mono{w w':World}{S S':Nat->Prop}(h:XM w S)(hS:∀ b,S b->S' b)(hw:∀ b,S b->w'.heap[b]?=w.heap[b]?):XM w' S':=λ g hg=>by
 obtain⟨h1,m,h2⟩:=h g hg;exact⟨hS g h1,m,(b0b (a:=⟨g,0,none⟩) (hw g h1)).trans h2⟩
def FI(P:Program)(f:FuncId)(args:List Arg)(post:List TV->Prop):Prop :=
 ∀ (w:World) (S:Nat->Prop) (cj:List Value),iR w S->aM (D1 w S) args cj ->
  Calls P f cj.toArray w λ e w'=>∃ x S' res,e = .returned x/\post res/\bJ (λ _=>False) w w'/\(∀ b,b<w.heap.size->(S' b↔S b))/\(∀ b,S' b->b<w'.heap.size)/\Di w' S' res x
def iQ (P:Program) (f:FuncId):Prop:=∃ fn,P.funcs[f]?=some fn/\fn.body.isNone=false/\(fn.name == "runtime.NumGoroutine")=false
def xS(P:Program)(f:FuncId)(dY:List Arg):(ps:List Ty)->(r:Ty)->FN ps r->List Arg->Prop
 | [],r,F,acc=>F.1->iQ P f/\FI P f (acc++dY) (·=[⟨r,F.2⟩])
 | t::ts,r,F,acc=>∀ x,xS P f dY ts r (F x) (acc++[.val ⟨t,x⟩])
def LO(c:Ctx)(S:Nat->Prop)(w:World):Arg->Value->Prop
 | .val v,x=>du w S v x
 | .ref v,x=>∃ b o cs,x = .pointer (some ⟨b,o,none⟩)/\St c S b/\bn w b o cs/\Rd w S v.aI cs
 | .fn f,x=>x = .func (.func f) #[] #[]
 | .cK _,_=>False
 | .own _,_=>False
 | .box _,_=>False
def C1(c:Ctx)(G:Gh)(lk:Nat->Option aw)(w:World):AV->Value->Prop
 | .any,_=>True
 | .dN,x=>x=undef
 | .aQ v,x=>v.τ.agg=false/\Rd w G.S v.aI [x]
 | .nil,x=>x = .slice none 0 0
 | .cP v,x=>∃ b o cs,x = .pointer (some ⟨b,o,none⟩)/\St c G.S b/\bn w b o cs/\Rd w G.S v.aI cs
 | .ptr id off,x=>∃ b,G.η id = .pointer (some ⟨b,0,none⟩)/\x = .pointer (some ⟨b,off,none⟩)/\gH (lk id)=true
 | .row id,x=>x=G.η id/\isRow (lk id)=true/\∃ a n m,x = .slice a n m
 | .dS id i off,x=>∃ b n cap e τ xs,G.η id = .slice (some ⟨b,0,none⟩) n cap/\lk id=some (.row e τ xs)/\i<xs.length/\x = .pointer (some ⟨b,i * τ.size+off,none⟩)
 | .fn f,x=>x = .func (.func f) #[] #[]
 | .aC id,x=>cU (lk id)=true/\∃ l,G.η id = .tuple (x::l).toArray/\∃ a n m,x = .slice a n m
 | .sub id i off sz,x=>cU (lk id)=true/\∃ a n cap l,G.η id = .tuple (.slice a n cap::l).toArray/\i<n/\l[i * sz+off]?=some x/\∃ a n m,x = .slice a n m
 | .ed id i off sz,x=>cU (lk id)=true/\∃ b n cap l,G.η id = .tuple (.slice (some ⟨b,0,none⟩) n cap::l).toArray/\i<n/\x = .pointer (some ⟨b,i * sz+off,none⟩)
 | .gp v,x=>∃ f dY l,x = .func (.func f) #[] l.toArray/\xS c.P f dY v.ps v.r v.F []/\aM (LO c G.S w) dY l
 | .mp id,x=>x=G.η id/\E5 (lk id)=true/\∃ b,x = .map (some b)
 | .agg _,_=>False
 | .fZ _,_=>False
 | .cK ..,_=>False
def TR(c:Ctx)(G:Gh)(lk:Nat->Option aw)(w:World):AV->Value->Prop
 | .any,_=>True
 | .aQ v,x=>du w G.S v x
 | .aC id,x=>C1 c G lk w (.aC id) x
 | .cP v,x=>C1 c G lk w (.cP v) x
 | .agg cs,x=>∃ l,x = .agg l.toArray/\aM (C1 c G lk w) cs l
 | _,_=>False
def CR(c:Ctx)(G:Gh)(lk:Nat->Option aw)(w:World):AV->Value->Prop
 | .aQ v,x=>du w G.S v x
 | .agg cs,x=>∃ l,x = .agg l.toArray/\aM (C1 c G lk w) cs l
 | v,x=>C1 c G lk w v x
def VR(c:Ctx)(G:Gh)(lk:Nat->Option aw)(w:World):AV->Value->Prop
 | .aQ v,x=>du w G.S v x
 | .agg cs,x=>∃ l,x = .agg l.toArray/\aM (C1 c G lk w) cs l
 | .fZ vs,x=>∃ l,x = .tuple l.toArray/\aM (TR c G lk w) vs l
 | .cK f cs,x=>∃ l,x = .func (.func f) #[] l.toArray/\aM (CR c G lk w) cs l
 | v,x=>C1 c G lk w v x
def OR(c:Ctx)(G:Gh)(lk:Nat->Option aw)(w:World)(id:Nat):aw->Prop
 | .box cs=>∃ b l t,G.η id = .pointer (some ⟨b,0,none⟩)/\w.heap[b]?=some (.cells l.toArray t (0,0))/\aM (C1 c G lk w) cs l
 | .row e τ xs=>∃ l,w.ownsRow 0 e τ.size (G.η id) xs.length l/\cZ w G.S (xs.map τ.aI) l/\xs.length<=140737488355328
 | .aC τ xs=>True
 | .map m=>∃ b es clock,G.η id = .map (some b)/\w.heap[b]?=some (.map es clock)/\uk m es
def gL(w:World)(η:Value)(τ:Ty)(xs:List τ.den)(fp:List Nat):Prop :=
 ∃ v l a cap,η = .tuple (v::l).toArray/\v = .slice a xs.length cap/\xs.length<=cap/\cap<=maxLen/\xs.length<=140737488355328 /\
  ((xs=[]/\(a=none/\cap=0)/\fp=[])\/∃ b f t,a=some ⟨b,0,none⟩/\fp=b::f/\w.heap[b]?=some (.cells l.toArray t (0,0))/\l.length=cap * τ.size/\bI w (xs.map τ.aI) l f)
structure D3(c:Ctx)(G:Gh)(lk:Nat->Option aw)(w:World):Prop where
 tr:∀ id τ xs,lk id=some (.aC τ xs)->gL w (G.η id) τ xs (G.φ id)
 nd:∀ id τ xs,lk id=some (.aC τ xs)->(G.φ id).Nodup
 pl:∀ id τ xs b,lk id=some (.aC τ xs)->b∈G.φ id->(c.w0.heap.size<=b\/c.X b)/\¬ G.S b/\b<w.heap.size/\∀ i o,lk i=some o->dx (G.η i)≠some b
 ap:∀ id di τ aT xs cF b,lk id=some (.aC τ xs)->lk di=some (.aC aT cF)->b∈G.φ id->b∈G.φ di->id=di
def XGk(c:Ctx):Prop:=(∀ b,c.X b->b<c.w0.heap.size)/\∀ g∈Ul,c.S0 g/\¬ c.X g/\g<c.w0.heap.size/\∃ m,c.w0.cell? ⟨g,0,none⟩=some (.int .i64 m)
structure bf(c:Ctx)(G:Gh)(sl:Nat->AV)(n:Nat)(lk:Nat->Option aw)(a:Act)(w:World):Prop where
 defers:a.defers=[]
 size:a.tmps.size=n
 aK:bJ c.X c.w0 w
 iY:XGk c
 dZ:∀ b,b<c.w0.heap.size->¬ c.X b->(G.S b↔c.S0 b)
 sX:∀ b,c.S0 b->G.S b
 dy:∀ b,G.S b->b<w.heap.size
 aA:∀ i,VR c G lk w (sl i) (a.tmps.getD i undef)
 aH:∀ id o,lk id=some o->OR c G lk w id o
 place:∀ id o b,lk id=some o->dx (G.η id)=some b->(c.w0.heap.size<=b\/c.X b)/\¬ G.S b/\b<w.heap.size
 apart:∀ id di o o' b,lk id=some o->lk di=some o'->dx (G.η id)=some b->dx (G.η di)=some b->id=di
 aN:D3 c G lk w
 root:∀ id v,c.R id=some v->cU (lk id)=true->∃ l,G.η id = .tuple (v::l).toArray
 fE:∀ id v,c.R id=some v->50<=id/\id<100
 dq:∀ id b,c.RB id=some b->gH (lk id)=true->G.η id = .pointer (some ⟨b,0,none⟩)
 eF:∀ id b,c.RB id=some b->400000<=id
theorem bf.Vj{c:Ctx}{G:Gh}{sl:Nat->AV}{n:Nat}{lk:Nat->Option aw}{a:Act}{w:World}(h:bf c G sl n lk a w):iR w G.S:=⟨h.dy,λ g hg=>by
 obtain⟨h1,h2,h3,m,h4⟩:=h.iY.2 g hg;exact⟨h.sX g h1,m,(b0b (a:=⟨g,0,none⟩) (h.aK.block g h3 h2)).trans h4⟩⟩
def ah.sl(s:ah)(i:Nat):AV:=s.aA.getD i .any
def Inv(c:Ctx)(G:Gh)(s:ah)(a:Act)(w:World):Prop:=bf c G s.sl s.aA.length s.ag a w
theorem oQ{o:Option aw}(h:isRow o=true):cU o=false:=by
 match o,h with
 | some (.row ..),_=>rfl
theorem DK{o:Option aw}(h:E5 o=true):cU o=false:=by
 match o,h with
 | some (.map _),_=>rfl
def eg(o o':Option aw):Prop :=
 (gH o=true->gH o'=true)/\(∀ e τ xs,o=some (.row e τ xs)->∃ e' cF,o'=some (.row e' τ cF)/\xs.length<=cF.length)/\(cU o=true->cU o'=true)/\(E5 o=true->E5 o'=true)
theorem eg.refl(o:Option aw):eg o o:=⟨id,λ e τ xs h=>⟨e,xs,h,a7P _⟩,id,id⟩
theorem eg.isRow{o o':Option aw}(h:eg o o')(hr:isRow o=true):YtncejbehidimmaaGreatDoor.isRow o'=true:=by
 match o,hr with
 | some (.row e τ xs),_ =>
  obtain⟨e',cF,h1,_⟩:=h.2.1 e τ xs rfl;rw[h1];rfl
section
variable {c:Ctx} {G G':Gh} {lk lk':Nat->Option aw} {w w':World}
theorem du.mono{v:TV}{x:Value}(h:du w G.S v x)(hS:∀ b,G.S b->G'.S b)(hw:∀ b,G.S b->w'.heap[b]?=w.heap[b]?):du w' G'.S v x:=by
 obtain⟨τ,y⟩:=v;cases τ with
 | st s =>
  obtain⟨cs,h1,h2⟩:=h;exact⟨cs,h1,Rd.aK hS hw _ h2⟩
 | _=>exact Rd.aK hS hw _ h
theorem LO.mono{S S':Nat->Prop}{v:Arg}{x:Value}(h:LO c S w v x)(hS:∀ b,S b->S' b)(hw:∀ b,St c S b->w'.heap[b]?=w.heap[b]?):LO c S' w' v x:=by
 cases v with
 | val v=>exact du.mono (G:=⟨S,λ _=>undef,λ _=>[]⟩) (G':=⟨S',λ _=>undef,λ _=>[]⟩) h hS (λ b hb=>hw b (.inl hb))
 | ref v =>
  obtain⟨b,o,cs,h1,h2,h3,h4⟩:=h;exact⟨b,o,cs,h1,h2.imp (hS b) id,h3.aK (hw b h2),Rd.aK hS (λ b hb=>hw b (.inl hb)) _ h4⟩
 | fn f=>exact h
 | cK v=>exact h
 | own v=>exact h
 | box k=>exact h
theorem C1.mono{v:AV}{x:Value}(h:C1 c G lk w v x)(hk:∀ id,v.refs id=true->eg (lk id) (lk' id)/\G'.η id=G.η id)
  (hS:∀ b,G.S b->G'.S b) (hw:∀ b,St c G.S b->w'.heap[b]?=w.heap[b]?):C1 c G' lk' w' v x:=by
 have xj:∀ b,G.S b->w'.heap[b]?=w.heap[b]?:=λ b hb=>hw b (.inl hb);cases v with
 | any=>trivial
 | dN=>exact h
 | aQ v=>exact⟨h.1,Rd.aK hS xj _ h.2⟩
 | nil=>exact h
 | cP v =>
  obtain⟨b,o,cs,h1,h2,h3,h4⟩:=h;exact⟨b,o,cs,h1,h2.imp (hS b) id,h3.aK (hw b h2),Rd.aK hS xj _ h4⟩
 | ptr id off =>
  obtain⟨b,h1,h2,h3⟩:=h;obtain⟨k1,k2⟩:=hk id (by simp[AV.refs]);exact⟨b,k2.trans h1,h2,k1.1 h3⟩
 | row id =>
  obtain⟨h1,h2,h3⟩:=h;obtain⟨k1,k2⟩:=hk id (by simp[AV.refs]);exact⟨h1.trans k2.symm,k1.isRow h2,h3⟩
 | dS id i off =>
  obtain⟨b,n,cap,e,τ,xs,h1,h2,h3,h4⟩:=h;obtain⟨k1,k2⟩:=hk id (by simp[AV.refs]);obtain⟨e',cF,k3,k4⟩:=k1.2.1 e τ xs h2;exact⟨b,n,cap,e',τ,cF,k2.trans h1,k3,by omega,h4⟩
 | fn f=>exact h
 | aC id =>
  obtain⟨h1,l,h2,h3⟩:=h;obtain⟨k1,k2⟩:=hk id (by simp[AV.refs]);exact⟨k1.2.2.1 h1,l,k2.trans h2,h3⟩
 | sub id i off sz =>
  obtain⟨h1,a,n,cap,l,h2,h3⟩:=h;obtain⟨k1,k2⟩:=hk id (by simp[AV.refs]);exact⟨k1.2.2.1 h1,a,n,cap,l,k2.trans h2,h3⟩
 | ed id i off sz =>
  obtain⟨h1,b,n,cap,l,h2,h3⟩:=h;obtain⟨k1,k2⟩:=hk id (by simp[AV.refs]);exact⟨k1.2.2.1 h1,b,n,cap,l,k2.trans h2,h3⟩
 | gp v =>
  obtain⟨f,dY,l,h1,h2,h3⟩:=h;exact⟨f,dY,l,h1,h2,h3.imp λ u y _ hy=>hy.mono hS hw⟩
 | mp id =>
  obtain⟨h1,h2,h3⟩:=h;obtain⟨k1,k2⟩:=hk id (by simp[AV.refs]);exact⟨h1.trans k2.symm,k1.2.2.2 h2,h3⟩
 | agg cs=>exact h
 | fZ vs=>exact h
 | cK f cs=>exact h
theorem jQ{id:Nat}:∀ {cs:List AV} {v:AV},v∈cs->v.refs id=true->AV.eZ id cs=true
 | u::r,v,hm,hv=>by
  simp only[AV.eZ];rcases a7J.1 hm with rfl|h
  .rw[hv]
  .split
   .rfl
   .exact jQ h hv
theorem CR.mono{v:AV}{x:Value}(h:CR c G lk w v x)(hk:∀ id,v.refs id=true->eg (lk id) (lk' id)/\G'.η id=G.η id)
  (hS:∀ b,G.S b->G'.S b) (hw:∀ b,St c G.S b->w'.heap[b]?=w.heap[b]?):CR c G' lk' w' v x:=by
 cases v with
 | aQ v=>exact du.mono h hS (λ b hb=>hw b (.inl hb))
 | agg cs =>
  obtain⟨l,h1,h2⟩:=h;exact⟨l,h1,h2.imp λ u y hu hy=>hy.mono (λ id aO=>hk id (by simp only[AV.refs];exact jQ hu aO)) hS hw⟩
 | any=>trivial
 | dN=>exact h
 | nil=>exact C1.mono (v := .nil) h hk hS hw
 | cP v=>exact C1.mono (v := .cP v) h hk hS hw
 | ptr i o=>exact C1.mono (v := .ptr i o) h hk hS hw
 | row i=>exact C1.mono (v := .row i) h hk hS hw
 | dS i k o=>exact C1.mono (v := .dS i k o) h hk hS hw
 | fn f=>exact C1.mono (v := .fn f) h hk hS hw
 | aC i=>exact C1.mono (v := .aC i) h hk hS hw
 | sub i k o z=>exact C1.mono (v := .sub i k o z) h hk hS hw
 | ed i k o z=>exact C1.mono (v := .ed i k o z) h hk hS hw
 | gp v=>exact C1.mono (v := .gp v) h hk hS hw
 | mp i=>exact C1.mono (v := .mp i) h hk hS hw
 | fZ _=>exact h
 | cK _ _=>exact h
theorem VR.mono{v:AV}{x:Value}(h:VR c G lk w v x)(hk:∀ id,v.refs id=true->eg (lk id) (lk' id)/\G'.η id=G.η id)
  (hS:∀ b,G.S b->G'.S b) (hw:∀ b,St c G.S b->w'.heap[b]?=w.heap[b]?):VR c G' lk' w' v x:=by
 have xj:∀ b,G.S b->w'.heap[b]?=w.heap[b]?:=λ b hb=>hw b (.inl hb);cases v with
 | aQ v=>exact du.mono h hS xj
 | agg cs =>
  obtain⟨l,h1,h2⟩:=h;exact⟨l,h1,h2.imp λ u y hu hy=>hy.mono (λ id aO=>hk id (by simp only[AV.refs];exact jQ hu aO)) hS hw⟩
 | fZ vs =>
  obtain⟨l,h1,h2⟩:=h;refine⟨l,h1,h2.imp λ u y hu hy=>?_⟩;have fg:∀ id,u.refs id=true->eg (lk id) (lk' id)/\G'.η id=G.η id:=λ id aO=>hk id (by simp only[AV.refs];exact jQ hu aO);cases u with
  | any=>trivial
  | aQ v=>exact du.mono hy hS xj
  | aC i=>exact C1.mono (v := .aC i) hy fg hS hw
  | cP v=>exact C1.mono (v := .cP v) hy fg hS hw
  | agg cs =>
   obtain⟨l,h1,h2⟩:=hy;exact⟨l,h1,h2.imp λ u y hu hy=>hy.mono (λ id aO=>fg id (by simp only[AV.refs];exact jQ hu aO)) hS hw⟩
  | _=>exact hy.elim
 | dN=>trivial
 | any=>trivial
 | nil=>exact C1.mono (v := .nil) h hk hS hw
 | cP v=>exact C1.mono (v := .cP v) h hk hS hw
 | ptr i o=>exact C1.mono (v := .ptr i o) h hk hS hw
 | row i=>exact C1.mono (v := .row i) h hk hS hw
 | dS i k o=>exact C1.mono (v := .dS i k o) h hk hS hw
 | fn f=>exact C1.mono (v := .fn f) h hk hS hw
 | aC i=>exact C1.mono (v := .aC i) h hk hS hw
 | sub i k o z=>exact C1.mono (v := .sub i k o z) h hk hS hw
 | ed i k o z=>exact C1.mono (v := .ed i k o z) h hk hS hw
 | gp v=>exact C1.mono (v := .gp v) h hk hS hw
 | mp i=>exact C1.mono (v := .mp i) h hk hS hw
 | cK f cs =>
  obtain⟨l,h1,h2⟩:=h;exact⟨l,h1,h2.imp λ u y hu hy=>hy.mono (λ id aO=>hk id (by simp only[AV.refs];exact jQ hu aO)) hS hw⟩
def aw.refs(id:Nat):aw->Bool
 | .box cs=>AV.eZ id cs
 | .row .. => false
 | .aC .. => false
 | .map .. => false
theorem oD{v:Value}{e:TypeId}{size n:Nat}{l:List Value}(h:w.ownsRow 0 e size v n l):v.ownBlock=dx v:=by
 rcases h.2 with ⟨rfl,_⟩|⟨g,cap,cur,rfl,_⟩<;>rfl
theorem DS{e:TypeId}{size n:Nat}{v:Value}{l:List Value}(h:w.ownsRow 0 e size v n l)(hb:∀ b,dx v=some b->w'.heap[b]?=w.heap[b]?):w'.ownsRow 0 e size v n l:=by
 refine⟨h.1,h.2.imp id ?_⟩;rintro⟨g,cap,cur,rfl,h1,h2,h3⟩;exact⟨g,cap,cur,rfl,h1,by rw[hb g rfl];exact h2,h3⟩
theorem OR.mono{id:Nat}{o:aw}(h:OR c G lk w id o)(eI:G'.η id=G.η id)(hb:∀ b,dx (G.η id)=some b->w'.heap[b]?=w.heap[b]?)
  (hk:∀ j,o.refs j=true->eg (lk j) (lk' j)/\G'.η j=G.η j) (hS:∀ b,G.S b->G'.S b) (hw:∀ b,St c G.S b->w'.heap[b]?=w.heap[b]?):OR c G' lk' w' id o:=by
 cases o with
 | box cs =>
  obtain⟨b,l,t,h1,h2,h3⟩:=h;refine⟨b,l,t,eI.trans h1,?_,h3.imp λ u y hu hy=>hy.mono (λ j hj=>hk j (jQ hu hj)) hS hw⟩;rw[hb b (by rw[h1];rfl)];exact h2
 | row e τ xs =>
  obtain⟨l,h1,h2,h3⟩:=h;refine⟨l,?_,cZ.aK hS (λ b hb=>hw b (.inl hb)) _ h2,h3⟩;rw[eI];exact DS h1 hb
 | aC τ xs=>trivial
 | map m =>
  obtain⟨b,es,clock,h1,h2,h3⟩:=h;exact⟨b,es,clock,eI.trans h1,by rw[hb b (by rw[h1];rfl)];exact h2,h3⟩
end
theorem gL.aK{w w':World}{η:Value}{τ:Ty}{xs:List τ.den}{fp:List Nat}(h:gL w η τ xs fp)(hw:∀ b∈fp,w'.heap[b]?=w.heap[b]?):gL w' η τ xs fp:=by
 obtain⟨v,l,a,cap,h1,h2,h3,h4,h5,h6⟩:=h;refine⟨v,l,a,cap,h1,h2,h3,h4,h5,h6.imp id ?_⟩;rintro⟨b,f,t,k1,rfl,k2,k0,k3⟩;exact⟨b,f,t,k1,rfl,by rw[hw b (by simp)];exact k2,k0,bI.aK _ k3 λ b hb=>hw b (by simp[hb])⟩
theorem bf.world{c:Ctx}{G:Gh}{sl:Nat->AV}{n:Nat}{lk:Nat->Option aw}{a:Act}{w w':World}{S':Nat->Prop}(h:bf c G sl n lk a w)
  (iG:bJ (λ b=>c.w0.heap.size<=b\/c.X b) w w') (hS:∀ b,G.S b->S' b) (YK:∀ b,b<w.heap.size->(S' b↔G.S b)) (hX:∀ b,c.S0 b->S' b) (hLt:∀ b,S' b->b<w'.heap.size)
  (hw:∀ b,St c G.S b->w'.heap[b]?=w.heap[b]?) (iU:∀ id o b,lk id=some o->dx (G.η id)=some b->w'.heap[b]?=w.heap[b]?) (nD:∀ id τ xs b,lk id=some (.aC τ xs)->b∈G.φ id->w'.heap[b]?=w.heap[b]?) :
  bf c ⟨S',G.η,G.φ⟩ sl n lk a w' where
 defers:=h.defers
 size:=h.size
 aK:=h.aK.trans iG λ i hi hy=>hy.elim (λ h=>by omega) id
 iY:=h.iY
 dZ b hb hx:=(YK b (a7F hb h.aK.size)).trans (h.dZ b hb hx)
 sX:=hX
 dy:=hLt
 aA i:=(h.aA i).mono (λ id _=>⟨eg.refl _,rfl⟩) hS hw
 aH id o ho:=(h.aH id o ho).mono rfl (λ b hb=>iU id o b ho hb) (λ j _=>⟨eg.refl _,rfl⟩) hS hw
 place id o b ho hb:=by
  obtain⟨h1,h2,h3⟩:=h.place id o b ho hb;exact⟨h1,λ hs=>h2 ((YK b h3).1 hs),a7F h3 iG.size⟩
 apart:=h.apart
 aN:={
  tr:=λ id τ xs ht=>(h.aN.tr id τ xs ht).aK λ b hb=>nD id τ xs b ht hb
  nd:=h.aN.nd
  pl:=λ id τ xs b ht hb=>by
   obtain⟨h1,h2,h3,h4⟩:=h.aN.pl id τ xs b ht hb;exact⟨h1,λ hs=>h2 ((YK b h3).1 hs),a7F h3 iG.size,h4⟩
  ap:=h.aN.ap }
 root:=h.root
 fE:=h.fE
 dq:=h.dq
 eF:=h.eF
theorem bf.drew{c:Ctx}{G:Gh}{sl:Nat->AV}{n:Nat}{lk:Nat->Option aw}{a:Act}{w:World}(h:bf c G sl n lk a w):bf c G sl n lk a w.drew :=
 h.world (S':=G.S) ⟨rfl,rfl,rfl,a7P _,λ _ _ _=>rfl⟩ (λ _ h=>h) (λ _ _=>a9Q) h.sX h.dy (λ _ _=>rfl) (λ _ _ _ _ _=>rfl) (λ _ _ _ _ _ _=>rfl)
def iz(n:Nat)(sl:Nat->AV)(d:Option Nat)(v:AV)(i:Nat):AV:=if d=some i/\i<n then v else sl i
theorem dQ(a:Act)(d:Option Nat)(x:Value)(i:Nat):(a.put d x).tmps.getD i undef=if d=some i/\i<a.tmps.size then x else a.tmps.getD i undef:=by
 cases d with
 | none=>simp[Act.put]
 | some d =>
  simp only[Act.put,a7v];by_cases h:d=i
  .subst h;by_cases hl:d<a.tmps.size
   .simp[hl,a8h]
   .simp[hl,a8h,Array.setIfInBounds]
  .simp[h,a8h,b0H]
theorem fF(a:Act)(d:Option Nat)(x:Value):(a.put d x).tmps.size=a.tmps.size:=by cases d<;>simp[Act.put]
theorem im(a:Act)(d:Option Nat)(x:Value):(a.put d x).defers=a.defers:=by cases d<;>rfl
theorem bf.put{c:Ctx}{G:Gh}{sl:Nat->AV}{n:Nat}{lk:Nat->Option aw}{a:Act}{w:World}(h:bf c G sl n lk a w){d:Option Nat}{v:AV}{x:Value}(hv:VR c G lk w v x) :
  bf c G (iz n sl d v) n lk (a.put d x) w where
 defers:=(im _ _ _).trans h.defers
 size:=(fF _ _ _).trans h.size
 aK:=h.aK
 iY:=h.iY
 dZ:=h.dZ
 sX:=h.sX
 dy:=h.dy
 aA i:=by
  rw[dQ,h.size,iz];split
  .exact hv
  .exact h.aA i
 aH:=h.aH
 place:=h.place
 apart:=h.apart
 aN:=h.aN
 root:=h.root
 fE:=h.fE
 dq:=h.dq
 eF:=h.eF
theorem bf.forget{c:Ctx}{G:Gh}{sl sl':Nat->AV}{n:Nat}{lk:Nat->Option aw}{a:Act}{w:World}(h:bf c G sl n lk a w)(hs:∀ i,sl' i=sl i\/sl' i = .any):bf c G sl' n lk a w where
 defers:=h.defers
 size:=h.size
 aK:=h.aK
 iY:=h.iY
 dZ:=h.dZ
 sX:=h.sX
 dy:=h.dy
 aA i:=by
  rcases hs i with e|e
  .rw[e];exact h.aA i
  .rw[e];trivial
 aH:=h.aH
 place:=h.place
 apart:=h.apart
 aN:=h.aN
 root:=h.root
 fE:=h.fE
 dq:=h.dq
 eF:=h.eF
theorem SO(id:Nat)(v:AV):v.kill id=v\/v.kill id = .any:=by unfold AV.kill;split<;>simp
theorem yz(id:Nat)(v:AV):(v.kill id).refs id=false:=by
 unfold AV.kill;split
 .rfl
 .assumption
theorem C1.kill{c:Ctx}{G:Gh}{lk:Nat->Option aw}{w:World}{v:AV}{x:Value}(h:C1 c G lk w v x)(id:Nat):C1 c G lk w (v.kill id) x:=by
 rcases SO id v with e|e
 .rw[e];exact h
 .rw[e];trivial
theorem BU(id:Nat):∀ cs:List AV,AV.eZ id (cs.map (AV.kill id))=false
 | []=>rfl
 | v::r=>by simp only[a8d,AV.eZ,yz];exact BU id r
theorem OR.kill{c:Ctx}{G:Gh}{lk:Nat->Option aw}{w:World}{i:Nat}{o:aw}(h:OR c G lk w i o)(id:Nat):OR c G lk w i (o.kill id):=by
 cases o with
 | box cs =>
  obtain⟨b,l,t,h1,h2,h3⟩:=h;exact⟨b,l,t,h1,h2,aM.dF _ (h3.imp λ u y _ hy=>hy.kill id)⟩
 | row e τ xs=>exact h
 | aC τ xs=>exact h
 | map m=>exact h
theorem Ft(id:Nat)(o:Option aw):eg o (o.map (aw.kill id)):=by
 refine⟨λ h=>?_,λ e τ xs h=>⟨e,xs,by rw[h];rfl,a7P _⟩,λ h=>?_,λ h=>?_⟩
 .match o,h with
  | some (.box cs),_=>rfl
 .match o,h with
  | some (.aC τ xs),_=>rfl
 .match o,h with
  | some (.map m),_=>rfl
theorem ib{id:Nat}{o:Option aw}{τ:Ty}{xs:List τ.den}(h:o.map (aw.kill id)=some (.aC τ xs)):o=some (.aC τ xs):=by
 match o,h with
 | some (.aC aT cF),h=>exact h
 | some (.box _),h=>cases h
 | some (.row ..),h=>cases h
theorem D3.sub{c:Ctx}{G:Gh}{lk lk':Nat->Option aw}{w:World}(h:D3 c G lk w)(ht:∀ id τ xs,lk' id=some (.aC τ xs)->lk id=some (.aC τ xs))(ho:∀ i o,lk' i=some o->∃ o',lk i=some o'):D3 c G lk' w where
 tr id τ xs k:=h.tr id τ xs (ht id τ xs k)
 nd id τ xs k:=h.nd id τ xs (ht id τ xs k)
 pl id τ xs b k hb:=by
  obtain⟨h1,h2,h3,h4⟩:=h.pl id τ xs b (ht id τ xs k) hb;exact⟨h1,h2,h3,λ i o hi=>(ho i o hi).elim λ o' cH=>h4 i o' cH⟩
 ap id di τ aT xs cF b k k':=h.ap id di τ aT xs cF b (ht id τ xs k) (ht di aT cF k')
theorem bf.bO{c:Ctx}{G:Gh}{sl:Nat->AV}{n:Nat}{lk:Nat->Option aw}{a:Act}{w:World}(h:bf c G sl n lk a w)(id:Nat) :
  bf c G (λ i=>(sl i).kill id) n (λ i=>(lk i).map (aw.kill id)) a w:=by
 have h1:bf c G (λ i=>(sl i).kill id) n lk a w:=h.forget λ i=>SO id (sl i);exact {
  defers:=h1.defers,size:=h1.size,aK:=h1.aK,iY:=h1.iY,dZ:=h1.dZ,sX:=h1.sX,dy:=h1.dy
  aA:=λ i=>(h1.aA i).mono (λ j _=>⟨Ft id _,rfl⟩) (λ _ h=>h) (λ _ _=>rfl)
  aH:=λ i o ho=>by
   rw[a8f] at ho;obtain⟨o',cH,rfl⟩:=ho;exact ((h1.aH i o' cH).kill id).mono rfl (λ _ _=>rfl) (λ j _=>⟨Ft id _,rfl⟩) (λ _ h=>h) (λ _ _=>rfl)
  place:=λ i o b ho hb=>by
   rw[a8f] at ho;obtain⟨o',cH,rfl⟩:=ho;exact h1.place i o' b cH hb
  apart:=λ i j o o' b ho cH hb cv=>by
   rw[a8f] at ho cH;obtain⟨p,hp,rfl⟩:=ho;obtain⟨q,hq,rfl⟩:=cH;exact h1.apart i j p q b hp hq hb cv
  aN:=h1.aN.sub (λ i τ xs k=>ib k) (λ i o k=>by
   rw[a8f] at k;obtain⟨p,hp,_⟩:=k;exact⟨p,hp⟩)
  root:=λ i v hr ht=>h1.root i v hr (by
   match hl:lk i,ht with
   | some (.aC ..),_=>rfl
   | some (.box _),ht=>simp[hl,aw.kill,cU] at ht
   | some (.row ..),ht=>simp[hl,aw.kill,cU] at ht
   | none,ht=>simp[hl,cU] at ht)
  fE:=h1.fE
  dq:=λ i v hr ht=>h1.dq i v hr (by
   match hl:lk i,ht with
   | some (.box _),_=>rfl
   | some (.aC ..),ht=>simp[hl,aw.kill,gH] at ht
   | some (.row ..),ht=>simp[hl,aw.kill,gH] at ht
   | none,ht=>simp[hl,gH] at ht)
  eF:=h1.eF }
theorem bf.a0S{c:Ctx}{G:Gh}{sl:Nat->AV}{n:Nat}{lk:Nat->Option aw}{a:Act}{w:World}(h:bf c G sl n lk a w)(id:Nat)
  (hs:∀ i,(sl i).refs id=false) (ho:∀ i o,lk i=some o->i≠id->o.refs id=false):bf c G sl n (λ i=>if i=id then none else lk i) a w:=by
 have fh:∀ j,j≠id->eg (lk j) ((λ i=>if i=id then none else lk i) j):=λ j hj=>by simp only[a7z hj];exact eg.refl _
 exact {
  defers:=h.defers,size:=h.size,aK:=h.aK,iY:=h.iY,dZ:=h.dZ,sX:=h.sX,dy:=h.dy
  aA:=λ i=>(h.aA i).mono (λ j hj=>⟨fh j (λ e=>by subst e;rw[hs i] at hj;cases hj),rfl⟩) (λ _ h=>h) (λ _ _=>rfl)
  aH:=λ i o cd=>by
   by_cases hi:i=id
   .simp[hi] at cd
   .simp only[a7z hi] at cd;exact (h.aH i o cd).mono rfl (λ _ _=>rfl) (λ j hj=>⟨fh j (λ e=>by subst e;rw[ho i o cd hi] at hj;cases hj),rfl⟩) (λ _ h=>h) (λ _ _=>rfl)
  place:=λ i o b cd hb=>by
   by_cases hi:i=id
   .simp[hi] at cd
   .simp only[a7z hi] at cd;exact h.place i o b cd hb
  apart:=λ i j o o' b cd E0 hb cv=>by
   by_cases hi:i=id
   .simp[hi] at cd
   .by_cases hj:j=id
    .simp[hj] at E0
    .simp only[a7z hi] at cd;simp only[a7z hj] at E0;exact h.apart i j o o' b cd E0 hb cv
  aN:=h.aN.sub (λ i τ xs k=>by
   by_cases hi:i=id
   .simp[hi] at k
   .simpa only[if_neg hi] using k) (λ i o k=>by
   by_cases hi:i=id
   .simp[hi] at k
   .exact⟨o,by simpa only[if_neg hi] using k⟩)
  root:=λ i v hr ht=>h.root i v hr (by
   by_cases hi:i=id
   .simp[hi,cU] at ht
   .simpa only[if_neg hi] using ht)
  fE:=h.fE
  dq:=λ i v hr ht=>h.dq i v hr (by
   by_cases hi:i=id
   .simp[hi,gH] at ht
   .simpa only[if_neg hi] using ht)
  eF:=h.eF }
theorem bf.newObj{c:Ctx}{G:Gh}{sl:Nat->AV}{n:Nat}{lk:Nat->Option aw}{a:Act}{w:World}(h:bf c G sl n lk a w)(id:Nat)(o:aw)(x:Value)
  (aO:lk id=none) (hs:∀ i,(sl i).refs id=false) (ho:∀ i o,lk i=some o->o.refs id=false) (hor:o.refs id=false)
  (nM:OR c ⟨G.S,λ i=>if i=id then x else G.η i,G.φ⟩ (λ i=>if i=id then some o else lk i) w id o)
  (IG:cU (some o)=false) (bp:gH (some o)=false\/id<400000) (hblk:∀ b,dx x=some b->(c.w0.heap.size<=b\/c.X b)/\¬ G.S b/\b<w.heap.size/\(∀ i o',lk i=some o'->dx (G.η i)≠some b)/\∀ j τ xs,lk j=some (.aC τ xs)->b∉G.φ j) :
  bf c ⟨G.S,λ i=>if i=id then x else G.η i,G.φ⟩ sl n (λ i=>if i=id then some o else lk i) a w:=by
 have fh:∀ j,j≠id->eg (lk j) ((λ i=>if i=id then some o else lk i) j)/\(if j=id then x else G.η j)=G.η j:=λ j hj=>by simp only[a7z hj];exact⟨eg.refl _,af⟩
 exact {
  defers:=h.defers,size:=h.size,aK:=h.aK,iY:=h.iY,dZ:=h.dZ,sX:=h.sX,dy:=h.dy
  aA:=λ i=>(h.aA i).mono (λ j hj=>fh j (λ e=>by subst e;rw[hs i] at hj;cases hj)) (λ _ h=>h) (λ _ _=>rfl)
  aH:=λ i o' cd=>by
   by_cases hi:i=id
   .subst hi;simp only[a9o,a7v] at cd;subst cd;exact nM
   .simp only[a7z hi] at cd;exact (h.aH i o' cd).mono (by simp only[a7z hi]) (λ _ _=>rfl) (λ j hj=>fh j (λ e=>by subst e;rw[ho i o' cd] at hj;cases hj)) (λ _ h=>h) (λ _ _=>rfl)
  place:=λ i o' b cd hb=>by
   by_cases hi:i=id
   .simp only[a7E hi] at hb;obtain⟨h1,h2,h3,_⟩:=hblk b hb;exact⟨h1,h2,h3⟩
   .simp only[a7z hi] at cd hb;exact h.place i o' b cd hb
  apart:=λ i j o1 o2 b cd E0 hb cv=>by
   by_cases hi:i=id
   .by_cases hj:j=id
    .rw[hi,hj]
    .simp only[a7z hj] at E0 cv;simp only[a7E hi] at hb;exact absurd cv ((hblk b hb).2.2.2.1 j o2 E0)
   .by_cases hj:j=id
    .simp only[a7z hi] at cd hb;simp only[a7E hj] at cv;exact absurd hb ((hblk b cv).2.2.2.1 i o1 cd)
    .simp only[a7z hi] at cd hb;simp only[a7z hj] at E0 cv;exact h.apart i j o1 o2 b cd E0 hb cv
  aN:=by
   have hold:∀ j τ xs,(if j=id then some o else lk j)=some (.aC τ xs)->j≠id/\lk j=some (.aC τ xs):=λ j τ xs k=>by
    by_cases hj:j=id
    .rw[a7E hj] at k;cases k;cases IG
    .rw[a7z hj] at k;exact⟨hj,k⟩
   exact {
    tr:=λ j τ xs k=>by
     obtain⟨h1,h2⟩:=hold j τ xs k;simp only[a7z h1];exact h.aN.tr j τ xs h2
    nd:=λ j τ xs k=>h.aN.nd j τ xs (hold j τ xs k).2
    pl:=λ j τ xs b k hb=>by
     obtain⟨h1,h2,h3,h4⟩:=h.aN.pl j τ xs b (hold j τ xs k).2 hb;refine⟨h1,h2,h3,λ i p rj=>?_⟩;by_cases hi:i=id
     .simp only[a7E hi];exact λ e=>(hblk b e).2.2.2.2 j τ xs (hold j τ xs k).2 hb
     .simp only[a7z hi] at rj ⊢;exact h4 i p rj
    ap:=λ j j' τ aT xs cF b k k'=>h.aN.ap j j' τ aT xs cF b (hold j τ xs k).2 (hold j' aT cF k').2 }
  root:=λ i v hr ht=>by
   by_cases hi:i=id
   .simp only[a7E hi] at ht;rw[IG] at ht;cases ht
   .simp only[a7z hi] at ht ⊢;exact h.root i v hr ht
  fE:=h.fE
  dq:=λ i v hr ht=>by
   by_cases hi:i=id
   .subst hi;rcases bp with bp|bp
    .simp only[a9o] at ht;rw[bp] at ht;cases ht
    .have:=h.eF i v hr;omega
   .simp only[a7z hi] at ht ⊢;exact h.dq i v hr ht
  eF:=h.eF }
theorem bf.Rl{c:Ctx}{G:Gh}{sl:Nat->AV}{n:Nat}{lk:Nat->Option aw}{a:Act}{w w':World}(h:bf c G sl n lk a w)(id:Nat)(o o':aw)(b:Nat)(aO:lk id=some o)(hb:dx (G.η id)=some b)
  (fh:eg (some o) (some o')) (IG:cU (some o')=false) (hw:∀ k,k≠b->w'.heap[k]?=w.heap[k]?) (hos:w'.os=w.os) (UI:w'.tape=w.tape) (PR:w'.output=w.output) (vZ:w'.heap.size=w.heap.size)
  (nM:OR c G (λ i=>if i=id then some o' else lk i) w' id o'):bf c G sl n (λ i=>if i=id then some o' else lk i) a w':=by
 obtain⟨SA,hp2,hp3⟩:=h.place id o b aO hb;have bU:∀ k,St c G.S k->w'.heap[k]?=w.heap[k]?:=λ k hk=>hw k λ e=>by
  subst e;rcases hk with hk|hk
  .exact hp2 hk
  .exact SA.elim (λ q=>by omega) hk.2.1
 have hs:∀ j,eg (lk j) ((λ i=>if i=id then some o' else lk i) j):=λ j=>by
  by_cases hj:j=id
  .subst hj;simp only[a9o];rw[aO];exact fh
  .simp only[a7z hj];exact eg.refl _
 exact {
  defers:=h.defers,size:=h.size
  aK:=h.aK.trans (Y:=λ k=>c.w0.heap.size<=k\/c.X k) ⟨hos,UI,PR,Nat.le_of_eq vZ.symm,λ k _ hx=>hw k λ e=>by subst e;exact hx SA⟩ λ i hi hy=>hy.elim (λ h=>by omega) (λ h=>h)
  iY:=h.iY,dZ:=h.dZ,sX:=h.sX
  dy:=λ k hk=>by rw[vZ];exact h.dy k hk
  aA:=λ i=>(h.aA i).mono (λ j _=>⟨hs j,rfl⟩) (λ _ h=>h) bU
  aH:=λ i p hp=>by
   by_cases hi:i=id
   .subst hi;simp only[a9o,a7v] at hp;subst hp;exact nM
   .simp only[a7z hi] at hp;exact (h.aH i p hp).mono rfl (λ k hk=>hw k λ e=>by subst e;exact hi (h.apart i id p o _ hp aO hk hb)) (λ j _=>⟨hs j,rfl⟩) (λ _ h=>h) bU
  place:=λ i p k hp hk=>by
   rw[vZ];by_cases hi:i=id
   .subst hi;exact h.place i o k aO hk
   .simp only[a7z hi] at hp;exact h.place i p k hp hk
  apart:=λ i j p q k hp hq hk fg=>by
   by_cases hi:i=id
   .by_cases hj:j=id
    .rw[hi,hj]
    .simp only[a7z hj] at hq;rw[hi] at hk ⊢;exact h.apart id j o q k aO hq hk fg
   .simp only[a7z hi] at hp;by_cases hj:j=id
    .rw[hj] at fg ⊢;exact h.apart i id p o k hp aO hk fg
    .simp only[a7z hj] at hq;exact h.apart i j p q k hp hq hk fg
  aN:=by
   have hold:∀ j τ xs,(if j=id then some o' else lk j)=some (.aC τ xs)->lk j=some (.aC τ xs):=λ j τ xs k=>by
    by_cases hj:j=id
    .rw[a7E hj] at k;cases k;cases IG
    .rwa [a7z hj] at k
   exact {
    tr:=λ j τ xs k=>(h.aN.tr j τ xs (hold j τ xs k)).aK λ k' fg=>hw k' λ e=>by
     subst e;exact (h.aN.pl j τ xs _ (hold j τ xs k) fg).2.2.2 id o aO hb
    nd:=λ j τ xs k=>h.aN.nd j τ xs (hold j τ xs k)
    pl:=λ j τ xs b' k cv=>by
     obtain⟨h1,h2,h3,h4⟩:=h.aN.pl j τ xs b' (hold j τ xs k) cv;refine⟨h1,h2,by rw[vZ];exact h3,λ i p rj=>?_⟩;by_cases hi:i=id
     .rw[hi];exact h4 id o aO
     .rw[a7z hi] at rj;exact h4 i p rj
    ap:=λ j j' τ aT xs cF b' k k'=>h.aN.ap j j' τ aT xs cF b' (hold j τ xs k) (hold j' aT cF k') }
  root:=λ i v hr ht=>by
   by_cases hi:i=id
   .simp only[a7E hi] at ht;rw[IG] at ht;cases ht
   .simp only[a7z hi] at ht;exact h.root i v hr ht
  fE:=h.fE
  dq:=λ i v hr ht=>by
   by_cases hi:i=id
   .subst hi;simp only[a9o] at ht;refine h.dq i v hr ?_;rw[aO];cases o with
    | box cs=>rfl
    | row e τ xs=>obtain⟨e',cF,q,_⟩:=fh.2.1 e τ xs rfl;rw[q] at ht;cases ht
    | aC τ xs=>have h3:cU (some o')=true:=fh.2.2.1 rfl;rw[IG] at h3;cases h3
    | map m =>
     obtain⟨b1,_,_,k1,_⟩:=h.aH i _ aO;match o',ht with
     | .box cs,_ =>
      obtain⟨b2,_,_,k2,_⟩:=nM;rw[k1] at k2;cases k2
   .simp only[a7z hi] at ht;exact h.dq i v hr ht
  eF:=h.eF }
def tS:Ty->Value->Bool
 | .int k, .int k' n=>decide (k=k')&&decide (n=0)
 | .bool, .bool b => !b
 | .str, .string s=>s.data.toList.isEmpty
 | .slice _, .slice none 0 0=>true
 | .ptr, .pointer none=>true
 | _,_=>false
def HY:List Ty->List Value->Bool
 | [],[]=>true
 | t::ts,v::vs=>tS t v&&HY ts vs
 | _,_=>false
def vJ(τ:Ty)(v:Value):Bool :=
 match τ,v with
 | .st s, .agg cs=>HY s.my cs.toList
 | .st _,_=>false
 | τ,v=>tS τ v
def LB(P:Program)(T:TypeId)(τ:Ty):Bool :=
 match P.info? T with
 | some i=>Nat.beq i.size τ.size&&(match i.zero with
  | some z=>vJ τ z
  | none=>false)
 | none=>false
def Ci(E:Env)(s:aJ):Nat->List Field->List Ty->Bool
 | _,[],[]=>true
 | i,f::fs,t::ts=>(match ag E.ty f.type with
   | some (τ,_)=>decide (τ=t)
   | none=>false)&&Nat.beq f.offset (s.dB i)&&Ci E s (i+1) fs ts
 | _,_,_=>false
def nC(P:Program)(E:Env)(T:TypeId)(τ:Ty)(b e:Nat):Bool :=
 LB P T τ&&match τ with
  | .int k=>match P.underlying T with
   | some (.int k')=>decide (k=k')
   | _=>false
  | .bool=>match P.underlying T with
   | some .bool=>true
   | _=>false
  | .str=>match P.underlying T with
   | some .string=>true
   | _=>false
  | .slice t=>match P.underlying T with
   | some (.slice e')=>Nat.beq e e'&&(match ag E.ty e with
     | some (aT,_)=>decide (aT=t)
     | none=>false)&&(match P.info? e with
     | some i=>Nat.beq i.bytes b
     | none=>false)&&LB P e t
   | _=>false
  | .st s=>(match s.arr with
   | false=>match P.underlying T with
    | some (.struct fs)=>Ci E s 0 fs.toList s.dr
    | _=>false
   | true=>match P.underlying T with
    | some (.array n e)=>Nat.beq n s.dr.length&&s.dr.all λ t=>match ag E.ty e with
     | some (aT,_)=>decide (aT=t)
     | none=>false
    | _=>false)
  | .mv _=>false
  | .ptr=>match P.underlying T with
   | some (.pointer _)=>true
   | _=>false
def Nx(P:Program)(E:Env)(T:TypeId)(κ ε:Ty):Bool:=match P.underlying T with
 | some (.map k e)=>match ag E.ty k,ag E.ty e with
  | some (κ',_),some (ε',_)=>decide (κ'=κ)&&(decide (ε'=ε)&&(κ.DG&&(ε.key&&Nat.blt 0 P.types.size)))
  | _,_=>false
 | _=>false
structure Info(P:Program)(T:TypeId)(τ:Ty):Prop where
 ex:∃ i z,P.info? T=some i/\i.size=τ.size/\i.zero=some z/\vJ τ z=true
theorem SG{P:Program}{T:TypeId}{τ:Ty}(h:LB P T τ=true):Info P T τ:=by
 unfold LB at h;split at h
 .rename_i i hi;simp only[a7H] at h;obtain⟨h1,h2⟩:=h;split at h2
  .rename_i z hz;exact⟨i,z,hi,a7w h1,hz,h2⟩
  .cases h2
 .cases h
def ui(P:Program)(w:World)(S:Nat->Prop):Arg->Value->Prop
 | .cK v,x=>∃ f dY l,x = .func (.func f) #[] l.toArray/\xS P f dY v.ps v.r v.F []/\aM (D1 w S) dY l
 | a,x=>D1 w S a x
theorem ui.of0{P:Program}{w:World}{S:Nat->Prop}{a:Arg}{x:Value}(h:D1 w S a x):ui P w S a x:=by
 cases a with
 | cK v=>exact h.elim
 | own v=>exact h.elim
 | box k=>exact h.elim
 | _=>exact h
def fO(P:Program)(f:FuncId)(args:List Arg)(post:List TV->Prop):Prop :=
 ∀ (w:World) (S:Nat->Prop) (cj:List Value),iR w S->aM (ui P w S) args cj ->
  Calls P f cj.toArray w λ e w'=>∃ x S' res,e = .returned x/\post res/\bJ (λ _=>False) w w'/\(∀ b,b<w.heap.size->(S' b↔S b))/\(∀ b,S' b->b<w'.heap.size)/\Di w' S' res x
def vL(w:World)(v:TV)(x:Value)(fp:List Nat):Prop :=
 match v with
 | ⟨.st s,y⟩=>∃ cs,x = .agg cs.toArray/\Ow w (s.aI y) cs fp
 | v=>Ow w v.aI [x] fp
def FJ(w:World):List TV->List Value->List Nat->Prop
 | [],[],fp=>fp=[]
 | v::vs,x::xs,fp=>∃ f1 f2,fp=f1++f2/\vL w v x f1/\FJ w vs xs f2
 | _,_,_=>False
def H3(w:World):List TV->Value->List Nat->Prop
 | [v],x,fp=>vL w v x fp
 | vs,x,fp=>∃ l,x = .tuple l.toArray/\FJ w vs l fp
def pz(P:Program)(w:World)(S:Nat->Prop):List Arg->List Value->List Nat->Prop
 | [],[],fp=>fp=[]
 | a::Z9,x::xs,fp=>∃ f1 f2,fp=f1++f2/\(match a with
  | .own v=>vL w v x f1
  | a=>f1=[]/\ui P w S a x)/\pz P w S Z9 xs f2
 | _,_,_=>False
def rS(P:Program)(f:FuncId)(args:List Arg)(res:List TV):Prop :=
 ∀ (w:World) (S:Nat->Prop) (cj:List Value) (fa:List Nat),iR w S->pz P w S args cj fa->(fa=[]\/∀ a∈args,a.Fy=true)->fa.Nodup->(∀ b∈fa,b<w.heap.size/\¬ S b) ->
  Calls P f cj.toArray w λ e w'=>∃ x fp,e = .returned x/\bJ (λ b=>b∈fa) w w'/\H3 w' res x fp/\fp.Nodup/\∀ b∈fp,b∈fa\/(w.heap.size<=b/\b<w'.heap.size)
theorem pz.NK{P:Program}{w:World}{S:Nat->Prop}:∀ {Z9:List Arg} {xs:List Value},aM (ui P w S) Z9 xs->pz P w S Z9 xs []
 | [],[],_=>rfl
 | a::Z9,x::xs,h=>by
  refine⟨[],[],rfl,?_,pz.NK h.2⟩;cases a with
  | own v=>exact h.1.elim
  | box k=>exact h.1.elim
  | _=>exact⟨rfl,h.1⟩
 | [],_::_,h=>h.elim
 | _::_,[],h=>h.elim
def Qf(P:Program)(f:FuncId)(m:RW):Prop :=
 ∀ (x:m.τ.den) (k:Int) (w:World) (v:Value) (fp:List Nat),(m.g x k).1.ok->au k->XM w (λ b=>b<w.heap.size/\b∉fp)->vL w ⟨m.τ,x⟩ v fp->fp.Nodup->(∀ b∈fp,b<w.heap.size) ->
  Calls P f #[v, .int .i64 k] w λ e w'=>e = .returned (.int .i64 (m.g x k).2.2)/\au (m.g x k).2.2/\bJ (λ b=>b∈fp) w w'/\∃ A2,vL w' ⟨m.τ,(m.g x k).2.1⟩ v A2/\A2.Nodup/\∀ b∈A2,b∈fp\/(w.heap.size<=b/\b<w'.heap.size)
def ji(w:World)(S:Nat->Prop)(B:Nat->Nat):List CK->List TV->List Value->List Nat->Prop
 | [],[],[],fp=>fp=[]
 | .d τ::ks,v::ds,x::xs,fp=>(v.τ=τ/\τ.agg=false/\Rd w S v.aI [x])/\ji w S B ks ds xs fp
 | .o τ::ks,v::ds,x::xs,fp=>∃ f1 f2,fp=f1++f2/\(v.τ=τ/\τ.agg=false/\Ow w v.aI [x] f1)/\ji w S B ks ds xs f2
 | .p j::ks,ds,x::xs,fp=>x = .pointer (some ⟨B j,0,none⟩)/\ji w S B ks ds xs fp
 | _,_,_,_=>False
def gf(w:World)(S:Nat->Prop)(B:Nat->Nat):Nat->List (List CK)->List (List TV)->List Nat->Prop
 | _,[],[],fp=>fp=[]
 | k,ks::sh,ds::cA,fp=>∃ l t f1 f2,fp=f1++f2/\w.heap[B k]?=some (.cells l.toArray t (0,0))/\ji w S B ks ds l f1/\gf w S B (k+1) sh cA f2
 | _,_,_,_=>False
def a1F(w:World)(S X:Nat->Prop):Arg->Value->Prop
 | .val v,x=>du w S v x
 | .ref v,x=>∃ b o cs,x = .pointer (some ⟨b,o,none⟩)/\b<w.heap.size/\¬ X b/\bn w b o cs/\Rd w S v.aI cs
 | .fn f,x=>x = .func (.func f) #[] #[]
 | _,_=>False
def Pc(P:Program)(w:World)(S X:Nat->Prop)(B:Nat->Nat):Arg->Value->Prop
 | .box k,x=>x = .pointer (some ⟨B k,0,none⟩)
 | .val v,x=>du w S v x
 | .ref v,x=>∃ b o cs,x = .pointer (some ⟨b,o,none⟩)/\b<w.heap.size/\¬ X b/\bn w b o cs/\Rd w S v.aI cs
 | .fn f,x=>x = .func (.func f) #[] #[]
 | .cK v,x=>∃ f dY l,x = .func (.func f) #[] l.toArray/\xS P f dY v.ps v.r v.F []/\aM (a1F w S X) dY l
 | .own _,_=>False
def BX(n:Nat)(B:Nat->Nat)(fa:List Nat)(b:Nat):Prop:=b∈fa\/∃ k,k<n/\b=B k
def Qg(P:Program)(f:FuncId)(sh:List (List CK))(res:List TV)(eD:List (List TV))(w:World)(S:Nat->Prop)(B:Nat->Nat)(cj:List Value)(fa:List Nat):Prop :=
 Calls P f cj.toArray w λ e w'=>∃ x S' fp QI,e = .returned x/\bJ (BX sh.length B fa) w w'/\(∀ b,S b->S' b)/\(∀ b,S' b->b<w'.heap.size)/\(∀ b,b<w.heap.size->¬ BX sh.length B fa b->(S' b↔S b)) /\
  H3 w' res x fp/\gf w' S' B 0 sh eD QI/\(fp++QI).Nodup/\(∀ b∈fp++QI,(b∈fa\/(w.heap.size<=b/\b<w'.heap.size))/\¬ S' b/\∀ k,k<sh.length->B k≠b)/\∀ k,k<sh.length->¬ S' (B k)
def Pd(P:Program)(f:FuncId)(sh:List (List CK))(args:List Arg)(cA:List (List TV))(res:List TV)(eD:List (List TV)):Prop :=
 ∀ (w:World) (S:Nat->Prop) (B:Nat->Nat) (cj:List Value) (fa:List Nat),iR w S->gf w S B 0 sh cA fa->fa.Nodup->(∀ b∈fa,b<w.heap.size/\¬ S b/\∀ k,k<sh.length->B k≠b) ->
  (∀ k,k<sh.length->B k<w.heap.size/\¬ S (B k))->(∀ j k,j<sh.length->k<sh.length->B j=B k->j=k)->aM (Pc P w S (BX sh.length B fa) B) args cj->Qg P f sh res eD w S B cj fa
theorem fO.ok0{P:Program}{f:FuncId}{args:List Arg}{post:List TV->Prop}(h:fO P f args post):FI P f args post :=
 λ w S cj hS ha=>h w S cj hS (ha.imp λ _ _ _ hx => .of0 hx)
def XS(w:World)(S T:Nat->Prop)(x:Value):Vx->Prop
 | .box cells=>∃ b l t,x = .pointer (some ⟨b,0,none⟩)/\w.heap[b]?=some (.cells l.toArray t (0,0))/\aM (λ v x=>v.τ.agg=false/\Rd w S v.aI [x]) cells l
 | .row e τ xs=>∃ l,w.ownsRow 0 e τ.size x xs.length l/\cZ w S (xs.map τ.aI) l/\xs.length<=140737488355328
 | .res l=>∃ ys,x = .tuple ys.toArray/\aM (λ r x=>match r with
  | (true,v)=>∃ b o cs,x = .pointer (some ⟨b,o,none⟩)/\(S b\/T b)/\bn w b o cs/\Rd w S v.aI cs
  | (false,v)=>du w S v x) l ys
def XT(P:Program)(f:FuncId)(args:List Arg)(o:Vx):Prop :=
 ∀ (w:World) (S T:Nat->Prop) (cj:List Value),iR w S->(∀ x∈cj,∀ a:Addr,x = .pointer (some a)->T a.block)->aM (ui P w S) args cj ->
  Calls P f cj.toArray w λ e w'=>∃ x S',e = .returned x/\bJ (λ _=>False) w w'/\(∀ k,k<w.heap.size->(S' k↔S k))/\(∀ k,S' k->k<w'.heap.size) /\
   (∀ b,dx x=some b->w.heap.size<=b/\b<w'.heap.size/\¬ S' b)/\XS w' S' T x o
def Cc(P:Program)(f:FuncId)(Z9:List Arg)(τ:Ty)(xs ys:List τ.den):Prop :=
 ∀ (w:World) (S:Nat->Prop) (cj:List Value) (v:Value) (fp:List Nat),iR w S->aM (Pc P w S (λ b=>b∈fp) (λ _=>0)) Z9 cj->vL w ⟨.slice τ,xs⟩ v fp->fp.Nodup->(∀ b∈fp,b<w.heap.size/\¬ S b) ->
  Calls P f (cj++[v]).toArray w λ e w'=>∃ r,e = .returned r/\bJ (λ b=>b∈fp) w w'/\∃ A2,vL w' ⟨.slice τ,ys⟩ v A2/\A2.Nodup/\∀ b∈A2,b∈fp\/(w.heap.size<=b/\b<w'.heap.size)
structure bo(P:Program)(E:Env):Prop where
 ty:∀ T τ b e,ag E.ty T=some (τ,b,e)->nC P E T τ b e=true
 Hj:∀ T κ ε,ag E.Hj T=some (κ,ε)->Nx P E T κ ε=true
 Rv:∀ T τ,ag E.Rv T=some τ->True
 Io:∀ f args pre res,E.Io f args=some (pre,res)->pre.ok->iQ P f/\fO P f args (·=res)
 Hp:∀ f args pre res,E.Hp f args=some (pre,res)->pre.ok->iQ P f/\rS P f args res
 mark:∀ f m,E.mark f=some m->iQ P f/\Qf P f m
 NC:∀ f args pre o,E.NC f args=some (pre,o)->pre.ok->iQ P f/\XT P f args o
 Kl:∀ f Z9 τ xs pre ys,E.Kl f Z9 τ xs=some (pre,ys)->pre.ok->iQ P f/\Cc P f Z9 τ xs ys
 P3:∀ f sk args cA pre res eD,E.sk f=some sk->E.P3 f args cA=some (pre,res,eD)->pre.ok->iQ P f/\Pd P f sk.sh args cA res eD
section
variable {P:Program} {E:Env} {T:TypeId} {τ:Ty} {b e:Nat}
theorem bo.info(hE:bo P E)(h:ag E.ty T=some (τ,b,e)):Info P T τ:=by
 have:=hE.ty _ _ _ _ h;unfold nC at this;simp only[Bool.and_eq_true] at this;exact SG this.1
theorem bo.int(hE:bo P E){k:IntKind}(h:ag E.ty T=some (.int k,b,e)):P.underlying T=some (.int k):=by
 have:=hE.ty _ _ _ _ h;unfold nC at this;simp only[Bool.and_eq_true] at this;have h2:=this.2;split at h2
 .rename_i k' hk;rw[hk,a7Z h2]
 .cases h2
theorem bo.bool(hE:bo P E)(h:ag E.ty T=some (.bool,b,e)):P.underlying T=some .bool:=by
 have:=hE.ty _ _ _ _ h;unfold nC at this;simp only[Bool.and_eq_true] at this;have h2:=this.2;split at h2
 .assumption
 .cases h2
theorem bo.str(hE:bo P E)(h:ag E.ty T=some (.str,b,e)):P.underlying T=some .string:=by
 have:=hE.ty _ _ _ _ h;unfold nC at this;simp only[Bool.and_eq_true] at this;have h2:=this.2;split at h2
 .assumption
 .cases h2
theorem bo.slice(hE:bo P E){t:Ty}(h:ag E.ty T=some (.slice t,b,e)) :
  P.underlying T=some (.slice e)/\(∃ b' e',ag E.ty e=some (t,b',e'))/\(∃ i z,P.info? e=some i/\i.size=t.size/\i.bytes=b/\i.zero=some z/\vJ t z=true):=by
 have:=hE.ty _ _ _ _ h;unfold nC at this;simp only[Bool.and_eq_true] at this;have h2:=this.2;split at h2
 .rename_i e' xf;simp only[a7H] at h2;obtain⟨⟨⟨h3,h4⟩,h5⟩,h6⟩:=h2;have h3:=a7w h3;subst h3;split at h4
  .rename_i aT r hl;have h4:=a7Z h4;subst h4;obtain⟨i,z,hi,hs,hz,hzo⟩:=(SG h6).ex;rw[hi] at h5;exact⟨xf,⟨_,_,hl⟩,i,z,hi,hs,a7w h5,hz,hzo⟩
  .cases h4
 .cases h2
theorem Gs{s:aJ}:∀ (n:Nat) (fs:List Field) (ts:List Ty),Ci E s n fs ts=true->fs.length=ts.length /\
  ∀ i f,fs[i]?=some f->∃ t b e,ts[i]?=some t/\ag E.ty f.type=some (t,b,e)/\f.offset=s.dB (n+i)
 | _,[],[],_=>⟨rfl,by simp⟩
 | n,f::fs,t::ts,h=>by
  simp only[Ci,a7H] at h;obtain⟨⟨h1,h2⟩,h3⟩:=h;obtain⟨h4,h5⟩:=Gs (n+1) fs ts h3;refine⟨by simp[h4],λ i g hi=>?_⟩;cases i with
  | zero =>
   simp at hi;subst hi;split at h1
   .rename_i τ r hl;have h1:=a7Z h1;subst h1;exact⟨_,_,_,rfl,hl,a7w h2⟩
   .cases h1
  | succ i =>
   obtain⟨t',b',e',k1,k2,k3⟩:=h5 i g (by simpa using hi);exact⟨t',b',e',by simpa using k1,k2,by rw[k3];congr 1;omega⟩
 | _,[],_::_,h=>by cases h
 | _,_::_,[],h=>by cases h
theorem bo.st(hE:bo P E){s:aJ}(h:ag E.ty T=some (.st s,b,e))(ha:s.arr=false) :
  ∃ fs,P.underlying T=some (.struct fs)/\fs.size=s.dr.length/\∀ i f,fs[i]?=some f->∃ t b e,s.dr[i]?=some t/\ag E.ty f.type=some (t,b,e)/\f.offset=s.dB i:=by
 have:=hE.ty _ _ _ _ h;unfold nC at this;simp only[Bool.and_eq_true,ha] at this;have h2:=this.2;split at h2
 .rename_i fs hfs;obtain⟨h3,h4⟩:=Gs 0 _ _ h2;refine⟨fs,hfs,by simpa using h3,λ i f hi=>?_⟩;obtain⟨t,b',e',k1,k2,k3⟩:=h4 i f (by simpa using hi);exact⟨t,b',e',k1,k2,by simpa using k3⟩
 .cases h2
theorem bo.arr(hE:bo P E){s:aJ}(h:ag E.ty T=some (.st s,b,e))(ha:s.arr=true) :
  ∃ e',P.underlying T=some (.array s.dr.length e')/\∀ t∈s.dr,∃ b e,ag E.ty e'=some (t,b,e):=by
 have:=hE.ty _ _ _ _ h;unfold nC at this;simp only[Bool.and_eq_true,ha] at this;have h2:=this.2;split at h2
 .rename_i n e' hu;simp only[a7H,a8g] at h2;refine⟨e',by rw[hu,a7w h2.1],λ t ht=>?_⟩;have h3:=h2.2 t ht;split at h3
  .rename_i aT r hl;have h3:=a7Z h3;subst h3;exact⟨_,_,hl⟩
  .cases h3
 .cases h2
theorem a1D(k n:Nat):(List.replicate k n).sum=k * n:=by
 induction k with
 | zero=>simp
 | succ k ih=>rw[b0h,b1C,Nat.succ_mul,Nat.add_comm,ih]
theorem bo.Qj(hE:bo P E){n:aJ}(h:ag E.ty T=some (.st n,b,e))(ha:n.arr=true){i:Nat}{t:Ty}(hi:n.dr[i]?=some t) :
  ∃ e',P.underlying T=some (.array n.dr.length e')/\(∃ b' e2,ag E.ty e'=some (t,b',e2))/\n.dB i=i * t.size:=by
 obtain⟨e',h1,h2⟩:=hE.arr h ha;obtain⟨b',e2,h3⟩:=h2 t (a8i hi);refine⟨e',h1,⟨b',e2,h3⟩,?_⟩;have fT:∀ u∈n.dr,u=t:=λ u hu=>by
  obtain⟨b3,e3,h4⟩:=h2 u hu;rw[h3] at h4;cases h4;rfl
 have hlen:=(List.getElem?_eq_some_iff.1 hi).1;unfold aJ.dB;rw[show n.dr=List.replicate n.dr.length t from List.eq_replicate_iff.2 ⟨rfl,fT⟩];simp only[List.take_replicate,List.map_replicate,List.length_replicate,Nat.min_eq_left (Nat.le_of_lt hlen)];exact a1D i t.size
theorem bo.ZN(hE:bo P E){t:Ty}(h:ag E.ty T=some (.mv t,b,e)):False:=by
 have:=hE.ty _ _ _ _ h;unfold nC at this;simp at this
theorem bo.ptr(hE:bo P E)(h:ag E.ty T=some (.ptr,b,e)):∃ t,P.underlying T=some (.pointer t):=by
 have:=hE.ty _ _ _ _ h;unfold nC at this;simp only[Bool.and_eq_true] at this;have h2:=this.2;split at h2
 .rename_i t ht;exact⟨t,ht⟩
 .cases h2
theorem bo.isAgg(hE:bo P E)(h:ag E.ty T=some (τ,b,e))(w:World):(isAgg T).run P w = .ok τ.agg w:=by
 cases τ with
 | int k=>simp[Go.isAgg,a8k (hE.int h)];rfl
 | bool=>simp[Go.isAgg,a8k (hE.bool h)];rfl
 | str=>simp[Go.isAgg,a8k (hE.str h)];rfl
 | slice t=>simp[Go.isAgg,a8k (hE.slice h).1];rfl
 | st s =>
  cases ha:s.arr with
  | false=>obtain⟨fs,h1,_⟩:=hE.st h ha;simp[Go.isAgg,a8k h1];rfl
  | true=>obtain⟨e',h1,_⟩:=hE.arr h ha;simp[Go.isAgg,a8k h1];rfl
 | mv t=>exact (hE.ZN h).elim
 | ptr=>obtain⟨t,ht⟩:=hE.ptr h;simp[Go.isAgg,a8k ht];rfl
theorem bo.sizeOf(hE:bo P E)(h:ag E.ty T=some (τ,b,e))(w:World):(sizeOf T).run P w = .ok τ.size w:=by
 obtain⟨i,z,h1,h2,_⟩:=(hE.info h).ex;simp[Go.sizeOf,typeInfo,h1,h2]
theorem Ty.eK{τ:Ty}(h:τ.agg=false):τ.size=1:=by cases τ<;>first|rfl|cases h
theorem aJ.size_pos(s:aJ):0<s.size:=by cases s<;>decide
theorem Ty.size_pos(τ:Ty):0<τ.size:=by cases τ<;>first|exact Nat.one_pos|exact aJ.size_pos _
def xy(τ:Ty)(cs:List Value):Value :=
 match τ with
 | .st _ => .agg cs.toArray
 | _=>cs.getD 0 undef
theorem gD(hE:bo P E)(h:ag E.ty T=some (τ,b,e)){w:World}{bk o:Nat}{cs:List Value}(hc:bn w bk o cs)(hl:cs.length=τ.size) :
  (Instr.loadAt T (.pointer (some ⟨bk,o,none⟩))).run P w = .ok (xy τ cs) w:=by
 have IE:∀ j v,cs[j]?=some v->w.cell? ((⟨bk,o,none⟩:Addr).add j)=some v:=λ j v hj=>by rw[a9L];exact hc j v hj
 simp only[Instr.loadAt,Instr.sureAddr,loadVar,a7U,a7S,a7N,hE.isAgg h];cases ei:τ.agg with
 | true =>
  simp only[a9o,a7U,hE.sizeOf h,a7N];rw[<-hl,run_loadCells_list w _ cs IE];cases τ<;>first|rfl|cases ei
 | false =>
  have h1:cs.length=1:=hl.trans (Ty.eK ei);match cs,h1 with
  | [v],_ =>
   have:=hc 0 v rfl;simp only[a9u] at this;simp[run_load,this];cases τ<;>first|rfl|cases ei
end
section
variable {c:Ctx} {G:Gh} {lk:Nat->Option aw} {w:World}
theorem C1.eQ{v:AV}{x:Value}(h:C1 c G lk w v x):VR c G lk w v x:=by
 cases v with
 | aQ v =>
  obtain⟨τ,y⟩:=v;cases τ with
  | st s=>cases h.1
  | _=>exact h.2
 | agg cs=>exact h.elim
 | fZ vs=>exact h.elim
 | cK f cs=>exact h.elim
 | _=>exact h
theorem VR.P7{v:AV}{x:Value}(h:VR c G lk w v x)(hc:v.cell=true):C1 c G lk w v x:=by
 cases v with
 | aQ v =>
  obtain⟨τ,y⟩:=v;cases τ with
  | st s=>cases hc
  | _=>exact⟨rfl,h⟩
 | agg cs=>cases hc
 | fZ vs=>cases hc
 | cK f cs=>cases hc
 | any=>cases hc
 | _=>exact h
theorem ia{v:TV}(h:v.τ.agg=false):v.aI.leaf=true:=by
 obtain⟨τ,y⟩:=v;cases τ<;>first|rfl|exact I9 _ _ _|cases h
theorem C1.leaf{v:AV}{x:Value}(h:C1 c G lk w v x)(hc:v.cell=true):x.oneCell'=true/\x.cells = #[x]:=by
 cases v with
 | any=>cases hc
 | dN=>cases hc
 | agg cs=>cases hc
 | fZ cs=>cases hc
 | cK f cs=>cases hc
 | gp v=>cases hc
 | aQ v =>
  obtain⟨y,h1,h2⟩:=Rd.qu (ia h.1) h.2;simp only[a7A,a7W] at h1;subst h1;exact⟨vw h2,Hg h2⟩
 | nil=>rw[show x=_ from h];exact⟨rfl,rfl⟩
 | cP v=>obtain⟨b,o,cs,rfl,_⟩:=h;exact⟨rfl,rfl⟩
 | ptr i o=>obtain⟨b,_,rfl,_⟩:=h;exact⟨rfl,rfl⟩
 | row i=>obtain⟨_,_,a,n,m,rfl⟩:=h;exact⟨rfl,rfl⟩
 | aC i=>obtain⟨_,_,_,a,n,m,rfl⟩:=h;exact⟨rfl,rfl⟩
 | sub i k o z=>obtain⟨_,_,_,_,_,_,_,_,a,n,m,rfl⟩:=h;exact⟨rfl,rfl⟩
 | ed i k o z=>cases hc
 | dS i k o=>obtain⟨b,n,cap,e,τ,xs,_,_,_,rfl⟩:=h;exact⟨rfl,rfl⟩
 | fn f=>rw[show x=_ from h];exact⟨rfl,rfl⟩
 | mp i=>obtain⟨_,_,b,rfl⟩:=h;exact⟨rfl,rfl⟩
theorem du.cells{S:Nat->Prop}{v:TV}{x:Value}(h:du w S v x):Rd w S v.aI x.cells.toList:=by
 obtain⟨τ,y⟩:=v;cases τ with
 | st s =>
  obtain⟨cs,rfl,h⟩:=h;show Rd w S (s.aI y) _;simpa [Value.cells] using h
 | _ =>
  obtain⟨z,h1,h2⟩:=Rd.qu (ia rfl) h;simp only[a7A,a7W] at h1;subst h1;rw[Hg h2];exact h
theorem xT.of{τ:Ty}(ei:τ.DG=true){x:τ.den}{v:Value}{S:Nat->Prop}(h:du w S ⟨τ,x⟩ v):xT τ x v:=by
 cases τ with
 | st s =>
  obtain⟨cs,rfl,h2⟩:=h;simp only[Ty.DG,a7H,a7D] at ei;have ht:=aJ.iD s x;rw[ei.2.1] at ht;rw[aJ.bR] at h2;match hc:s.cells x,ht,h2 with
  | [⟨Lp,a⟩,⟨iP,b⟩],ht,h2 =>
   simp only[hc,a8d,a9h,a7A,a7W] at ht;obtain⟨rfl,rfl⟩:=ht;simp only[hc,a8d,a9h,TV.aI,Ty.aI,Rd,cJ] at h2;obtain⟨v1,r1,rfl,⟨e1,q1⟩,v2,r2,rfl,⟨e2,q2⟩,rfl⟩:=h2;simp only[a7A,a7W] at e1 e2;subst e1 e2;exact⟨a,b,hc,rfl,q1,q2⟩
 | int q=>exact mH.of (τ := .int q) (w:=w) (S:=S) rfl h
 | bool=>exact mH.of (τ := .bool) (w:=w) (S:=S) rfl h
 | str=>exact mH.of (τ := .str) (w:=w) (S:=S) rfl h
 | _=>cases ei
theorem du.mk_{S:Nat->Prop}{v:TV}{cs:List Value}(h:Rd w S v.aI cs):du w S v (xy v.τ cs):=by
 obtain⟨τ,y⟩:=v;cases τ with
 | st s=>exact⟨cs,rfl,h⟩
 | _ =>
  obtain⟨z,rfl,h2⟩:=Rd.qu (ia rfl) h;exact h
def SX(G:Gh)(lk:Nat->Option aw)(b:Nat):Prop:=G.S b\/(∃ id e τ xs,lk id=some (.row e τ xs)/\dx (G.η id)=some b)\/∃ id τ xs,lk id=some (.aC τ xs)/\b∈G.φ id
theorem bf.Tx{c:Ctx}{G:Gh}{sl:Nat->AV}{n:Nat}{lk:Nat->Option aw}{a:Act}{w:World}(h:bf c G sl n lk a w):iR w (SX G lk) :=
 ⟨λ b q=>by
  rcases q with hb|⟨id,e,τ,ys,aO,hb⟩|⟨id,τ,ys,aO,hb⟩
  .exact h.dy b hb
  .exact (h.place id _ b aO hb).2.2
  .exact (h.aN.pl id _ _ b aO hb).2.2.1,h.Vj.2.mono (λ _ q => .inl q) λ _ _=>rfl⟩
theorem SX.of{b:Nat}(h:G.S b):SX G lk b := .inl h
theorem Wk{id:Nat}{e:TypeId}{τ:Ty}{xs:List τ.den}(ho:OR c G lk w id (.row e τ xs))(aO:lk id=some (.row e τ xs)):Rd w (SX G lk) (Ty.aI (.slice τ) xs) [G.η id]:=by
 obtain⟨l,h1,h2,h3⟩:=ho;rcases h1.2 with ⟨hv,hn⟩|⟨g,cap,cur,hv,_,hh,OL,Uw,ij,Zl⟩
 .have hx:xs=[]:=a8G hn;subst hx;exact⟨none,0,by simp[hv],by simp,by simp[maxLen],by simp, .inl rfl⟩
 .refine⟨some ⟨g,0,none⟩,cap,by simp[hv],by simpa using OL,Uw,by simpa using h3,?_⟩;refine .inr ⟨g,0,rfl, .inr (.inl ⟨id,e,τ,xs,aO,by rw[hv];rfl⟩),?_⟩;refine cZ.row _ g 0 (h2.aK (λ _ h=>SX.of h) (λ _ _=>rfl)) λ j v hj=>?_;have:=h1.cells (g:=g) (by rw[hv];rfl) j v hj;rw[Addr.add_lit] at this;exact this
theorem gL.rd{S:Nat->Prop}{η:Value}{τ:Ty}{xs:List τ.den}{fp:List Nat}(h:gL w η τ xs fp){x:Value}{l:List Value}(hx:η = .tuple (x::l).toArray)(hS:∀ b∈fp,S b):Rd w S (Ty.aI (.slice τ) xs) [x]:=by
 obtain⟨v,l',a,cap,h1,h2,h3,h4,h5,h6⟩:=h;rw[hx] at h1;simp only[Value.tuple.injEq,List.toArray_inj,List.cons.injEq] at h1;obtain⟨rfl,rfl⟩:=h1;refine⟨a,cap,by simp[h2],by simpa using h3,h4,by simpa using h5,?_⟩;rcases h6 with ⟨rfl,_,_⟩|⟨b,f,t,rfl,rfl,k1,_,k2⟩
 .exact .inl rfl
 .exact .inr ⟨b,0,rfl,hS b (by simp),bI.rd _ (p:=[]) (by simpa using k1) k2 λ b hb=>hS b (by simp[hb])⟩
theorem a0G(nD:D3 c G lk w){id:Nat}{τ:Ty}{xs:List τ.den}{x:Value}(aO:lk id=some (.aC τ xs))(hx:C1 c G lk w (.aC id) x):Rd w (SX G lk) (Ty.aI (.slice τ) xs) [x]:=by
 obtain⟨_,l,h2,_⟩:=hx;exact (nD.tr id τ xs aO).rd h2 λ b hb => .inr (.inr ⟨id,τ,xs,aO,hb⟩)
theorem a3f(nD:D3 c G lk w)(iU:∀ id o,lk id=some o->OR c G lk w id o){lk':Nat->Option aw}(bP:∀ id o,lk' id=some o->lk id=some o){τ:Ty}{v:AV}{x:Value}{y:τ.den}(h:ik lk' τ v=some y)
  (hv:C1 c G lk w v x):Rd w (SX G lk) (τ.aI y) [x]:=by
 cases v with
 | aQ u =>
  have e:=TV.aR h;subst e;exact Rd.aK (λ _ h=>SX.of h) (λ _ _=>rfl) _ hv.2
 | nil =>
  cases τ with
  | slice t =>
   simp only[ik,a7v] at h;subst h;exact⟨none,0,by rw[show x=_ from hv];rfl,by simp,by simp[maxLen],by simp, .inl rfl⟩
  | _=>cases h
 | row id =>
  simp only[ik] at h;split at h
  .rename_i e aT xs hl;have e1:=TV.aR h;cases e1;have mg:=bP _ _ hl;rw[hv.1];exact Wk (iU _ _ mg) mg
  .cases h
 | aC id =>
  simp only[ik] at h;split at h
  .rename_i aT xs hl;have e1:=TV.aR h;cases e1;exact a0G nD (bP _ _ hl) hv
  .cases h
 | _=>cases h
theorem a0O{lk':Nat->Option aw}(gZ:∀ id e τ xs,lk' id≠some (.row e τ xs))(IG:∀ id τ xs,lk' id≠some (.aC τ xs)){τ:Ty}{v:AV}{x:Value}{y:τ.den}(h:ik lk' τ v=some y)(hv:C1 c G lk w v x):Rd w G.S (τ.aI y) [x]:=by
 cases v with
 | aQ u =>
  have e:=TV.aR h;subst e;exact hv.2
 | nil =>
  cases τ with
  | slice t =>
   simp only[ik,a7v] at h;subst h;exact⟨none,0,by rw[show x=_ from hv];rfl,by simp,by simp[maxLen],by simp, .inl rfl⟩
  | _=>cases h
 | row id =>
  simp only[ik] at h;split at h
  .rename_i hl;exact absurd hl (gZ _ _ _ _)
  .cases h
 | aC id =>
  simp only[ik] at h;split at h
  .rename_i hl;exact absurd hl (IG _ _ _)
  .cases h
 | _=>cases h
theorem Ls{τ:Ty}{v:AV}{x:Value}{y:τ.den}(h:ik (λ _=>none) τ v=some y)(hv:C1 c G lk w v x):Rd w G.S (τ.aI y) [x]:=by
 cases v with
 | aQ u =>
  have e:=TV.aR h;subst e;exact hv.2
 | nil =>
  cases τ with
  | slice t =>
   simp only[ik,a7v] at h;subst h;exact⟨none,0,by rw[show x=_ from hv];rfl,by simp,by simp[maxLen],by simp, .inl rfl⟩
  | _=>cases h
 | _=>cases h
theorem JI{lk':Nat->Option aw}{R:TV->Value->Prop}{Q:AV->Value->Prop}(hR:∀ t v x y,ik lk' t v=some y->Q v x->R ⟨t,y⟩ x):∀ {cs:List AV} {ts:List Ty} {l:List TV} {vs:List Value},L6 lk' cs ts=some l->aM Q cs vs->aM R l vs
 | [],[],l,vs,h,k=>by
  simp only[L6,a7v] at h;subst h;match vs,k with
  | [],_=>trivial
 | v::cs,t::ts,l,vs,h,k=>by
  simp only[L6] at h;split at h
  .rename_i x hx;split at h
   .rename_i r hr;simp only[a7v] at h;subst h;match vs,k with
    | u::us,k=>exact⟨hR _ _ _ _ hx k.1,JI hR hr k.2⟩
   .cases h
  .cases h
 | [],_::_,_,_,h,_=>by cases h
 | _::_,[],_,_,h,_=>by cases h
theorem D4{S:Nat->Prop}{lk':Nat->Option aw}(h1:∀ τ v x (y:τ.den),ik lk' τ v=some y->C1 c G lk w v x->Rd w S (τ.aI y) [x])(hS:∀ b,G.S b->S b)
  {τ:Ty} {v:AV} {x:Value} {y:τ.den} (h:ri lk' τ v=some y) (hv:VR c G lk w v x):du w S ⟨τ,y⟩ x:=by
 have lf:∀ (y9:∀ cs,v ≠ .agg cs),ik lk' τ v=some y->du w S ⟨τ,y⟩ x:=by
  intro y9 ha;cases v with
  | aQ u =>
   have e:=TV.aR ha;subst e;exact du.mono (G:=G) (G':=⟨S,G.η,G.φ⟩) hv hS (λ _ _=>rfl)
  | nil =>
   have:=h1 τ .nil x y ha hv;cases τ with
   | st s=>cases ha
   | _=>exact this
  | row i =>
   have:=h1 τ (.row i) x y ha hv;cases τ with
   | st s =>
    simp only[ik] at ha;split at ha
    .have e:=TV.aR ha;cases e
    .cases ha
   | _=>exact this
  | aC i =>
   have:=h1 τ (.aC i) x y ha hv;cases τ with
   | st s =>
    simp only[ik] at ha;split at ha
    .have e:=TV.aR ha;cases e
    .cases ha
   | _=>exact this
  | agg cs=>exact absurd rfl (y9 cs)
  | _=>cases ha
 cases v with
 | agg cs =>
  cases τ with
  | st s =>
   simp only[ri] at h;split at h
   .rename_i l hl;obtain⟨vs,rfl,Bj⟩:=hv;refine⟨vs,rfl,?_⟩;rw[aJ.bR,aJ.ly h];exact cJ.rU.2 (JI (λ t u z k hk hz=>h1 t u z k hk hz) hl Bj)
   .cases h
  | _=>cases h
 | _=>exact lf (by intro cs;simp) h
theorem uq(nD:D3 c G lk w)(iU:∀ id o,lk id=some o->OR c G lk w id o){lk':Nat->Option aw}(bP:∀ id o,lk' id=some o->lk id=some o){τ:Ty}{v:AV}{x:Value}{y:τ.den}(h:ri lk' τ v=some y)
  (hv:VR c G lk w v x):du w (SX G lk) ⟨τ,y⟩ x :=
 D4 (λ τ v x y h hv=>a3f nD iU bP h hv) (λ _ h=>SX.of h) h hv
theorem wC{lk':Nat->Option aw}(gZ:∀ id e τ xs,lk' id≠some (.row e τ xs))(IG:∀ id τ xs,lk' id≠some (.aC τ xs)){τ:Ty}{v:AV}{x:Value}{y:τ.den}(h:ri lk' τ v=some y)(hv:VR c G lk w v x):du w G.S ⟨τ,y⟩ x :=
 D4 (λ τ v x y h hv=>a0O gZ IG h hv) (λ _ h=>h) h hv
theorem wB{τ:Ty}{v:AV}{x:Value}{y:τ.den}(h:ri (λ _=>none) τ v=some y)(hv:VR c G lk w v x):du w G.S ⟨τ,y⟩ x :=
 D4 (λ τ v x y h hv=>Ls h hv) (λ _ h=>h) h hv
theorem vN{τ:Ty}{v:AV}{x:Value}{new:List AV}(h:cellsOf τ v=some new)(hv:VR c G lk w v x) :
  aM (C1 c G lk w) new x.cells.toList/\(∀ u∈x.cells.toList,u.oneCell'=true)/\new.length=τ.size:=by
 have one:v.cell=true->new=[v]->τ.size=1->aM (C1 c G lk w) new x.cells.toList/\(∀ u∈x.cells.toList,u.oneCell'=true)/\new.length=τ.size:=by
  intro hc hn hs;subst hn;have h1:=hv.P7 hc;obtain⟨h2,h3⟩:=h1.leaf hc;rw[h3];exact⟨⟨h1,af⟩,by simpa using h2,by simp[hs]⟩
 cases τ with
 | st s =>
  simp only[cellsOf] at h;split at h
  .rename_i u;split at h
   .rename_i y hy;simp only[a7v] at h;subst h;have e:=TV.aR hy;subst e;obtain⟨cs,rfl,hr⟩:=hv;rw[aJ.bR] at hr;have ha:=cJ.rU.1 hr;refine⟨?_,?_,by simp[Ty.size,aJ.fv]⟩
    .simp only[Value.cells];refine aM.dF _ (ha.imp λ u z hu hz=>⟨?_,hz⟩);have:=aJ.mC s y u hu;obtain⟨aT,z'⟩:=u;cases aT with
     | st s'=>simp[TV.aI,Ty.aI,aJ.bR,D.leaf] at this
     | _=>rfl
    .simp only[Value.cells];intro u hu;obtain⟨i,hi,Y1⟩:=a9O hu;have hlen:=ha.length;obtain⟨b,hb,Zf⟩:=ha.at_ i (s.cells y)[i] (a7L (by omega));have cv:b=u:=by
      have:cs[i]?=some u:=by rw[a7L hi,Y1]
      rw[this] at hb;exact (a8I hb).symm
     subst cv;obtain⟨z,h1,h2⟩:=Rd.qu (aJ.mC s y _ (a9l _)) Zf;simp only[a7A,a7W] at h1;subst h1;exact vw h2
   .cases h
  .rename_i cs;split at h
   .rename_i hb;simp only[Option.some.injEq] at h;subst h;simp only[Bool.and_eq_true] at hb;obtain⟨l,rfl,hl⟩:=hv;refine⟨by simpa [Value.cells] using hl,?_,by simpa [Ty.size] using Nat.eq_of_beq_eq_true hb.1⟩;simp only[Value.cells];intro u hu;obtain⟨i,hi,Y1⟩:=List.getElem_of_mem hu;have hlen:=hl.length;obtain⟨b,cv,Zf⟩:=hl.at_ i cs[i] (List.getElem?_eq_getElem (by omega));have hbu:b=u:=by
     have:l[i]?=some u:=by rw[a7L hi,Y1]
     rw[this] at cv;exact (a8I cv).symm
    subst hbu;exact (Zf.leaf (a8g.1 hb.2 _ (a9l _))).1
   .cases h
  .cases h
 | int k =>
  simp only[cellsOf] at h;split at h
  .rename_i hc;simp only[a7v] at h;exact one hc h.symm rfl
  .cases h
 | bool =>
  simp only[cellsOf] at h;split at h
  .rename_i hc;simp only[a7v] at h;exact one hc h.symm rfl
  .cases h
 | str =>
  simp only[cellsOf] at h;split at h
  .rename_i hc;simp only[a7v] at h;exact one hc h.symm rfl
  .cases h
 | ptr =>
  simp only[cellsOf] at h;split at h
  .rename_i hc;simp only[a7v] at h;exact one hc h.symm rfl
  .cases h
 | mv t =>
  simp only[cellsOf] at h;split at h
  .rename_i hc;simp only[a7v] at h;exact one hc h.symm rfl
  .cases h
 | slice t =>
  simp only[cellsOf] at h;split at h
  .rename_i hc;simp only[a7v] at h;exact one hc h.symm rfl
  .cases h
theorem A5{cs:List AV}{l:List Value}(hl:aM (C1 c G lk w) cs l){off:Nat}{τ:Ty}{u:AV}(h:Cj cs off τ=some u) :
  VR c G lk w u (xy τ ((l.drop off).take τ.size))/\((l.drop off).take τ.size).length=τ.size/\off+τ.size<=l.length:=by
 have hlen:=hl.length;have one:τ.size=1->(∀ s,τ ≠ .st s)->cs[off]?=some u->VR c G lk w u (xy τ ((l.drop off).take τ.size))/\((l.drop off).take τ.size).length=τ.size/\off+τ.size<=l.length:=by
  intro hs bU hu;obtain⟨x,hx,hr⟩:=hl.at_ off u hu;have bp:off<l.length:=(a7R.1 hx).1;have he:(l.drop off).take 1=[x]:=by
   rw[a9I bp];have:=(a7R.1 hx).2;simp[this]
  rw[hs,he];refine⟨?_,rfl,by omega⟩;have:xy τ [x]=x:=by cases τ<;>first|rfl|exact absurd rfl (bU _)
  rw[this];exact hr.eQ
 cases τ with
 | st s =>
  simp only[Cj] at h;split at h
  .rename_i hb;simp only[a7v] at h;subst h;have hle:=a8w hb;refine⟨⟨_,rfl,(hl.drop off).take s.size⟩,?_,?_⟩
   .simp only[Ty.size,a8D,a8J];omega
   .simp only[Ty.size];omega
  .cases h
 | int k=>exact one rfl (by intro s;simp) h
 | bool=>exact one rfl (by intro s;simp) h
 | str=>exact one rfl (by intro s;simp) h
 | slice t=>exact one rfl (by intro s;simp) h
 | mv t=>exact one rfl (by intro s;simp) h
 | ptr=>exact one rfl (by intro s;simp) h
theorem bn.part{bk o:Nat}{l:List Value}(h:bn w bk o l)(off n:Nat):bn w bk (o+off) ((l.drop off).take n):=λ j v hj=>by
 rw[a8O] at hj;split at hj
 .rw[a9C] at hj;have:=h (off+j) v hj;rwa [<-b0f] at this
 .cases hj
theorem bn.of_heap{bk:Nat}{l:List Value}{t:TypeId}{fr:Nat×Nat}(h:w.heap[bk]?=some (.cells l.toArray t fr)):bn w bk 0 l:=λ j v hj=>by
 simp only[World.cell?,h,Nat.zero_add,Option.isSome_none];simpa using hj
theorem U6{S:Nat->Prop}{v u:TV}{off:Nat}{τ:Ty}(h:v.part off τ=some u){l:List Value}(hl:Rd w S v.aI l) :
  u.τ=τ/\((l.drop off).take τ.size).length=τ.size/\Rd w S u.aI ((l.drop off).take τ.size):=by
 have hlen:=Rd.length _ hl;rw[show v.aI=v.τ.aI v.x from rfl,Ty.cm] at hlen;unfold TV.part at h;split at h
 .rename_i hb;simp only[a7H] at hb;simp only[a7v] at h;subst h;have h0:=a7w hb.1;have h1:=a7Z hb.2;subst h0;subst h1;rw[b0G,a8o (by omega)];exact⟨rfl,hlen,hl⟩
 .split at h
  .rename_i z hz;split at h
   .rename_i hb;simp only[a7v] at h;subst h;have h1:=a7Z hb;subst h1;obtain⟨aT,y⟩:=v;have key:∀ (x:Value),l[off]?=some x->z.τ.agg=false->Rd w S z.aI [x]->z.τ=z.τ/\((l.drop off).take z.τ.size).length=z.τ.size/\Rd w S z.aI ((l.drop off).take z.τ.size):=by
     intro x hx ha hr;have bp:off<l.length:=(a7R.1 hx).1;have he:(l.drop off).take 1=[x]:=by
      rw[a9I bp];have:=(a7R.1 hx).2;simp[this]
     rw[Ty.eK ha,he];exact⟨rfl,rfl,hr⟩
    cases aT with
    | st s =>
     simp only[TV.cells] at hz;rw[show TV.aI ⟨.st s,y⟩=s.aI y from rfl,aJ.bR] at hl;obtain⟨x,hx,hr⟩:=(cJ.rU.1 hl).at_ off z hz;refine key x hx ?_ hr;have:=aJ.mC s y z (a8i hz);obtain⟨a6t,z'⟩:=z;cases a6t with
     | st s'=>simp[TV.aI,Ty.aI,aJ.bR,D.leaf] at this
     | _=>rfl
    | _ =>
     simp only[TV.cells] at hz;cases off with
     | zero =>
      simp at hz;subst hz;obtain⟨x,rfl,_⟩:=Rd.qu (ia rfl) hl;exact key x rfl rfl hl
     | succ k=>simp at hz
   .cases h
  .cases h
theorem P0{id:Nat}{e:TypeId}{τ:Ty}{xs:List τ.den}(ho:OR c G lk w id (.row e τ xs)){b n cap:Nat}(eI:G.η id = .slice (some ⟨b,0,none⟩) n cap){i:Nat}(hi:i<xs.length) :
  ∃ cs,cs.length=τ.size/\bn w b (i * τ.size) cs/\Rd w G.S (τ.aI (xs.getD i τ.zero)) cs:=by
 obtain⟨l,h1,h2,h3⟩:=ho;have bW:∀ d∈xs.map τ.aI,d.size=τ.size:=by
  intro d hd;obtain⟨y,_,rfl⟩:=a7B.1 hd;exact Ty.cm τ y
 have W1:=cZ.length _ h2 bW;have IA:=cZ.at_ _ h2 bW i (τ.aI (xs.getD i τ.zero)) (by simp[List.getD,hi]);have hlen:=Rd.length _ IA;rw[Ty.cm] at hlen;refine⟨_,hlen,?_,IA⟩;have hc:bn w b 0 l:=λ j v hj=>by
  have:=h1.cells (g:=b) (by rw[eI];rfl) j v hj;rwa [a9L] at this
 have:=hc.part (i * τ.size) τ.size;rwa [a8W] at this
theorem Ve{S:Nat->Prop}{v:TV}{l:List Value}(hl:Rd w S v.aI l):aM (λ u x=>u.τ.agg=false/\Rd w S u.aI [x]) v.cells l:=by
 obtain⟨τ,y⟩:=v;have one:τ.agg=false->TV.cells ⟨τ,y⟩=[⟨τ,y⟩]->aM (λ u x=>u.τ.agg=false/\Rd w S u.aI [x]) (TV.cells ⟨τ,y⟩) l:=λ ha h=>by
  rw[h];have hlen:=Rd.length _ hl;rw[show TV.aI ⟨τ,y⟩=τ.aI y from rfl,Ty.cm,Ty.eK ha] at hlen;match l,hlen,hl with
  | [x],_,hl=>exact⟨⟨ha,hl⟩,af⟩
 cases τ with
 | st s =>
  rw[show TV.aI ⟨.st s,y⟩=s.aI y from rfl,aJ.bR] at hl;have ha:∀ u∈s.cells y,u.τ.agg=false:=λ u hu=>by
   have h1:u.τ∈s.my:=by rw[<-aJ.iD s y];exact a7B.2 ⟨u,hu,rfl⟩
   revert h1;have:∀ t∈s.my,t.agg=false:=by cases s<;>decide
   exact this _
  have h2:=cJ.rU.1 hl;exact h2.imp λ u x hu hx=>⟨ha u hu,hx⟩
 | _=>exact one rfl rfl
theorem S7{v:TV}{u:AV}{off:Nat}{τ:Ty}(h:v.U5 off τ=some u){l:List Value}(hl:Rd w G.S v.aI l) :
  ((l.drop off).take τ.size).length=τ.size/\VR c G lk w u (xy τ ((l.drop off).take τ.size)):=by
 cases τ with
 | st s =>
  simp only[TV.U5] at h;split at h
  .rename_i hb;simp only[a7v] at h;subst h;have hb:=a8w hb;have h2:=Ve hl;have hlen:=h2.length;refine⟨by simp[Ty.size];omega,_,rfl,?_⟩;exact aM.dF AV.aQ (((h2.drop off).take s.size).imp λ u x _ hx=>hx)
  .cases h
 | _=>cases h
theorem nk(iU:∀ id o,lk id=some o->OR c G lk w id o){lk':Nat->Option aw}(bP:∀ id o,lk' id=some o->lk id=some o){τ:Ty}{v u:AV}{x:Value}(h:oN lk' τ v=some u)(hv:VR c G lk w v x) :
  ∃ b o cs,x = .pointer (some ⟨b,o,none⟩)/\bn w b o cs/\cs.length=τ.size/\VR c G lk w u (xy τ cs):=by
 cases v with
 | cP z =>
  simp only[oN] at h;split at h
  .rename_i hb;simp only[a7v] at h;subst h;have e:=a7Z hb;subst e;obtain⟨b,o,cs,h1,h2,h3,h4⟩:=hv;refine⟨b,o,cs,h1,h3,?_,du.mk_ h4⟩;rw[Rd.length _ h4];exact Ty.cm _ _
  .cases h
 | ptr id off =>
  simp only[oN] at h;split at h
  .rename_i cs hl;obtain⟨b,h1,h2,h3⟩:=hv;obtain⟨b',l,t,k1,k2,k3⟩:=iU _ _ (bP _ _ hl);rw[h1] at k1;simp only[a9P,a7v,a9n,a7W] at k1;subst k1;obtain⟨m1,m2,m3⟩:=A5 k3 h;refine⟨b,off,_,h2,?_,m2,m1⟩;have:=(bn.of_heap k2).part off τ.size;rwa [a8W] at this
  .cases h
 | dS id i off =>
  simp only[oN] at h;split at h
  .rename_i e aT xs hl;split at h
   .rename_i z hz;simp only[a7v] at h;subst h;obtain⟨b,n,cap,e1,Lp,Ov,h1,h2,h3,h4⟩:=hv;have mg:=bP _ _ hl;rw[mg] at h2;simp only[a7v,aw.row.injEq] at h2;obtain⟨rfl,rfl,h2⟩:=h2;have h2:=b0k h2;subst h2;obtain⟨cs,m1,m2,m3⟩:=P0 (iU _ _ mg) h1 h3;obtain⟨p1,p2,p3⟩:=U6 (v:=⟨aT,xs.getD i aT.zero⟩) hz m3;subst p1;exact⟨b,_,_,h4,m2.part off _,p2,du.mk_ p3⟩
   .obtain⟨b,n,cap,e1,Lp,Ov,h1,h2,h3,h4⟩:=hv;have mg:=bP _ _ hl;rw[mg] at h2;simp only[a7v,aw.row.injEq] at h2;obtain⟨rfl,rfl,h2⟩:=h2;have h2:=b0k h2;subst h2;obtain⟨cs,m1,m2,m3⟩:=P0 (iU _ _ mg) h1 h3;obtain⟨p2,p3⟩:=S7 (v:=⟨aT,xs.getD i aT.zero⟩) h m3;exact⟨b,_,_,h4,m2.part off _,p2,p3⟩
  .cases h
 | _=>cases h
end
theorem dL{k:IntKind}{n:Int}(h:cI k n):k.min<=n/\n<=k.max:=by
 cases k<;>first
  | exact h
  | (simp only[cI,au] at h;simp only[IntKind.min,IntKind.max,IntKind.signed,IntKind.bits,a9o];exact⟨by omega,by omega⟩)
theorem py{k:IntKind}{n:Int}(h:k.min<=n/\n<=k.max):k.wrap n=n:=by
 cases k<;>simp[IntKind.min,IntKind.max,IntKind.signed,IntKind.bits] at h<;>simp[IntKind.wrap,IntKind.signed,IntKind.bits]<;>(try split)<;>omega
theorem Ou(n:Int):IntKind.u64.min<=IntKind.u64.wrap n/\IntKind.u64.wrap n<=IntKind.u64.max:=by
 simp[IntKind.min,IntKind.max,IntKind.signed,IntKind.bits,IntKind.wrap];omega
theorem UW{k:IntKind}{a:Int}(h0:0<=a)(h:k.min<=a/\a<=k.max):a.toNat<2 ^ k.bits:=by
 cases k<;>simp[IntKind.min,IntKind.max,IntKind.signed,IntKind.bits] at h ⊢<;>omega
theorem WG{k:IntKind}{a b:Int}(ha0:0<=a)(IB:0<=b)(ha:k.min<=a/\a<=k.max)(hb:k.min<=b/\b<=k.max) :
  k.wrap ((BitVec.ofInt k.bits a &&& BitVec.ofInt k.bits b).toNat:Int)=((a.toNat &&& b.toNat:Nat):Int)/\k.min<=((a.toNat &&& b.toNat:Nat):Int)/\((a.toNat &&& b.toNat:Nat):Int)<=k.max:=by
 have h1:∀ x:Int,0<=x->k.min<=x/\x<=k.max->(BitVec.ofInt k.bits x).toNat=x.toNat:=λ x h0 hx=>by
  obtain⟨n,rfl⟩:=Int.eq_ofNat_of_zero_le h0;have:=UW h0 hx;simp only[a8t] at this ⊢;rw[show BitVec.ofInt k.bits (n:Int)=BitVec.ofNat k.bits n from BitVec.ofInt_natCast ..,BitVec.toNat_ofNat];exact Nat.mod_eq_of_lt this
 have hle:((a.toNat &&& b.toNat:Nat):Int)<=a:=by
  have := @Nat.and_le_left a.toNat b.toNat;omega
 have hr:k.min<=((a.toNat &&& b.toNat:Nat):Int)/\((a.toNat &&& b.toNat:Nat):Int)<=k.max:=by
  refine⟨?_,by omega⟩;have:k.min<=0:=by cases k<;>decide
  omega
 rw[BitVec.toNat_and,h1 a ha0 ha,h1 b IB hb];exact⟨py hr,hr⟩
theorem L5{op:BinOp}{k yk:IntKind}{a b r:Int}{p:Vc}(h:arith op k a b=some (p,r))(hp:p.ok)(hk:op = .shl\/op = .shr\/yk=k)(P:Program)(t:TypeId)(w:World) :
  (binOp op t (.int k a) (.int yk b)).run P w = .ok (.int k r) w/\k.min<=r/\r<=k.max:=by
 cases op<;>simp only[arith] at h<;>try cases h
 case add =>
  have hk:yk=k:=by simpa using hk
  subst hk;split at h<;>simp only[a7v,a7x] at h<;>obtain⟨rfl,rfl⟩:=h
  .exact⟨by simp[binOp_add,Op.intArith],Ou _⟩
  .have:=dL hp;exact⟨by simp[binOp_add,Op.intArith,py this],this⟩
 case sub =>
  have hk:yk=k:=by simpa using hk
  subst hk;have:=dL hp;exact⟨by simp[binOp_sub,Op.intArith,py this],this⟩
 case mul =>
  have hk:yk=k:=by simpa using hk
  subst hk;split at h<;>simp only[a7v,a7x] at h<;>obtain⟨rfl,rfl⟩:=h
  .exact⟨by simp[binOp_mul,Op.intArith],Ou _⟩
  .have:=dL hp;exact⟨by simp[binOp_mul,Op.intArith,py this],this⟩
 case quo =>
  have hk:yk=k:=by simpa using hk
  subst hk;have:=dL hp.2;exact⟨by simp[binOp_quo,Op.intDiv,hp.1,py this],this⟩
 case rem =>
  have hk:yk=k:=by simpa using hk
  subst hk;have:=dL hp.2;exact⟨by simp[binOp_rem,Op.intDiv,hp.1],this⟩
 case and =>
  have hk:yk=k:=by simpa using hk
  subst hk;obtain⟨h1,h2⟩:=WG hp.1 hp.2.1 (dL hp.2.2.1) (dL hp.2.2.2);exact⟨by simp only[binOp_and,Op.intBits,a7S,h1],h2⟩
 case shl =>
  have SA:b<(k.bits:Int):=hp.2.1;have:=dL hp.2.2;have hb:min b.toNat k.bits=b.toNat:=by omega
  exact⟨by simp[binOp_shl,Op.shift,Int.not_lt.2 hp.1,hb,py this],this⟩
 case shr =>
  have SA:b<(k.bits:Int):=hp.2.1;have:=dL hp.2.2;have hb:min b.toNat k.bits=b.toNat:=by omega
  exact⟨by simp[binOp_shr,Op.shift,Int.not_lt.2 hp.1,hb],this⟩
theorem RU(k:IntKind)(n:Int):k.min<=k.wrap n/\k.wrap n<=k.max:=by
 cases k<;>simp[IntKind.min,IntKind.max,IntKind.signed,IntKind.bits,IntKind.wrap]<;>omega
theorem R2{wr:Bool}{op:BinOp}{k yk:IntKind}{a b r:Int}{p:Vc}(h:Qi wr op k a b=some (p,r))(hp:p.ok)(hk:op = .shl\/op = .shr\/yk=k)(P:Program)(t:TypeId)(w:World) :
  (binOp op t (.int k a) (.int yk b)).run P w = .ok (.int k r) w/\k.min<=r/\r<=k.max:=by
 unfold Qi at h;split at h
 .split at h
  .have hk:yk=k:=by simpa using hk
   subst hk;simp only[a7v,a7x] at h;obtain⟨rfl,rfl⟩:=h;exact⟨by simp[binOp_add,Op.intArith],RU _ _⟩
  .have hk:yk=k:=by simpa using hk
   subst hk;simp only[a7v,a7x] at h;obtain⟨rfl,rfl⟩:=h;exact⟨by simp[binOp_sub,Op.intArith],RU _ _⟩
  .have hk:yk=k:=by simpa using hk
   subst hk;simp only[a7v,a7x] at h;obtain⟨rfl,rfl⟩:=h;exact⟨by simp[binOp_mul,Op.intArith],RU _ _⟩
  .exact L5 h hp hk P t w
 .exact L5 h hp hk P t w
theorem Ym{op:BinOp}{k:IntKind}{a b:Int}{r:Bool}(h:cmp op a b=some r)(P:Program)(t:TypeId)(w:World) :
  (binOp op t (.int k a) (.int k b)).run P w = .ok (.bool r) w:=by
 cases op<;>simp only[cmp,a7v] at h<;>try cases h
 .simp only[binOp_eql,a7S];congr 2
 .simp only[binOp_neq,a7S];congr 2
 .simp[binOp_lss]
 .simp[binOp_leq]
 .simp[binOp_gtr]
 .simp[binOp_geq]
section
variable {c:Ctx} {G:Gh} {lk:Nat->Option aw} {w:World}
theorem Pp(a b:ByteArray):(a.toList == b.toList)=decide (a.data.toList=b.data.toList):=by
 rw[b1E,b1E];rw[b1l];simp
theorem T4(hE:bo c.P c.E){op:BinOp}{T:TypeId}{u v r:AV}{x y:Value}{p:Vc}{wr:Bool}(ox oy:Operand)
  (h:T3 (match ag c.E.ty T with
   | some (.bool,_)=>true
   | _=>false) wr op u v=some (p,r)) (hp:p.ok) (hu:VR c G lk w u x) (hv:VR c G lk w v y) :
  ∃ z,(do eqGuard op T ox oy x y;binOp op T x y:Sem Value).run c.P w = .ok z w/\VR c G lk w r z:=by
 unfold T3 at h;split at h
 .rename_i k a k' b;obtain⟨h1,h2⟩:=hu;obtain⟨h3,h4⟩:=hv;simp only[a7A,a7W] at h1 h3;subst h1 h3;simp only[eqGuard_at_int,a7U,a7S,a7N];split at h
  .rename_i p' r' har;have key:(op = .shl\/op = .shr\/k'=k)->p'.ok->∃ z,(binOp op T (.int k a) (.int k' b)).run c.P w = .ok z w/\VR c G lk w (.aQ ⟨.int k,r'⟩) z:=λ hk KG=>by
    obtain⟨h5,h6⟩:=R2 har KG hk c.P T w;exact⟨_,h5,rfl,h6⟩
   split at h
   .simp only[a7v,a7x] at h;obtain⟨rfl,rfl⟩:=h;exact key (.inl rfl) hp
   .simp only[a7v,a7x] at h;obtain⟨rfl,rfl⟩:=h;exact key (.inr (.inl rfl)) hp
   .split at h
    .rename_i hk;simp only[a7v,a7x] at h;obtain⟨rfl,rfl⟩:=h;exact key (.inr (.inr (a7Z hk).symm)) hp
    .cases h
  .split at h
   .rename_i hk;have hk:=a7Z hk;subst hk;split at h
    .rename_i cc hc;simp only[a7v,a7x] at h;obtain⟨rfl,rfl⟩:=h;exact⟨_,Ym hc c.P T w,rfl⟩
    .cases h
   .cases h
 .rename_i a b;have hu:[x]=[.bool a]:=hu;have hv:[y]=[.bool b]:=hv;simp only[a7A,a7W] at hu hv;subst hu hv;split at h
  .rename_i hT;split at hT
   .rename_i r' hl;have hb:=hE.bool hl;split at h
    .simp only[a7v,a7x] at h;obtain⟨rfl,rfl⟩:=h;exact⟨.bool (a == b),by simp[binOp,run_equal_bool w T a b hb,eqGuard_at_bool],rfl⟩
    .simp only[a7v,a7x] at h;obtain⟨rfl,rfl⟩:=h;exact⟨.bool !(a == b),by simp[binOp,run_equal_bool w T a b hb,eqGuard_at_bool],rfl⟩
    .cases h
   .cases hT
  .cases h
 .rename_i a b;obtain⟨s,h1,h2,h3⟩:=hu;obtain⟨s',h4,h5,h6⟩:=hv;simp only[a7A,a7W] at h1 h4;subst h1 h4;subst h2 h5;split at h
  .simp only[a7v,a7x] at h;obtain⟨rfl,rfl⟩:=h;exact⟨.bool (s.toList == s'.toList),by simp[binOp,Op.stringOp,b0O],by rw[Pp];rfl⟩
  .simp only[a7v,a7x] at h;obtain⟨rfl,rfl⟩:=h;exact⟨.bool (!(s.toList == s'.toList)),by simp[binOp,Op.stringOp,b0O],by rw[Pp];rfl⟩
  .simp only[a7v,a7x] at h;obtain⟨rfl,rfl⟩:=h;have bW:s.size+s'.size<=140737488355328:=by
    have:=hp;simp only[a8q] at this;exact this
   have hs2:(s++s').size=s.size+s'.size:=ByteArray.size_append;refine⟨.string (s++s'),?_,s++s',rfl,by simp,by rw[hs2];exact bW⟩;have:¬ (((s.size+s'.size:Nat):Int)>IntKind.i64.max):=by rw[IntKind.max_i64];omega
   simp only[b0O,a7U,a7S,a7N,binOp,Op.stringOp,a7z this]
  .cases h
 .cases h
theorem yK(hE:bo c.P c.E){T:TypeId}{n:aJ}{b e:Nat}(h:ag c.E.ty T=some (.st n,b,e))(ha:n.arr=false){bk o:Nat}{i:Nat}(hi:i<n.dr.length)(w:World) :
  (Instr.fieldAt T (.pointer (some ⟨bk,o,none⟩)) i).run c.P w = .ok (.pointer (some ⟨bk,o+n.dB i,none⟩)) w:=by
 obtain⟨fs,h1,h2,h3⟩:=hE.st h ha;have hf:fs[i]?=some fs[i]:=a8u (by omega);obtain⟨t,b',e',h4,h5,h6⟩:=h3 i _ hf;have bW:=hE.sizeOf h5 w;have h0:t.size≠0:=Nat.pos_iff_ne_zero.1 t.size_pos;simp[Instr.fieldAt,a8k h1,hf,Instr.sureAddr,fieldPlace,bW,h0,a9L,h6]
theorem Vi(hE:bo c.P c.E){T:TypeId}{n:aJ}{b e:Nat}(h:ag c.E.ty T=some (.st n,b,e))(ha:n.arr=false){l:List Value}{i:Nat}{t:Ty}(hi:n.dr[i]?=some t)
  (hl:n.dB i+t.size<=l.length) (w:World) :
  (Instr.field T (.agg l.toArray) i).run c.P w = .ok (xy t ((l.drop (n.dB i)).take t.size)) w:=by
 obtain⟨fs,h1,h2,h3⟩:=hE.st h ha;have bp:i<fs.size:=by have:=(a7R.1 hi).1;omega
 have hf:fs[i]?=some fs[i]:=a8u bp;obtain⟨t',b',e',h4,h5,h6⟩:=h3 i _ hf;rw[hi] at h4;simp only[a7v] at h4;subst h4;have bW:=hE.sizeOf h5 w;have hag:=hE.isAgg h5 w;simp only[Instr.field,a7U,a8k h1,a7N,hf,asAgg,part,hag,a7S];cases ei:t.agg with
 | true =>
  simp only[a9o,a7U,bW,a7N,a7S,h6];cases t<;>first|(cases ei;done)|skip
  simp only[xy,b1m,b1k,a7W];apply b0S;simp[List.take_drop]
 | false =>
  have h1:=Ty.eK ei;simp only[a8j,b0l,h6];have hx:l.toArray[n.dB i]?=some (l[n.dB i]'(by omega)):=by rw[b1r];exact a7L (by omega)
  rw[hx];simp only[a7S,h1];have he:(l.drop (n.dB i)).take 1=[l[n.dB i]'(by omega)]:=by
   rw[a9I (by omega),b0D,a9z]
  rw[he];cases t<;>first|rfl|cases ei
theorem N0(hE:bo c.P c.E){T:TypeId}{n:aJ}{b e:Nat}(h:ag c.E.ty T=some (.st n,b,e))(ha:n.arr=true){bk o:Nat}{k:IntKind}{i:Nat}(hi:i<n.dr.length)(w:World) :
  (Instr.indexAt T (.pointer (some ⟨bk,o,none⟩)) (.int k (Int.ofNat i))).run c.P w = .ok (.pointer (some ⟨bk,o+n.dB i,none⟩)) w:=by
 obtain⟨e',h1,⟨b',e2,h2⟩,h3⟩:=hE.Qj h ha (a7L hi);simp[Instr.indexAt,a8k h1,asIntOf,Instr.sureAddr,hi,hE.sizeOf h2 w,a9L,h3]
theorem a0b(hE:bo c.P c.E){T:TypeId}{n:aJ}{b e:Nat}(h:ag c.E.ty T=some (.st n,b,e))(ha:n.arr=true){l:List Value}{k:IntKind}{i:Nat}{t:Ty}(hi:n.dr[i]?=some t)
  (hl:n.dB i+t.size<=l.length) (w:World) :
  (Instr.index T (.agg l.toArray) (.int k (Int.ofNat i))).run c.P w = .ok (xy t ((l.drop (n.dB i)).take t.size)) w:=by
 obtain⟨e',h1,⟨b',e2,h2⟩,h3⟩:=hE.Qj h ha hi;have bp:=(a7R.1 hi).1;have bW:=hE.sizeOf h2 w;have hag:=hE.isAgg h2 w;have ff:(0:Int)<=Int.ofNat i/\Int.ofNat i<((n.dr.length:Nat):Int):=⟨b1K i,Int.ofNat_lt.2 bp⟩;simp only[Instr.index,a7U,asIntOf,a7S,a7N,a8k h1,a7E ff,bW,part,hag,show (Int.ofNat i).toNat=i from rfl,<-h3];cases ei:t.agg with
 | true =>
  simp only[a9o,a7U,bW,a7N,a7S];cases t<;>first|(cases ei;done)|skip
  simp only[xy,b1m,b1k,a7W];apply b0S;simp[List.take_drop]
 | false =>
  have h1:=Ty.eK ei;simp only[a8j,b0l];have hx:l.toArray[n.dB i]?=some (l[n.dB i]'(by omega)):=by rw[b1r];exact a7L (by omega)
  rw[hx];simp only[a7S,h1];have he:(l.drop (n.dB i)).take 1=[l[n.dB i]'(by omega)]:=by
   rw[a9I (by omega),b0D,a9z]
  rw[he];cases t<;>first|rfl|cases ei
end
section
variable {c:Ctx} {G:Gh} {lk:Nat->Option aw} {w:World}
theorem Vu(k:IntKind):k.min<=0/\0<=k.max:=by cases k<;>decide
theorem Cb{τ:Ty}{v:Value}(h:tS τ v=true):C1 c G lk w (zeroCell τ) v:=by
 unfold tS at h;split at h
 .simp only[a7H] at h;have h1:=a7Z h.1;have h2:=a7Z h.2;subst h1 h2;exact⟨rfl,rfl,Vu _⟩
 .rename_i b;cases b
  .exact⟨rfl,rfl⟩
  .cases h
 .rename_i s;exact⟨rfl,s,rfl,List.isEmpty_iff.1 h,by simp[List.isEmpty_iff] at h;simp[ByteArray.size,h]⟩
 .rfl
 .exact⟨rfl,_,rfl⟩
 .cases h
theorem gd{τ:Ty}{z:Value}(h:vJ τ z=true):aM (C1 c G lk w) (zeroCells τ) z.cells.toList:=by
 have key:∀ (ts:List Ty) (vs:List Value),HY ts vs=true->aM (C1 c G lk w) (ts.map zeroCell) vs:=by
  intro ts;induction ts with
  | nil=>intro vs h;cases vs<;>first|trivial|cases h
  | cons t ts ih =>
   intro vs h;cases vs with
   | nil=>cases h
   | cons v vs =>
    simp only[HY,a7H] at h;exact⟨Cb h.1,ih vs h.2⟩
 have one:∀ v,tS τ v=true->v.cells = #[v]:=by
  intro v hv;unfold tS at hv;split at hv<;>first|rfl|cases hv
 unfold vJ at h;split at h
 .rename_i s cs;exact key _ _ h
 .cases h
 .rename_i aT v h1 h2;rw[one _ h];have:zeroCells τ=[zeroCell τ]:=by
   cases τ<;>first|rfl|(rename_i s;cases v<;>first|exact absurd rfl (h2 s rfl)|cases h)
  rw[this];exact⟨Cb h,af⟩
theorem HZ{S:Nat->Prop}{τ:Ty}{z:Value}(h:vJ τ z=true):Rd w S (τ.aI τ.zero) z.cells.toList:=by
 have h1:=gd (c:=⟨{ funcs := #[],goVersion := "",platform := "",initOrder := "",godebug := "",types := #[],rt:=default,cutTypes := #[],globals := #[],inits := #[],main:=0 },{ ty:=[],Rv:=[],Io:=λ _ _=>none },w,λ _=>True,S,λ _=>none,λ _=>False,λ _=>none⟩) (G:=⟨S,λ _=>undef,λ _=>[]⟩) (lk:=λ _=>none) (w:=w) h;have cell:∀ t x,C1 ⟨{ funcs := #[],goVersion := "",platform := "",initOrder := "",godebug := "",types := #[],rt:=default,cutTypes := #[],globals := #[],inits := #[],main:=0 },{ ty:=[],Rv:=[],Io:=λ _ _=>none },w,λ _=>True,S,λ _=>none,λ _=>False,λ _=>none⟩ ⟨S,λ _=>undef,λ _=>[]⟩ (λ _=>none) w (zeroCell t) x->Rd w S (t.aI t.zero) [x]:=by
  intro t x hx;cases t with
  | slice t'=>exact Ls (τ := .slice t') (v := .nil) rfl hx
  | _=>exact hx.2
 cases τ with
 | st s =>
  simp only[zeroCells] at h1;show Rd w S (s.aI s.zero) _;rw[aJ.bR];have hz:(s.cells s.zero).map TV.aI=s.my.map λ t=>t.aI t.zero:=by cases s<;>rfl
  rw[hz];have h2:=aM.of_map _ h1;have:∀ (ts:List Ty) (vs:List Value),aM (λ t x=>Rd w S (t.aI t.zero) [x]) ts vs->cJ w S (ts.map λ t=>t.aI t.zero) vs:=by
   intro ts;induction ts with
   | nil=>intro vs h;cases vs<;>first|rfl|cases h
   | cons t ts ih =>
    intro vs h;cases vs with
    | nil=>cases h
    | cons v vs=>exact⟨v,vs,rfl,h.1,ih vs h.2⟩
  exact this _ _ (h2.imp λ t x _ hx=>cell t x hx)
 | _ =>
  simp only[zeroCells] at h1;match hc:z.cells.toList,h1 with
  | [x],h1=>exact cell _ _ h1.1
theorem MG(off:Nat):∀ (xs:List Value) (k:Nat) (l:List Value),off+k+xs.length<=l.length ->
  (xs.zipIdx k).foldl (λ cs p=>cs.setIfInBounds (off+p.2) p.1) l.toArray=(l.take (off+k)++xs++l.drop (off+k+xs.length)).toArray
 | [],k,l,_=>by simp
 | x::xs,k,l,h=>by
  simp only[List.length_cons] at h;simp only[List.zipIdx_cons,List.foldl_cons];have:=MG off xs (k+1) (l.set (off+k) x) (by simp;omega);rw[List.setIfInBounds_toArray,this];congr 1;have e:=list_seg_step l (off+k) x xs (by omega);simpa [Nat.add_assoc] using e
theorem Is(place:Nat->Option (Nat×Nat))(i off size:Nat)(v:Value)(rest:List (Nat×Value))(l:List Value)(hp:place i=some (off,size))(hs:v.cells.size=size)(hl:off+size<=l.length) :
  Instr.fill place l.toArray ((i,v)::rest)=Instr.fill place (l.take off++v.cells.toList++l.drop (off+size)).toArray rest:=by
 have hn:(decide (v.cells.size≠size)||decide (off+v.cells.size>l.toArray.size))=false:=by
  simp[hs];omega
 simp only[Instr.fill,hp,hn,a8j,b0l];congr 1;rw[<-Array.foldl_toList,Array.toList_zipIdx];have:=MG off v.cells.toList 0 l (by simp[hs];omega);simp only[a9u,a8q,hs] at this;exact this
theorem wm{E:Env}{s:aJ}{place:Nat->Option (Nat×Nat)}(hp:∀ i t,s.dr[i]?=some t->place i=some (s.dB i,t.size)) :
  ∀ {ps:List (Nat×AV)} {vs:List (Nat×Value)} {cs dt:List AV} {l:List Value},partsOf E s cs ps=some dt->aM (λ p q=>p.1=q.1/\VR c G lk w p.2 q.2) ps vs->aM (C1 c G lk w) cs l ->
   ∃ l',Instr.fill place l.toArray vs=some l'.toArray/\aM (C1 c G lk w) dt l'
 | [],[],cs,dt,l,h,_,hl=>by
  simp only[partsOf,a7v] at h;subst h;exact⟨l,rfl,hl⟩
 | (i,v)::ps,(j,x)::vs,cs,dt,l,h,hv,hl=>by
  obtain⟨⟨qi,hx⟩,M1⟩:=hv;have qi:i=j:=qi;subst qi;simp only[partsOf] at h;split at h
  .rename_i τ ei;split at h
   .rename_i new nM;split at h
    .rename_i cs1 xh;obtain⟨h1,_,h3⟩:=vN nM hx;have hlen:=h1.length;have W1:=hl.length;unfold putCells at xh;split at xh
     .rename_i hb;have hb:=a8w hb;simp only[a7v] at xh;subst xh;have bW:x.cells.size=τ.size:=by rw[<-h3,hlen];simp
      have Bf:s.dB i+τ.size<=l.length:=by omega
      rw[Is place i _ _ x vs l (hp i τ ei) bW Bf];refine wm hp h M1 ?_;rw[a8c,<-h3];exact (hl.take _).append (h1.append (hl.drop _))
     .cases xh
    .cases h
   .cases h
  .cases h
 | [],_::_,_,_,_,_,hv,_=>hv.elim
 | _::_,[],_,_,_,_,hv,_=>hv.elim
theorem Du{τ:Ty}{place:Nat->Option (Nat×Nat)}(hp:∀ i,place i=some (i * τ.size,τ.size)) :
  ∀ {ps:List (Nat×AV)} {vs:List (Nat×Value)} {n:Nat} {xs:List τ.den} {l:List Value},oY τ n ps=some xs->aM (λ p q=>p.1=q.1/\VR c G lk w p.2 q.2) ps vs ->
   (n+ps.length) * τ.size=l.length->∃ r,Instr.fill place l.toArray vs=some (l.take (n * τ.size)++r).toArray/\cZ w G.S (xs.map τ.aI) r
 | [],[],n,xs,l,h,_,hl=>by
  simp only[oY,a7v] at h;subst h;refine⟨[],?_,rfl⟩;simp only[a7T,a9u] at hl;rw[hl,List.take_length,a8z];rfl
 | (i,v)::ps,(j,x)::vs,n,xs,l,h,hv,hl=>by
  obtain⟨⟨qi,hx⟩,M1⟩:=hv;have qi:i=j:=qi;subst qi;simp only[oY] at h;split at h
  .rename_i ff;have ff:=a7w ff;subst ff;split at h
   .rename_i y hy;split at h
    .rename_i ys Dc;simp only[a7v] at h;subst h;have hr:=(wB hy hx).cells;have bW:x.cells.size=τ.size:=by
      have:=Rd.length _ hr;rw[show TV.aI ⟨τ,y⟩=τ.aI y from rfl,Ty.cm] at this;simpa using this
     simp only[a7I] at hl;have Bh:=τ.size_pos;have e1:(i+(ps.length+1)) * τ.size=i * τ.size+τ.size+ps.length * τ.size:=by
      rw[a8B,a8B];omega
     rw[Is place i _ _ x vs l (hp i) bW (by omega)];obtain⟨r,h1,h2⟩:=Du hp (l:=l.take (i * τ.size)++x.cells.toList++l.drop (i * τ.size+τ.size)) Dc M1 (by
      simp[bW];rw[show (i+1+ps.length) * τ.size=i * τ.size+τ.size+ps.length * τ.size by rw[a8B,a8B];omega];omega)
     refine⟨x.cells.toList++r,?_,_,_,rfl,hr,h2⟩;rw[h1];congr 2;rw[show (i+1) * τ.size=i * τ.size+τ.size by rw[a8B];omega];have ht:(l.take (i * τ.size)++x.cells.toList).length=i * τ.size+τ.size:=by simp[bW];omega
     rw[<-ht,a9W,a8c]
    .cases h
   .cases h
  .cases h
 | [],_::_,_,_,_,_,hv,_=>hv.elim
 | _::_,[],_,_,_,_,hv,_=>hv.elim
theorem y7{τ:Ty}:∀ {ps:List (Nat×AV)} {n:Nat} {xs:List τ.den},oY τ n ps=some xs->xs.length=ps.length
 | [],n,xs,h=>by
  simp only[oY,a7v] at h;subst h;rfl
 | (i,v)::ps,n,xs,h=>by
  simp only[oY] at h;split at h
  .split at h
   .split at h
    .rename_i ys Dc;simp only[a7v] at h;subst h;simp[y7 Dc]
    .cases h
   .cases h
  .cases h
theorem zD(z:Array Value)(k:Nat):(madeCells z ((k+1) * z.size)).toList=(madeCells z (k * z.size)).toList++z.toList:=by
 apply b0N;intro j;have e:(k+1) * z.size=k * z.size+z.size:=by rw[a8B];omega
 by_cases h1:j<k * z.size
 .rw[a8H (by simp[madeCells];exact h1)];have h2:j<(k+1) * z.size:=by omega
  simp[madeCells,h1,h2]
 .by_cases h2:j<(k+1) * z.size
  .rw[a9F (by simp[madeCells];omega)];have h3:j - k * z.size<z.size:=by omega
   have hm:j % z.size=j - k * z.size:=by
    have h4:(j - k * z.size+z.size * k) % z.size=j - k * z.size:=by rw[Nat.add_mul_mod_self_left,Nat.mod_eq_of_lt h3]
    rwa [Nat.mul_comm z.size k,Nat.sub_add_cancel (Nat.le_of_not_lt h1)] at h4
   simp[madeCells,h2,hm,h3]
  .rw[a9F (by simp[madeCells];omega)];have h3:¬ j - k * z.size<z.size:=by omega
   simp[madeCells,h2];omega
theorem DI{S:Nat->Prop}{d:D}{z:Array Value}(h:Rd w S d z.toList):∀ k:Nat,cZ w S (List.replicate k d) (madeCells z (k * z.size)).toList
 | 0=>by simp[madeCells,cZ,Array.range_zero']
 | k+1=>by
  rw[zD,b1v];exact cZ.append _ _ (DI h k) ⟨z.toList,[],by simp,h,rfl⟩
theorem zF(z:Array Value)(n m:Nat)(h:n<=m):(madeCells z m).toList.take n=(madeCells z n).toList:=by
 apply b0N;intro j;rw[a8O];by_cases hj:j<n
 .have:j<m:=by omega
  simp[madeCells,hj,this]
 .simp[madeCells,hj]
end
def LV(d:Option Nat)(v:AV):aw->Prop
 | .box _=>∃ i,d=some i/\v = .ptr i 0
 | .row .. => ∃ i,d=some i/\v = .row i
 | .aC .. => False
 | .map .. => ∃ i,d=some i/\v = .mp i
def Vy(c:Ctx)(G:Gh)(lk:Nat->Option aw)(w:World)(x:Value):aw->Prop
 | .box cs=>∃ b l t,x = .pointer (some ⟨b,0,none⟩)/\w.heap[b]?=some (.cells l.toArray t (0,0))/\aM (C1 c G lk w) cs l
 | .row e τ xs=>∃ l,w.ownsRow 0 e τ.size x xs.length l/\cZ w G.S (xs.map τ.aI) l/\xs.length<=140737488355328
 | .aC .. => False
 | .map m=>∃ b es clock,x = .map (some b)/\w.heap[b]?=some (.map es clock)/\uk m es
def uj(c:Ctx)(G:Gh)(sl:Nat->AV)(n:Nat)(lk:Nat->Option aw)(d:Option Nat)(a:Act)(w:World)(v:AV)(ob:Option aw)(a':Act)(w':World):Prop :=
 ∃ x S',a'=a.put d x/\bf c ⟨S',G.η,G.φ⟩ sl n lk a w' /\
  match ob with
  | none=>VR c ⟨S',G.η,G.φ⟩ lk w' v x
  | some o=>LV d v o/\Vy c ⟨S',G.η,G.φ⟩ lk w' x o/\∀ b,dx x=some b->w.heap.size<=b/\b<w'.heap.size/\¬ S' b
section
variable {c:Ctx} {G:Gh} {sl:Nat->AV} {n:Nat} {lk:Nat->Option aw} {a:Act} {w w':World}
theorem bf.grow(h:bf c G sl n lk a w)(hk:bJ (λ _=>False) w w'){S':Nat->Prop}(hS:∀ b,b<w.heap.size->(S' b↔G.S b))(hLt:∀ b,S' b->b<w'.heap.size):bf c ⟨S',G.η,G.φ⟩ sl n lk a w':=by
 refine h.world ⟨hk.os,hk.tape,hk.output,hk.size,λ b hb _=>hk.block b hb (λ h=>h)⟩ (λ b hb=>(hS b (h.dy b hb)).2 hb) hS (λ b hb=>?_) hLt (λ b hb=>?_) (λ id o b ho hb=>?_) (λ id τ xs b ht hb=>hk.block b (h.aN.pl id τ xs b ht hb).2.2.1 (λ h=>h))
 .have h1:=h.sX b hb;exact (hS b (h.dy b h1)).2 h1
 .refine hk.block b ?_ (λ h=>h);rcases hb with hb|hb
  .exact h.dy b hb
  .exact a7F hb.1 h.aK.size
 .exact hk.block b (h.place id o b ho hb).2.2 (λ h=>h)
theorem fj(w:World)(o:Obj):bJ (λ _=>False) w (w.alloc o):=⟨rfl,rfl,rfl,by simp,λ b hb _=>RowKit.Below.heap_alloc w o b hb⟩
theorem bf.alloc(h:bf c G sl n lk a w)(o:Obj):bf c G sl n lk a (w.alloc o) :=
 h.grow (S':=G.S) (fj w o) (λ _ _=>a9Q) (λ b hb=>by have:=h.dy b hb;simp;omega)
theorem bf.RM(h:bf c G sl n lk a w)(hk:bJ (λ _=>False) w w')(b:Nat)(hb:St c G.S b):w'.heap[b]?=w.heap[b]?:=by
 refine hk.block b ?_ (λ h=>h);rcases hb with hb|hb
 .exact h.dy b hb
 .exact a7F hb.1 h.aK.size
theorem bf.a3n(h:bf c G sl n lk a w)(hk:bJ (λ _=>False) w w'){v:AV}{x:Value}(hv:C1 c G lk w v x):C1 c G lk w' v x :=
 hv.mono (λ _ _=>⟨eg.refl _,rfl⟩) (λ _ h=>h) (h.RM hk)
theorem bV{o:Oper}{v:AV}{x:Value}{Q:Exit->Act->World->Prop}(hI:bf c G sl n lk a w)(hr:(execOp a.eval o).run c.P w = .ok (.value x) w)(hv:VR c G lk w v x) :
  o.wp c.P a w (uj c G sl n lk o.dst a w v none) Q:=by
 unfold Oper.wp;rw[hr];exact⟨x,G.S,rfl,hI,hv⟩
theorem rD{o:Oper}{v:AV}{ob:aw}{x:Value}{Q:Exit->Act->World->Prop}(YI:bf c G sl n lk a w)(hr:(execOp a.eval o).run c.P w = .ok (.value x) w')(hI:bf c G sl n lk a w')
  (hL:LV o.dst v ob) (hN:Vy c G lk w' x ob) (hb:∀ b,dx x=some b->w.heap.size<=b/\b<w'.heap.size) :
  o.wp c.P a w (uj c G sl n lk o.dst a w v (some ob)) Q:=by
 unfold Oper.wp;rw[hr];exact⟨x,G.S,rfl,hI,hL,hN,λ b h=>⟨(hb b h).1,(hb b h).2,λ hs=>by have:=YI.dy b hs;have:=(hb b h).1;omega⟩⟩
theorem PW{e:TypeId}{τ:Ty}{xs:List τ.den}{x:Value}{l:List Value}{S S':Nat->Prop}(h1:w.ownsRow 0 e τ.size x xs.length l)(h2:cZ w S (xs.map τ.aI) l)(h3:xs.length<=140737488355328)(hS:∀ b,S b->S' b)(hb:∀ b,dx x=some b->S' b) :
  Rd w S' (Ty.aI (.slice τ) xs) [x]:=by
 rcases h1.2 with ⟨hv,hn⟩|⟨g,cap,cur,hv,_,hh,OL,Uw,ij,Zl⟩
 .have hx:xs=[]:=a8G hn;subst hx;exact⟨none,0,by simp[hv],by simp,by simp[maxLen],by simp, .inl rfl⟩
 .refine⟨some ⟨g,0,none⟩,cap,by simp[hv],by simpa using OL,Uw,by simpa using h3,?_⟩;refine .inr ⟨g,0,rfl,hb g (by rw[hv];rfl),?_⟩;refine cZ.row _ g 0 (h2.aK hS (λ _ _=>rfl)) λ j v hj=>?_;have:=h1.cells (g:=g) (by rw[hv];rfl) j v hj;rw[Addr.add_lit] at this;exact this
theorem WL{o:Oper}{τ:Ty}{xs:List τ.den}{e:TypeId}{x:Value}{l:List Value}{Q:Exit->Act->World->Prop}(hI:bf c G sl n lk a w)(hr:(execOp a.eval o).run c.P w = .ok (.value x) w')(hk:bJ (λ _=>False) w w')
  (h1:w'.ownsRow 0 e τ.size x xs.length l) (h2:cZ w' G.S (xs.map τ.aI) l) (h3:xs.length<=140737488355328) (hb:∀ b,dx x=some b->w.heap.size<=b/\b<w'.heap.size) :
  o.wp c.P a w (uj c G sl n lk o.dst a w (.aQ ⟨.slice τ,xs⟩) none) Q:=by
 unfold Oper.wp;rw[hr];refine⟨x,λ b=>G.S b\/dx x=some b,rfl,hI.grow hk (λ b cv=>⟨λ q=>q.elim id λ q=>absurd (hb b q).1 (by omega), .inl⟩) λ b q=>q.elim (λ q=>Nat.lt_of_lt_of_le (hI.dy b q) hk.size) λ q=>(hb b q).2,?_⟩;exact PW h1 h2 h3 (λ _ q => .inl q) (λ _ q => .inr q)
theorem JZ{v:TV}(h:v.flat=true){S S':Nat->Prop}{w w':World}{cs:List Value}(hr:Rd w S v.aI cs):Rd w' S' v.aI cs:=by
 have one:∀ u:TV,u.τ.agg=false->(match u.τ with | .slice _=>false | .mv _=>false|_=>true)=true->∀ cs,Rd w S u.aI cs->Rd w' S' u.aI cs:=by
  intro u h1 h2 cs h3;obtain⟨τ,y⟩:=u;cases τ<;>first|exact h3|(cases h1;done)|(simp at h2;done)
 obtain⟨τ,y⟩:=v;cases τ with
 | st s =>
  rw[show TV.aI ⟨.st s,y⟩=s.aI y from rfl,aJ.bR] at hr ⊢;refine cJ.rU.2 ((cJ.rU.1 hr).imp λ u x hu hx=>?_);refine one u ?_ (a8g.1 h u hu) _ hx;have:=aJ.mC s y u hu;obtain⟨aT,z⟩:=u;cases aT with
  | st s'=>simp[TV.aI,Ty.aI,aJ.bR,D.leaf] at this
  | _=>rfl
 | slice t=>simp[TV.flat,TV.cells] at h
 | mv t=>simp[TV.flat,TV.cells] at h
 | ptr=>exact hr
 | int k=>exact hr
 | bool=>exact hr
 | str=>exact hr
theorem ME{v:TV}(h:v.flat=true){S S':Nat->Prop}{w w':World}{x:Value}(hr:du w S v x):du w' S' v x:=by
 obtain⟨τ,y⟩:=v;cases τ with
 | st s =>
  obtain⟨cs,h1,h2⟩:=hr;exact⟨cs,h1,JZ (v:=⟨.st s,y⟩) h h2⟩
 | _=>exact JZ (v:=⟨_,y⟩) (w:=w) (w':=w') (S:=S) (S':=S') h hr
theorem yE{lk':Nat->Option aw}(bP:∀ id o,lk' id=some o->lk id=some o):∀ id o,oO lk' id=some o->lk id=some o:=by
 intro id o h;unfold oO at h;split at h
 .rename_i cs hc;simp only[a7v] at h;subst h;exact bP _ _ hc
 .cases h
theorem yF{lk':Nat->Option aw}:∀ id e τ xs,oO lk' id≠some (.row e τ xs):=by
 intro id e τ xs h;unfold oO at h;split at h<;>simp at h
theorem vC{lk':Nat->Option aw}:∀ id τ xs,oO lk' id≠some (.aC τ xs):=by
 intro id τ xs h;unfold oO at h;split at h<;>simp at h
theorem UT{τ:Ty}{cs:List Value}{x:τ.den}{S:Nat->Prop}(h:du w S ⟨τ,x⟩ (xy τ cs))(hl:cs.length=τ.size):Rd w S (τ.aI x) cs:=by
 cases τ with
 | st s =>
  obtain⟨dt,h1,h2⟩:=h;simp only[xy,Value.agg.injEq] at h1;have:cs=dt:=by have:=congrArg Array.toList h1;simpa using this
  subst this;exact h2
 | _ =>
  match cs,hl with
  | [v],_=>exact h
theorem CR.eQ{v:AV}{x:Value}(h:CR c G lk w v x):VR c G lk w v x:=by
 cases v with
 | aQ v=>exact h
 | agg cs=>exact h
 | any=>trivial
 | dN=>exact h
 | fZ _=>exact h.elim
 | cK _ _=>exact h.elim
 | nil=>exact h
 | cP v=>exact h
 | ptr i o=>exact h
 | row i=>exact h
 | dS i k o=>exact h
 | fn f=>exact h
 | aC i=>exact h
 | sub i k o z=>exact h
 | ed i k o z=>exact h
 | gp v=>exact h
 | mp i=>exact h
theorem C1.TD{v:AV}{x:Value}(h:C1 c G lk w v x):CR c G lk w v x:=by
 cases v with
 | aQ v=>exact C1.eQ (v := .aQ v) h
 | agg cs=>exact h.elim
 | fZ cs=>exact h.elim
 | cK f cs=>exact h.elim
 | _=>exact h
theorem CR.inv{v:AV}{x:Value}(h:CR c G lk w v x):(∃ u,v = .aQ u/\du w G.S u x)\/(∃ cs l,v = .agg cs/\x = .agg l.toArray/\aM (C1 c G lk w) cs l)\/C1 c G lk w v x:=by
 cases v with
 | aQ v=>exact .inl ⟨v,rfl,h⟩
 | agg cs =>
  obtain⟨l,h1,h2⟩:=h;exact .inr (.inl ⟨cs,l,rfl,h1,h2⟩)
 | _=>exact .inr (.inr h)
theorem VR.TD{v:AV}{x:Value}(h:VR c G lk w v x)(hc:v.Yk=true):CR c G lk w v x:=by
 cases v with
 | fZ _=>cases hc
 | cK _ _=>cases hc
 | dN=>cases hc
 | gp _=>cases hc
 | _=>exact h
theorem AR{S:Nat->Prop}{lk':Nat->Option aw}(hI:bf c G sl n lk a w)(bP:∀ id o,lk' id=some o->lk id=some o)
  (eN:∀ (τ:Ty) v x (y:τ.den),ri lk' τ v=some y->VR c G lk w v x->du w S ⟨τ,y⟩ x) {τ:Ty} {v:AV} {x:Value} {y:τ.den} (hy:deref lk' τ v=some y) (hx:VR c G lk w v x):D1 w S (.ref ⟨τ,y⟩) x:=by
 unfold deref at hy;split at hy
 .rename_i u hu;obtain⟨b,o,cs,h1,h2,h3,h4⟩:=nk hI.aH bP hu hx;have h5:=UT (eN _ _ _ _ hy h4) h3;have Bh:=τ.size_pos;have hc0:=h2 0 (cs[0]'(by omega)) (a7L (by omega));exact⟨b,o,cs,h1,World.block_lt_of_cell? w _ hc0,h2,h5⟩
 .cases hy
theorem yd{S:Nat->Prop}{lk':Nat->Option aw}(hI:bf c G sl n lk a w)(bP:∀ id o,lk' id=some o->lk id=some o)
  (eN:∀ (τ:Ty) v x (y:τ.den),ri lk' τ v=some y->VR c G lk w v x->du w S ⟨τ,y⟩ x) :
  ∀ {ks:List (Bool×Ty)} {vs:List AV} {Z9:List Arg} {xs:List Value},mP lk' ks vs=some Z9->aM (CR c G lk w) vs xs->aM (D1 w S) Z9 xs
 | [],[],Z9,xs,h,hv=>by
  simp only[mP,a7v] at h;subst h;match xs,hv with
  | [],_=>trivial
 | (true,τ)::ks,v::vs,Z9,xs,h,hv=>by
  simp only[mP] at h;split at h
  .rename_i y hy;split at h
   .rename_i r hr;simp only[a7v] at h;subst h;match xs,hv with
    | x::xs,hv=>exact⟨AR hI bP eN hy hv.1.eQ,yd hI bP eN hr hv.2⟩
   .cases h
  .cases h
 | (false,τ)::ks,v::vs,Z9,xs,h,hv=>by
  simp only[mP] at h;split at h
  .rename_i y hy;split at h
   .rename_i r hr;simp only[a7v] at h;subst h;match xs,hv with
    | x::xs,hv=>exact⟨eN _ _ _ _ hy hv.1.eQ,yd hI bP eN hr hv.2⟩
   .cases h
  .cases h
 | [],_::_,_,_,h,_=>by cases h
 | (true,_)::_,[],_,_,h,_=>by cases h
 | (false,_)::_,[],_,_,h,_=>by cases h
theorem sa(hE:bo c.P c.E){f:FuncId}{dY:List Arg}:∀ (ps:List Ty) (r:Ty) (acc:List Arg),xS c.P f dY ps r (Ml c.E f dY ps r acc) acc
 | [],r,acc=>by
  show (Ml c.E f dY [] r acc).1->_;intro hp;generalize hF:Ml c.E f dY [] r acc=F at hp ⊢;rw[Ml] at hF;split at hF
  .rename_i pre v hc;split at hF
   .rename_i y hy;subst hF;have:=TV.aR hy;subst this;obtain⟨h1,h2⟩:=hE.Io f _ _ _ hc hp;exact⟨h1,h2.ok0⟩
   .subst hF;exact hp.elim
  .subst hF;exact hp.elim
 | t::ts,r,acc=>λ x=>sa hE ts r (acc++[.val ⟨t,x⟩])
theorem JG{P:Program}{f:FuncId}{dY:List Arg}:∀ {ps:List Ty} {r:Ty} {F:FN ps r} {acc Z9:List Arg} {p:Prop} {y:r.den},xS P f dY ps r F acc->pA ps r F Z9=some (p,y)->p ->
  (iQ P f/\FI P f (acc++Z9++dY) (·=[⟨r,y⟩]))/\∀ z∈Z9,∃ v,z = .val v
 | [],r,F,acc,[],p,y,h,e,hp=>by
  simp only[pA,Option.some.injEq] at e;have h':F.1->iQ P f/\FI P f (acc++dY) (·=[⟨r,F.2⟩]):=h;rw[e] at h';refine⟨by simpa using h' hp,by simp⟩
 | t::ts,r,F,acc, .val z::zs,p,y,h,e,hp=>by
  simp only[pA] at e;split at e
  .rename_i x hx;have h':∀ x,xS P f dY ts r (F x) (acc++[.val ⟨t,x⟩]):=h;obtain⟨h1,h2⟩:=JG (h' x) e hp;have:=TV.aR hx;subst this;refine⟨by simpa using h1,λ z hz=>?_⟩;rcases List.mem_cons.1 hz with rfl|hz
   .exact⟨_,rfl⟩
   .exact h2 z hz
  .cases e
 | [],_,_,_,_::_,_,_,_,e,_=>by simp[pA] at e
 | _::_,_,_,_,[],_,_,_,e,_=>by simp[pA] at e
 | _::_,_,_,_, .ref _::_,_,_,_,e,_=>by simp[pA] at e
 | _::_,_,_,_, .fn _::_,_,_,_,e,_=>by simp[pA] at e
 | _::_,_,_,_, .cK _::_,_,_,_,e,_=>by simp[pA] at e
theorem yf(hE:bo c.P c.E){S:Nat->Prop}{lk':Nat->Option aw}(hI:bf c G sl n lk a w)(bP:∀ id o,lk' id=some o->lk id=some o)(KB:∀ b,G.S b->S b)
  (eN:∀ (τ:Ty) v x (y:τ.den),ri lk' τ v=some y->VR c G lk w v x->du w S ⟨τ,y⟩ x) {g:AV} {x:Value} {q:FV} (h:ye c.E lk' g=some q) (hx:VR c G lk w g x):ui c.P w S (.cK q) x:=by
 unfold ye at h;split at h
 .rename_i f cs;split at h
  .rename_i k _;split at h
   .rename_i Z9 has;simp only[a7v] at h;subst h;obtain⟨l,h1,h2⟩:=hx;exact⟨f,Z9,l,h1,sa hE _ _ _,yd hI bP eN has h2⟩
   .cases h
  .cases h
 .simp only[a7v] at h;subst h;obtain⟨f,dY,l,h1,h2,h3⟩:=hx;refine⟨f,dY,l,h1,h2,h3.imp λ u y _ hy=>?_⟩;cases u with
  | val v=>exact du.mono (G:=G) (G':=⟨S,G.η,G.φ⟩) hy KB (λ _ _=>rfl)
  | ref v =>
   obtain⟨b,o,cs,k1,k2,k3,k4⟩:=hy;refine⟨b,o,cs,k1,?_,k3,Rd.aK KB (λ _ _=>rfl) _ k4⟩;exact k2.elim (hI.dy b) λ k=>a7F k.1 hI.aK.size
  | fn f=>exact hy
  | cK v=>exact hy.elim
  | own v=>exact hy.elim
  | box k=>exact hy.elim
 .rename_i f;split at h
  .rename_i k _;split at h
   .simp only[a7v] at h;subst h;exact⟨f,[],[],hx,sa hE _ _ _,af⟩
   .cases h
  .cases h
 .cases h
theorem gh(hE:bo c.P c.E){S:Nat->Prop}{lk':Nat->Option aw}(hI:bf c G sl n lk a w)(bP:∀ id o,lk' id=some o->lk id=some o)(KB:∀ b,G.S b->S b)
  (eN:∀ (τ:Ty) v x (y:τ.den),ri lk' τ v=some y->VR c G lk w v x->du w S ⟨τ,y⟩ x) :
  ∀ {Ts:List TypeId} {vs:List AV} {Z9:List Arg} {xs:List Value},jT c.E lk' Ts vs=some Z9->aM (VR c G lk w) vs xs->aM (ui c.P w S) Z9 xs
 | [],[],Z9,xs,h,hv=>by
  simp only[jT,a7v] at h;subst h;match xs,hv with
  | [],_=>trivial
 | T::Ts,v::vs,Z9,xs,h,hv=>by
  simp only[jT] at h;split at h
  .rename_i p hp;split at h
   .rename_i r hr;simp only[a7v] at h;subst h;match xs,hv with
    | x::xs,hv =>
     refine⟨?_,gh hE hI bP KB eN hr hv.2⟩;have hx:=hv.1;unfold L4 at hp;split at hp
     .split at hp
      .rename_i y hy;simp only[a7v] at hp;subst hp;exact eN _ _ _ _ hy hx
      .cases hp
     .split at hp
      .rename_i τ _;split at hp
       .rename_i y hy;simp only[a7v] at hp;subst hp;exact AR hI bP eN hy hx
       .cases hp
      .split at hp
       .rename_i q hq;simp only[a7v] at hp;subst hp;exact yf hE hI bP KB eN hq hx
       .split at hp
        .simp only[a7v] at hp;subst hp;exact hx
        .cases hp
   .cases h
  .cases h
 | [],_::_,_,_,h,_=>by cases h
 | _::_,[],_,_,h,_=>by cases h
theorem vE{S:Nat->Prop}{res:List TV}{x:Value}(h:Di w S res x){η:Nat->Value}{φ:Nat->List Nat}:VR c ⟨S,η,φ⟩ lk w (yJ res) x:=by
 match res,h with
 | [v],h=>exact h
 | [],h =>
  obtain⟨l,h1,h2⟩:=h;exact⟨l,h1,aM.dF _ h2⟩
 | v::u::r,h =>
  obtain⟨l,h1,h2⟩:=h;exact⟨l,h1,aM.dF _ h2⟩
theorem PB{S S':Nat->Prop}{res:List TV}{x:Value}(hf:res.all TV.flat=true)(h:Di w S res x):Di w S' res x:=by
 have fT:∀ v∈res,v.flat=true:=a8g.1 hf;match res,h,fT with
 | [v],h,fT=>exact ME (fT v (by simp)) h
 | [],h,fT =>
  obtain⟨l,h1,h2⟩:=h;exact⟨l,h1,h2.imp λ v y hv hy=>ME (fT v hv) hy⟩
 | v::u::r,h,fT =>
  obtain⟨l,h1,h2⟩:=h;exact⟨l,h1,h2.imp λ v y hv hy=>ME (fT v hv) hy⟩
theorem JU(hE:bo c.P c.E)(hI:bf c G sl n lk a w){lk':Nat->Option aw}(bP:∀ id o,lk' id=some o->lk id=some o){o:Oper}{f:FuncId}{Ts:List TypeId}{vs:List AV}{xs:List Value}
  {vc:Vc} {v:AV} {ob:Option aw} (hq:Cg c.E lk' f Ts vs=some (vc,v,ob)) (dO:vc.ok) (jJ:aM (VR c G lk w) vs xs)
  (cC:iQ c.P f->(execOp a.eval o).run c.P w = .ok (.enter f xs.toArray) w) {Q:Exit->Act->World->Prop}:o.wp c.P a w (uj c G sl n lk o.dst a w v ob) Q:=by
 have fin:∀ (S:Nat->Prop) (Z9:List Arg) (pre:Vc) (res:List TV),c.E.Io f Z9=some (pre,res)->pre.ok->aM (ui c.P w S) Z9 xs->iR w S ->
   (∀ S' w' x,bJ (λ _=>False) w w'->(∀ b,b<w.heap.size->(S' b↔S b))->(∀ b,S' b->b<w'.heap.size)->Di w' S' res x->uj c G sl n lk o.dst a w (yJ res) none (a.put o.dst x) w') ->
   o.wp c.P a w (uj c G sl n lk o.dst a w (yJ res) none) Q:=by
  intro S Z9 pre res hc M0 has bp EY;obtain⟨oi,jf⟩:=hE.Io f Z9 pre res hc M0;unfold Oper.wp;rw[cC oi];simp only[Oper.upon];refine (jf w S xs bp has).mono ?_;rintro e w' ⟨x,S',a6e,rfl,rfl,h1,h2,h3,h4⟩;exact EY S' w' x h1 h2 h3 h4
 unfold Cg at hq;split at hq
 .rename_i Z9 has;split at hq
  .rename_i pre res hc;simp only[a7v,a7x] at hq;obtain⟨rfl,rfl,rfl⟩:=hq;refine fin G.S Z9 _ _ hc dO (gh hE hI (yE bP) (λ _ h=>h) (λ τ v x y h1 h2=>wC yF vC h1 h2) has jJ) hI.Vj ?_;intro S' w' x h1 h2 h3 h4;exact⟨x,S',rfl,hI.grow h1 h2 h3,vE h4⟩
  .cases hq
 .split at hq
  .rename_i Z9 has;split at hq
   .rename_i pre res hc;split at hq
    .rename_i OH;simp only[a7v,a7x] at hq;obtain⟨rfl,rfl,rfl⟩:=hq;refine fin (SX G lk) Z9 _ _ hc dO (gh hE hI bP (λ _ h => .inl h) (λ τ v x y h1 h2=>uq hI.aN hI.aH bP h1 h2) has jJ) ?_ ?_
     .exact hI.Tx
     .intro S' w' x h1 h2 h3 h4;exact⟨x,G.S,rfl,hI.grow (S':=G.S) h1 (λ _ _=>a9Q) (λ b hb=>a7F (hI.dy b hb) h1.size),vE (PB OH h4)⟩
    .cases hq
   .cases hq
  .cases hq
theorem O4{o:Oper}{cl:Call}{fo:Operand}{f:FuncId}{l:List Value}(ho:o.op = .call cl)(hc:cl.callee = .value fo)(hf:a.eval fo = .func (.func f) #[] l.toArray)(oi:iQ c.P f) :
  (execOp a.eval o).run c.P w = .ok (.enter f (cl.args.toList.map a.eval++l).toArray) w:=by
 obtain⟨fn,h1,h2,h3⟩:=oi;have YG:(fn.name = "runtime.NumGoroutine")=False:=by simpa using h3
 have xd:fn.body≠none:=by intro e;simp[e] at h2
 simp[execOp,ho,resolve,hc,Deferred.ofValue,hf,invoke,callFunc,h1,xd,YG]
theorem AL(hE:bo c.P c.E)(hI:bf c G sl n lk a w){lk':Nat->Option aw}(bP:∀ id o,lk' id=some o->lk id=some o){o:Oper}{cl:Call}{fo:Operand}{g:AV}{Ts:List TypeId}{vs:List AV}
  {vc:Vc} {v:AV} {ob:Option aw} (hq:wR c.E lk' g Ts vs=some (vc,v,ob)) (dO:vc.ok) (jJ:aM (VR c G lk w) vs (cl.args.toList.map a.eval)) (bh:o.op = .call cl) (e9:cl.callee = .value fo) (hg:VR c G lk w g (a.eval fo))
  {Q:Exit->Act->World->Prop}:o.wp c.P a w (uj c G sl n lk o.dst a w v ob) Q:=by
 have fin:∀ (S:Nat->Prop) (Z9:List Arg) (q:FV) (pre:Prop) (y:q.r.den),pA q.ps q.r q.F Z9=some (pre,y)->pre->aM (ui c.P w S) Z9 (cl.args.toList.map a.eval)->ui c.P w S (.cK q) (a.eval fo)->iR w S ->
   (∀ S' w' x,bJ (λ _=>False) w w'->(∀ b,b<w.heap.size->(S' b↔S b))->(∀ b,S' b->b<w'.heap.size)->Di w' S' [⟨q.r,y⟩] x->uj c G sl n lk o.dst a w (yJ [⟨q.r,y⟩]) none (a.put o.dst x) w') ->
   o.wp c.P a w (uj c G sl n lk o.dst a w (yJ [⟨q.r,y⟩]) none) Q:=by
  intro S Z9 q pre y QP M0 has a5G bp EY;obtain⟨f,dY,l,h1,h2,h3⟩:=a5G;obtain⟨⟨oi,jf⟩,SD⟩:=JG h2 QP M0;unfold Oper.wp;rw[O4 bh e9 h1 oi];simp only[Oper.upon];simp only[List.nil_append] at jf;have a5w:aM (D1 w S) Z9 (cl.args.toList.map a.eval):=has.imp λ u z hu hz=>by
   obtain⟨v,rfl⟩:=SD u hu;exact hz
  refine (jf w S _ bp (a5w.append h3)).mono ?_;rintro e w' ⟨x,S',a6e,rfl,rfl,h1,h2,h3,h4⟩;exact EY S' w' x h1 h2 h3 h4
 unfold wR at hq;split at hq
 .rename_i r0 SC;split at SC
  .rename_i Z9 has;split at SC
   .rename_i q hqq;split at SC
    .rename_i pre y QP;simp only[a7v] at SC hq;subst SC;simp only[a7x] at hq;obtain⟨rfl,rfl,rfl⟩:=hq;refine fin G.S Z9 q pre y QP dO (gh hE hI (yE bP) (λ _ h=>h) (λ τ v x y h1 h2=>wC yF vC h1 h2) has jJ) (yf hE hI (yE bP) (λ _ h=>h) (λ τ v x y h1 h2=>wC yF vC h1 h2) hqq hg) hI.Vj ?_;intro S' w' x h1 h2 h3 h4;exact⟨x,S',rfl,hI.grow h1 h2 h3,vE h4⟩
    .cases SC
   .cases SC
  .cases SC
 .split at hq
  .rename_i Z9 has;split at hq
   .rename_i q hqq;split at hq
    .rename_i pre y QP;split at hq
     .rename_i OH;simp only[a7v,a7x] at hq;obtain⟨rfl,rfl,rfl⟩:=hq;refine fin (SX G lk) Z9 q pre y QP dO (gh hE hI bP (λ _ h => .inl h) (λ τ v x y h1 h2=>uq hI.aN hI.aH bP h1 h2) has jJ) (yf hE hI bP (λ _ h => .inl h) (λ τ v x y h1 h2=>uq hI.aN hI.aH bP h1 h2) hqq hg) ?_ ?_
      .exact hI.Tx
      .intro S' w' x h1 h2 h3 h4;exact⟨x,G.S,rfl,hI.grow (S':=G.S) h1 (λ _ _=>Iff.rfl) (λ b hb=>Nat.lt_of_lt_of_le (hI.dy b hb) h1.size),vE (PB (res:=[⟨q.r,y⟩]) (by simpa using OH) h4)⟩
     .cases hq
    .cases hq
   .cases hq
  .cases hq
theorem fM{o:Oper}{cl:Call}{fo:Operand}{f:FuncId}(ho:o.op = .call cl)(hc:cl.callee = .value fo)(hf:a.eval fo = .func (.func f) #[] #[])(oi:iQ c.P f) :
  (execOp a.eval o).run c.P w = .ok (.enter f (cl.args.toList.map a.eval).toArray) w:=by
 obtain⟨fn,h1,h2,h3⟩:=oi;have YG:(fn.name = "runtime.NumGoroutine")=False:=by simpa using h3
 have xd:fn.body≠none:=by intro e;simp[e] at h2
 simp[execOp,ho,resolve,hc,Deferred.ofValue,hf,invoke,callFunc,h1,xd,YG];apply b0S;simp
theorem aM.iL{ev:Operand->AV}(cw:∀ x,VR c G lk w (ev x) (a.eval x)):∀ l:List Operand,aM (VR c G lk w) (l.map ev) (l.map a.eval)
 | []=>trivial
 | x::r=>⟨cw x,aM.iL cw r⟩
theorem aM.xH{ev:Operand->AV}(cw:∀ x,VR c G lk w (ev x) (a.eval x)):∀ l:List (Nat×Operand),
  aM (λ p q=>p.1=q.1/\VR c G lk w p.2 q.2) (l.map λ p=>(p.1,ev p.2)) (l.map λ p=>(p.1,a.eval p.2))
 | []=>trivial
 | x::r=>⟨⟨rfl,cw x.2⟩,aM.xH cw r⟩
theorem iy{S:Nat->Prop}{t:Ty}{xs:List t.den}{x:Value}(h:du w S ⟨.slice t,xs⟩ x):∃ ad cap,x = .slice ad xs.length cap/\xs.length<=cap/\xs.length<=140737488355328 /\
  (xs=[]\/∃ b o,ad=some ⟨b,o,none⟩/\S b/\cR w S (xs.map t.aI) b o):=by
 obtain⟨ad,cap,h1,h2,h3,h4,h5⟩:=h;simp only[List.cons.injEq,and_true,List.length_map] at h1;exact⟨ad,cap,h1,by simpa using h2,by simpa using h4,h5.imp (λ h=>by simpa using h) id⟩
theorem a1p(lo hi m n:Int)(h1:lo<=m/\m<=hi)(h2:lo<=n/\n<=hi):lo<=max m n/\max m n<=hi:=by omega
theorem a1o(m n:Int):(if n>m then n else m)=max m n:=by
 rw[Int.max_def];split<;>split<;>omega
theorem SV(hE:bo c.P c.E){op:BinOp}{T:TypeId}{u v r:AV}{x y:Value}{p:Vc}(ox oy:Operand)
  (h:Rn c.E op T u v=some (p,r)) (hp:p.ok) (hu:VR c G lk w u x) (hv:VR c G lk w v y) :
  ∃ z,(do eqGuard op T ox oy x y;binOp op T x y:Sem Value).run c.P w = .ok z w/\VR c G lk w r z:=by
 unfold Rn at h;split at h
 .rename_i t r1 τ xs hl;have hy:y = .slice none 0 0:=hv;subst hy;obtain⟨r1,r2⟩:=r1;obtain⟨hT,_⟩:=hE.slice hl;obtain⟨a,cap,h1,_,h3⟩:=iy hu;subst h1;have heq:(Op.equal T (.slice a xs.length cap) (.slice none 0 0)).run c.P w = .ok a.isNone w:=by
   have h9:∀ d:Nat,(Op.equalIn (d+1) T (.slice a xs.length cap) (.slice none 0 0)).run c.P w = .ok a.isNone w:=λ d=>by
    cases a<;>simp[Op.equalIn,a8k hT]
   exact h9 9999
  have key:1<=xs.length->a.isNone=false:=λ hx=>by
   rcases h3.2 with h|⟨b,o,h,_⟩
   .subst h;simp at hx
   .subst h;rfl
  split at h
  .simp only[a7v,a7x] at h;obtain⟨rfl,rfl⟩:=h;refine⟨.bool false,?_,rfl⟩;simp only[eqGuard_at_slice,a7U,a7S,a7N,binOp,heq,key hp]
  .simp only[a7v,a7x] at h;obtain⟨rfl,rfl⟩:=h;refine⟨.bool true,?_,rfl⟩;simp only[eqGuard_at_slice,a7U,a7S,a7N,binOp,heq,key hp];rfl
  .cases h
 .cases h
theorem Xx{S:Nat->Prop}{t:Ty}{ys:List t.den}{ad:Option Addr}{m cap:Nat}(h1:ys.length=m)(h2:m<=cap)(h3:cap<=maxLen)(h4:m<=140737488355328)
  (h5:ys=[]\/∃ b o,ad=some ⟨b,o,none⟩/\S b/\cR w S (ys.map t.aI) b o):du w S ⟨.slice t,ys⟩ (.slice ad m cap):=by
 subst h1;exact⟨ad,cap,by simp,by simpa using h2,h3,by simpa using h4,h5.imp (λ h=>by simp[h]) id⟩
theorem nu(hE:bo c.P c.E){T:TypeId}{t:Ty}{b e:Nat}(h:ag c.E.ty T=some (.slice t,b,e)){bk o len cap:Nat}{k:IntKind}{i:Int}(h0:0<=i)(h1:i<len)(w:World) :
  (Instr.indexAt T (.slice (some ⟨bk,o,none⟩) len cap) (.int k i)).run c.P w = .ok (.pointer (some ⟨bk,o+i.toNat * t.size,none⟩)) w:=by
 obtain⟨h2,⟨b',e',h3⟩,_⟩:=hE.slice h;simp[Instr.indexAt,a8k h2,asIntOf,h0,h1,hE.sizeOf h3 w,a9L]
theorem Dv(s:aJ)(y:s.den)(i:Nat){f:TV}(hf:(s.fields y)[i]?=some f):((s.cells y).drop (s.dB i)).take f.τ.size=f.cells/\s.dB i+f.τ.size<=s.size:=by
 have xe:∀ v:TV,v.cells.length=v.τ.size:=by
  rintro⟨τ,x⟩;cases τ<;>first|rfl|exact aJ.fv _ _
 have key:∀ (l:List TV) (i:Nat) (f:TV),l[i]?=some f->((l.flatMap TV.cells).drop ((l.map TV.τ).take i |>.map Ty.size).sum).take f.τ.size=f.cells/\(((l.map TV.τ).take i).map Ty.size).sum+f.τ.size<=(l.flatMap TV.cells).length:=by
  intro l;induction l with
  | nil=>intro i f h;simp at h
  | cons g l ih =>
   intro i f h;cases i with
   | zero =>
    simp at h;subst h;have:=xe g;simp only[a9z,a9h,List.sum_nil,b0G,a9j,a7K,a8W];exact⟨by rw[<-this,a9W],by omega⟩
   | succ i =>
    obtain⟨h1,h2⟩:=ih i f (by simpa using h);simp only[List.map_cons,List.take_succ_cons,List.sum_cons,List.flatMap_cons,List.length_append,<-xe g];refine⟨?_,by omega⟩;rw[<-List.drop_drop,List.drop_left];exact h1
 have:=key _ i f hf;rw[<-aJ.Dr,aJ.AZ,aJ.fv] at this;exact this
theorem JY{S:Nat->Prop}{s:aJ}{y:s.den}{i:Nat}{f:TV}(hf:(s.fields y)[i]?=some f){cs:List Value}(h:Rd w S (TV.aI ⟨.st s,y⟩) cs):Rd w S f.aI ((cs.drop (s.dB i)).take f.τ.size):=by
 obtain⟨h1,_⟩:=Dv s y i hf;rw[show TV.aI ⟨.st s,y⟩=s.aI y from rfl,aJ.bR] at h;have h2:=((cJ.rU.1 h).drop (s.dB i)).take f.τ.size;rw[h1] at h2;obtain⟨τ,x⟩:=f;cases τ with
 | st s' =>
  show Rd w S (s'.aI x) _;rw[aJ.bR];exact cJ.rU.2 h2
 | _ =>
  simp only[TV.cells] at h2;match hc:(cs.drop (s.dB i)).take (Ty.size _),h2 with
  | [v],h2=>exact h2.1
theorem Sd{S:Nat->Prop}{s:aJ}{y:s.den}{i:Nat}{f:TV}(hf:(s.fields y)[i]?=some f){cs:List Value}(h:Rd w S (s.aI y) cs):s.dB i+f.τ.size<=cs.length/\True:=by
 obtain⟨_,h1⟩:=Dv s y i hf;have:=Rd.length _ h;rw[aJ.bR] at this;simp only[D.size,a8n,aJ.fv] at this;exact⟨by omega,af⟩
theorem oK{n:aJ}{i:Nat}{v r:AV}{x:Value}(h:Gw n i v=some r)(hx:VR c G lk w v x) :
  ∃ b o,x = .pointer (some ⟨b,o,none⟩)/\i<n.dr.length/\VR c G lk w r (.pointer (some ⟨b,o+n.dB i,none⟩)):=by
 unfold Gw at h;split at h
 .split at h
  .rename_i y hy;have e:=TV.aR hy;subst e;split at h
   .rename_i f hf;simp only[a7v] at h;subst h;obtain⟨b,o',cs,h1,h2,h3,h4⟩:=hx;refine⟨b,o',h1,?_,b,o'+n.dB i,(cs.drop (n.dB i)).take f.τ.size,rfl,h2,h3.part _ _,JY hf h4⟩;have:=(a7R.1 hf).1;rw[<-aJ.AZ n y,a8n];exact this
   .cases h
  .cases h
 .split at h
  .rename_i bp;simp only[Option.some.injEq] at h;subst h;have bp:i<n.dr.length:=by simpa [Nat.blt_eq] using bp
   obtain⟨b,h1,h2,h3⟩:=hx;exact⟨b,_,h2,bp,b,h1,rfl,h3⟩
  .cases h
 .split at h
  .rename_i bp;simp only[Option.some.injEq] at h;subst h;have bp:i<n.dr.length:=by simpa [Nat.blt_eq] using bp
   obtain⟨b,m,cap,e,τ,xs,h1,h2,h3,h4⟩:=hx;exact⟨b,_,h4,bp,b,m,cap,e,τ,xs,h1,h2,h3,by rw[b0f]⟩
  .cases h
 .cases h
theorem Gx{n:aJ}{i:Nat}{v r:AV}{x:Value}(h:Lx n i v=some r)(hx:VR c G lk w v x) :
  ∃ (cs:List Value) (t:Ty),x = .agg cs.toArray/\n.dr[i]?=some t/\n.dB i+t.size<=cs.length/\VR c G lk w r (xy t ((cs.drop (n.dB i)).take t.size)):=by
 unfold Lx at h;split at h
 .split at h
  .rename_i y hy;have e:=TV.aR hy;subst e;split at h
   .rename_i f hf;simp only[a7v] at h;subst h;obtain⟨cs,h1,h2⟩:=hx;have hty:n.dr[i]?=some f.τ:=by rw[<-aJ.AZ n y,a8T,hf];rfl
    obtain⟨h3,h4⟩:=Sd hf h2;exact⟨cs,f.τ,h1,hty,h3,du.mk_ (JY hf h2)⟩
   .cases h
  .cases h
 .split at h
  .rename_i τ ei;obtain⟨l,h1,h2⟩:=hx;obtain⟨h3,h4,h5⟩:=A5 h2 h;exact⟨l,τ,h1,ei,h5,h3⟩
  .cases h
 .cases h
theorem Ty.size_le(τ:Ty):τ.size<=100:=by
 have:∀ s:aJ,s.size<=100:=by intro s;cases s<;>decide
 cases τ<;>first|exact this _|(simp[Ty.size];done)
theorem Rd.jb{S:Nat->Prop}{τ:Ty}{x:τ.den}{cs:List Value}(h:Rd w S (τ.aI x) cs):∀ u∈cs,u.oneCell'=true:=by
 cases τ with
 | st s =>
  rw[show Ty.aI (.st s) x=s.aI x from rfl,aJ.bR] at h;have ha:=cJ.rU.1 h;intro u hu;obtain⟨i,hi,Y1⟩:=a9O hu;have hlen:=ha.length;obtain⟨b,hb,hr⟩:=ha.at_ i (s.cells x)[i] (a7L (by omega));have hbu:b=u:=by
   have:cs[i]?=some u:=by rw[a7L hi,Y1]
   rw[this] at hb;exact (a8I hb).symm
  subst hbu;obtain⟨z,h1,h2⟩:=Rd.qu (aJ.mC s x _ (a9l _)) hr;simp only[a7A,a7W] at h1;subst h1;exact vw h2
 | _ =>
  obtain⟨z,rfl,h2⟩:=Rd.qu (ia (v:=⟨_,x⟩) rfl) h;intro u hu;simp only[a7O] at hu;subst hu;exact vw h2
theorem cZ.jb{S:Nat->Prop}{τ:Ty}:∀ {xs:List τ.den} {l:List Value},cZ w S (xs.map τ.aI) l->∀ u∈l,u.oneCell'=true
 | [],l,h=>by rw[show l=[] from h];simp
 | x::xs,l,h=>by
  obtain⟨c1,r,rfl,h2,h3⟩:=h;intro u hu;rcases a7y.1 hu with hu|hu
  .exact Rd.jb h2 u hu
  .exact cZ.jb h3 u hu
def Src(w:World)(S:Nat->Prop)(τ:Ty)(ys:List τ.den)(z:Value):Prop :=
 ∃ ad cap,z = .slice ad ys.length cap/\(ys=[]\/∃ b o news,ad=some ⟨b,o,none⟩/\bn w b o news/\cZ w S (ys.map τ.aI) news)
theorem BP{lk lk':Nat->Option aw}(bP:∀ id o,lk' id=some o->lk id=some o)(id:Nat)(o:aw)(h:Ho lk' id=some o):lk id=some o:=by
 unfold Ho at h;split at h
 .cases h
 .exact bP id o h
theorem SY{lk:Nat->Option aw}(id:Nat)(τ:Ty)(xs:List τ.den):Ho lk id≠some (.aC τ xs):=by
 unfold Ho;split
 .simp
 .rename_i gZ;exact gZ _ _
theorem VB(iU:∀ id o,lk id=some o->OR c G lk w id o){lk':Nat->Option aw}(bP:∀ id o,lk' id=some o->lk id=some o)(IG:∀ id τ xs,lk' id≠some (.aC τ xs)){τ:Ty}{v:AV}{z:Value}{ys:List τ.den}(h:ik lk' (.slice τ) v=some ys)
  (hv:C1 c G lk w v z):Src w G.S τ ys z:=by
 cases v with
 | aQ u =>
  have e:=TV.aR h;subst e;obtain⟨ad,cap,h1,h2,h3,h4⟩:=iy (show du w G.S ⟨.slice τ,ys⟩ z from hv.2);refine⟨ad,cap,h1,h4.imp id ?_⟩;rintro⟨b,o,h5,h6,h7⟩;obtain⟨news,h8,h9⟩:=cR.cells _ b o h7;exact⟨b,o,news,h5,h9,h8⟩
 | nil =>
  simp only[ik,a7v] at h;subst h;exact⟨none,0,hv, .inl rfl⟩
 | row id =>
  simp only[ik] at h;split at h
  .rename_i e aT xs hl;have e1:=TV.aR h;cases e1;have mg:=bP _ _ hl;obtain⟨l,h1,h2,h3⟩:=iU _ _ mg;rcases h1.2 with ⟨Q5,hn⟩|⟨g,cap,cur,Q5,_⟩
   .exact⟨none,0,by rw[hv.1,Q5,hn], .inl (a8G hn)⟩
   .refine⟨some ⟨g,0,none⟩,cap,by rw[hv.1,Q5], .inr ⟨g,0,l,rfl,?_,h2⟩⟩;intro j u hj;have:=h1.cells (g:=g) (by rw[Q5];rfl) j u hj;rw[a9L] at this;exact this
  .cases h
 | aC id =>
  simp only[ik] at h;split at h
  .rename_i hl;exact absurd hl (IG _ _ _)
  .cases h
 | _=>cases h
theorem JH{S:Nat->Prop}{base:Nat}(hE:bo c.P c.E){T:TypeId}{τ:Ty}{b e n:Nat}{v z:Value}{l:List Value}{ys:List τ.den}(hT:ag c.E.ty T=some (.slice τ,b,e))(dA:w.ownsRow base e τ.size v n l)
  (IC:base<=w.heap.size) (eN:Src w S τ ys z) (yy:bB (n+ys.length) b) (ty:TypeId) :
  ∃ v' w' news,(Builtin.append_ #[T,T] ty #[v,z]).run c.P w = .ok v' w'/\w'.ownsRow base e τ.size v' (n+ys.length) (l++news)/\w.grownBy w' v.ownBlock/\(v'.ownBlock=v.ownBlock\/v'.ownBlock=some w.heap.size) /\
   cZ w S (ys.map τ.aI) news/\n+ys.length<=140737488355328:=by
 obtain⟨k1,⟨b',e',k2⟩,i,zv,k3,k4,k5,k6,k7⟩:=hE.slice hT;have IK:zv.cells.size=τ.size:=by
  have:=Rd.length _ (HZ (w:=w) (S:=S) k7);rwa [Ty.cm,a8q] at this
 have Bh:=τ.size_pos;have OM:(n+ys.length) * b<=140737488355328/\n+ys.length<=140737488355328:=by
  unfold bB at yy;rw[Nat.mul_add,Nat.mul_one] at yy;omega
 have G5:n+ys.length<=maxLen:=by simp only[maxLen];omega
 obtain⟨ad,cap,h1,h4⟩:=eN;subst h1;by_cases hy:ys=[]
 .subst hy;simp only[a7T,a9u] at *
  cases ad with
  | none =>
   refine⟨v,w,[],?_,by simpa using dA,⟨rfl,rfl,rfl,Nat.le_refl _,λ _ _ _=>rfl⟩, .inl rfl,rfl,OM.2⟩;rcases dA.2 with ⟨rfl,rfl⟩|⟨g,Mj,cur,rfl,_,_,OL,_⟩
   .simp[Builtin.append_,a8k k1,sizeOf,typeInfo,k3,Builtin.lenOf,Builtin.firstCells]
   .simp[Builtin.append_,a8k k1,sizeOf,typeInfo,k3,Builtin.lenOf,Builtin.firstCells,OL,storeCells]
  | some ad =>
   obtain⟨v',w',m1,m2,m3,_,m5⟩:=run_append_own_at (P:=c.P) w base T ty e i zv τ.size b k1 k3 k6 k4 k5 IK Bh v n l dA ad 0 cap [] (by simp) (by simp) (by simp) G5 OM.1 IC;exact⟨v',w',[],m1,m2,m3,m5,rfl,OM.2⟩
 .rcases h4 with h4|⟨bk,o',news,rfl,h8,h7⟩
  .exact absurd h4 hy
  .skip;have hlen:news.length=ys.length * τ.size:=by
    have:=cZ.length (n:=τ.size) _ h7 (by
     intro d hd;obtain⟨y,_,rfl⟩:=a7B.1 hd;exact Ty.cm τ y)
    simpa using this
   obtain⟨v',w',m1,m2,m3,_,m5⟩:=run_append_own_at (P:=c.P) w base T ty e i zv τ.size b k1 k3 k6 k4 k5 IK Bh v n l dA ⟨bk,o',none⟩ ys.length cap news hlen (λ j u hj=>by rw[a9L];exact h8 j u hj) (cZ.jb h7) G5 OM.1 IC;exact⟨v',w',news,m1,m2,m3,m5,h7,OM.2⟩
theorem Mf{ev:Operand->AV}(cw:∀ x,VR c G lk w (ev x) (a.eval x)){d l:Int}{lo:Option Operand}(h:mO d (lo.map ev)=some l):(lo=none/\l=d)\/∃ k,lo.map a.eval=some (.int k l):=by
 cases lo with
 | none =>
  simp only[b0z,mO,a7v] at h;exact .inl ⟨rfl,h.symm⟩
 | some x =>
  simp only[a9R,mO] at h;split at h
  .rename_i hn;cases hn
  .rename_i k n hn;simp only[a7v] at h hn;subst h;have hx:=cw x;rw[hn] at hx;obtain⟨hx,_⟩:=hx;simp only[a7A,a7W] at hx;exact .inr ⟨k,by simp[hx]⟩
  .cases h
theorem JS{ev:Operand->AV}(cw:∀ x,VR c G lk w (ev x) (a.eval x)){l h:Int}{len cap:Nat}{lo hi:Option Operand}(sl:Bool)(hl:mO 0 (lo.map ev)=some l)(hh:mO (len:Int) (hi.map ev)=some h)
  (hc:iE l h len) (Bd:len<=cap) (P:Program) (w':World):(Instr.sliceBounds sl len cap (lo.map a.eval) (hi.map a.eval) none).run P w' = .ok (l.toNat,h.toNat,cap) w':=by
 obtain⟨h0,h1,h2⟩:=hc;have e1:(h.toNat:Int)=h:=Int.toNat_of_nonneg (by omega);rcases Mf cw hl with ⟨rfl,rfl⟩|⟨k,hk⟩<;>rcases Mf cw hh with ⟨rfl,rfl⟩|⟨k',fg⟩
 .simp[Instr.sliceBounds]
 .simp[Instr.sliceBounds,fg,b1s,show 0<=h from by omega,show h<=(cap:Int) from by omega]
 .simp[Instr.sliceBounds,hk,b1s,h0,h1]
 .simp[Instr.sliceBounds,hk,fg,b1s,h0,h1,show 0<=h from by omega,show h<=(cap:Int) from by omega,e1]
theorem Kb{n m:Int}{b:Nat}(h:cN n m b):0<=n/\n<=m/\m<=140737488355328/\(b:Int) * m<=140737488355328:=by
 obtain⟨h1,h2,h3⟩:=h;have e:m * ((b:Int)+1)=m * b+m:=by rw[Int.mul_add,Int.mul_one]
 have p:0<=m * (b:Int):=Int.mul_nonneg (by omega) (by omega);have q:(b:Int) * m=m * b:=Int.mul_comm _ _;exact⟨h1,h2,by omega,by omega⟩
theorem Xj(hE:bo c.P c.E){T:TypeId}{τ:Ty}{b e:Nat}(hT:ag c.E.ty T=some (.slice τ,b,e)){n m:Int}(h:cN n m b)(w:World)
  (bU:∀ w',bJ (λ _=>False) w w'->∀ b,G.S b->w'.heap[b]?=w.heap[b]?) :
  ∃ cap cs,(Instr.makeSlice T (.int .i64 n) (.int .i64 m)).run c.P w = .ok (.slice (some ⟨w.heap.size,0,none⟩) n.toNat cap) (w.alloc (.cells cs e)) /\
   Vy c G lk (w.alloc (.cells cs e)) (.slice (some ⟨w.heap.size,0,none⟩) n.toNat cap) (.row e τ (List.replicate n.toNat τ.zero)):=by
 obtain⟨v1,v2,v3,v4⟩:=Kb h;obtain⟨h1,_,i,z,h3,h4,h5,h6,h7⟩:=hE.slice hT;have Xe:=HZ (w:=w) (S:=G.S) h7;have Xd:=Rd.length _ Xe;rw[Ty.cm,a8q] at Xd;have hr:=run_make (P:=c.P) w T e i z h1 h3 h6 .i64 .i64 n m v1 v2 (by rw[h5];omega) (by omega);refine⟨m.toNat,madeCells z.cells (m.toNat * i.size),hr,(madeCells z.cells (n.toNat * z.cells.size)).toList,?_,?_,by simp;omega⟩
 .refine⟨by simp[madeCells,Xd], .inr ⟨w.heap.size,m.toNat,madeCells z.cells (m.toNat * i.size),by simp,a8r _,a8Q w _,by simp;omega,by simp only[maxLen];omega,by simp[size_madeCells,h4],?_⟩⟩;rw[h4,Xd,List.length_replicate];exact zF _ _ _ (a9f _ (by omega))
 .rw[b1L];exact cZ.aK (λ _ h=>h) (bU _ (fj w _)) _ (DI Xe n.toNat)
theorem bo.map(hE:bo c.P c.E){T:TypeId}{κ ε:Ty}(h:ag c.E.Hj T=some (κ,ε))(w:World) :
  ∃ kT eT,c.P.underlying T=some (.map kT eT)/\FG c.P kT κ/\κ.DG=true/\ε.key=true/\∃ z,(zeroValue eT).run c.P w = .ok z w/\mH ε ε.zero z:=by
 have:=hE.Hj T κ ε h;unfold Nx at this;split at this
 .rename_i k e hu;split at this
  .rename_i κ' r ε' r' hk he;simp only[a7H,a7D] at this;obtain⟨rfl,rfl,h3,h4,Xa⟩:=this;obtain⟨i,z,k1,k2,k3,k4⟩:=(hE.info he).ex;have hz:=HZ (w:=w) (S:=λ _=>False) k4;refine⟨k,e,hu,?_,h3,h4,z,by simp[zeroValue,typeInfo,k1,k3],?_⟩
   .obtain⟨b,e'⟩:=r;cases κ' with
    | int q=>exact⟨Go.Maps.int_keyed (hE.int hk),λ x v h=>by
      obtain⟨h1,h2⟩:=h w (λ _=>False);simp only[List.cons.injEq,and_true] at h1;subst h1;exact⟨_,Go.Maps.keyOf_int_mk (hE.int hk) (by simpa [Lit.wf] using h2)⟩⟩
    | bool=>exact⟨Go.Maps.bool_keyed (hE.bool hk),λ x v h=>by
      have h1:=h w (λ _=>False);simp only[Ty.aI,Rd,a7A,a7W] at h1;subst h1;exact⟨_,Go.Maps.keyOf_bool_mk (hE.bool hk) _⟩⟩
    | str=>exact FG.str (hE.str hk) w
    | st s =>
     simp only[Ty.DG,a7H,a7D] at h3;obtain⟨e1,n1,n2⟩:=hE.arr hk h3.1;rw[h3.2.2] at n1 n2;obtain⟨b2,e2,n3⟩:=n2 (.int .i64) (by simp);obtain⟨i1,z1,i2,i3,_⟩:=(hE.info n3).ex;obtain⟨i4,z4,i5,i6,_⟩:=(hE.info hk).ex;have hA:Go.WideMaps.ArrKey c.P k e1 2:=⟨n1,by simp[Program.plainKey,hE.int n3],by simp[Program.cellsOf,i2,i3,Ty.size],by
      have:s.size=2:=by rw[<-aJ.fv s s.zero,<-a8n (f:=TV.τ),aJ.iD,h3.2.1];rfl
      simp[Program.cellsOf,i5,i6,Ty.size,this]⟩
     refine⟨Go.Maps.Keyed.of_law hA.law,λ x v h=>?_⟩;obtain⟨a,b,_,rfl,ha,hb⟩:=h;refine⟨_,Go.WideMaps.keyOf_pair hA (hE.int n3) ?_ (by simpa [Lit.wf] using (show IntKind.i64.min<=a/\a<=IntKind.i64.max from ha)) (by simpa [Lit.wf] using (show IntKind.i64.min<=b/\b<=IntKind.i64.max from hb))⟩;have:0<c.P.types.size:=by simpa [Nat.blt_eq] using Xa
     exact⟨c.P.types.size - 1,by omega⟩
    | _=>cases h3
   .have hc:z.cells.toList=[z]:=by
     cases ε'<;>cases z<;>first|rfl|(cases h4;done)|(simp[vJ,tS] at k4;done)
    rw[hc] at hz;exact mH.of h4 hz
  .cases this
 .cases this
theorem Fq(hE:bo c.P c.E)(hI:bf c G sl n lk a w){lk':Nat->Option aw}(bP:∀ id o,lk' id=some o->lk id=some o){ev:Operand->AV}(cw:∀ x,VR c G lk w (ev x) (a.eval x))
  {o:Oper} {vc:Vc} {v:AV} {ob:Option aw} (hq:Fp c.E lk' ev o=some (vc,v,ob)) (dO:vc.ok) {Q:Exit->Act->World->Prop} :
  o.wp c.P a w (uj c G sl n lk o.dst a w v ob) Q:=by
 unfold Fp at hq;split at hq;case h_1 x bh =>
  simp only[a7v,a7x] at hq;obtain⟨rfl,rfl,rfl⟩:=hq;exact bV hI (by simp[execOp,bh]) (cw x)
 case h_2 x bh =>
  simp only[a7v,a7x] at hq;obtain⟨rfl,rfl,rfl⟩:=hq;exact bV hI (by simp[execOp,bh]) (cw x)
 case h_3 cc x y bh =>
  split at hq
  .rename_i hc;simp only[a7v,a7x] at hq;obtain⟨rfl,rfl,rfl⟩:=hq;have h1:=cw cc;rw[hc] at h1;have h1:[a.eval cc]=[.bool true]:=h1;simp only[a7A,a7W] at h1;exact bV hI (by simp[execOp,bh,h1,asBool]) (cw x)
  .rename_i hc;simp only[a7v,a7x] at hq;obtain⟨rfl,rfl,rfl⟩:=hq;have h1:=cw cc;rw[hc] at h1;have h1:[a.eval cc]=[.bool false]:=h1;simp only[a7A,a7W] at h1;exact bV hI (by simp[execOp,bh,h1,asBool]) (cw y)
  .cases hq
 case h_4 T bh =>
  split at hq
  .rename_i d τ r hd hT;simp only[a7v,a7x] at hq;obtain⟨rfl,rfl,rfl⟩:=hq;obtain⟨i,z,h1,h2,h3,h4⟩:=(hE.info hT).ex;refine rD hI (x := .pointer (some ⟨w.heap.size,0,none⟩)) (w':=w.alloc (.cells z.cells T)) ?_ (hI.alloc _) ⟨d,hd,rfl⟩ ?_ ?_
   .simp[execOp,bh,Instr.alloc,zeroValue,typeInfo,h1,h3,newVar,newRow]
   .exact⟨_,z.cells.toList,T,rfl,by simpa using heap_alloc_new w _,gd h4⟩
   .intro b hb;simp only[dx,a7v] at hb;subst hb;simp
  .cases hq
 case h_5 T x bh =>
  split at hq
  .rename_i d τ r hd hT;split at hq
   .split at hq
    .rename_i y hy;simp only[a7v,a7x] at hq;obtain⟨rfl,rfl,rfl⟩:=hq;have eN:=du.cells (wB (c:=c) (G:=G) (lk:=lk) hy (cw x));have hk:=fj w (.cells (a.eval x).cells T);have bW:(w.alloc (.cells (a.eval x).cells T)).heap.size=w.heap.size+1:=by simp
     have tZ:=hI.grow (S':=λ b=>G.S b\/b=w.heap.size) hk (λ b hb=>⟨λ h=>h.elim id λ e=>by omega, .inl⟩) (λ b hb=>by
      rcases hb with hb|hb
      .have:=hI.dy b hb;omega
      .omega)
     have cC:(execOp a.eval o).run c.P w = .ok (.value (.pointer (some ⟨w.heap.size,0,none⟩))) (w.alloc (.cells (a.eval x).cells T)):=by
      simp[execOp,bh,Instr.box,newVar,newRow]
     unfold Oper.wp;rw[cC];refine⟨_,_,rfl,tZ,?_⟩;refine⟨w.heap.size,0,(a.eval x).cells.toList,rfl, .inl (.inr rfl),?_,Rd.aK (λ _ h => .inl h) (λ b hb=>hk.block b (hI.dy b hb) λ h=>h) _ eN⟩;have:=heap_alloc_new w (.cells (a.eval x).cells T);exact AN (p:=[]) (c:=(a.eval x).cells.toList) (r:=[]) (by simpa using this)
    .cases hq
   .split at hq
    .rename_i cs ij;simp only[a7v,a7x] at hq;obtain⟨rfl,rfl,rfl⟩:=hq;obtain⟨h1,_,_⟩:=vN ij (cw x);refine rD hI (x := .pointer (some ⟨w.heap.size,0,none⟩)) (w':=w.alloc (.cells (a.eval x).cells T)) ?_ (hI.alloc _) ⟨d,hd,rfl⟩ ?_ ?_
     .simp[execOp,bh,Instr.box,newVar,newRow]
     .exact⟨_,(a.eval x).cells.toList,T,rfl,by simpa using heap_alloc_new w _,h1.imp λ u y _ hy=>hI.a3n (fj w _) hy⟩
     .intro b hb;simp only[dx,a7v] at hb;subst hb;simp
    .cases hq
  .cases hq
 case h_6 T parts bh =>
  split at hq
  .rename_i s r hT;split at hq
   .rename_i cs ij;simp only[a7v,a7x] at hq;obtain⟨rfl,rfl,rfl⟩:=hq;obtain⟨i,z,h1,h2,h3,h4⟩:=(hE.info hT).ex;cases VV:s.arr with
    | true =>
     obtain⟨e',h5,fT⟩:=hE.arr hT VV;have Q2:∀ i t,s.dr[i]?=some t->(λ j=>some (j * c.P.cellsOf e',c.P.cellsOf e')) i=some (s.dB i,t.size):=by
      intro i t hi;obtain⟨e1,k1,⟨b',e2,k2⟩,k3⟩:=hE.Qj hT VV hi;rw[h5] at k1;simp only[a7v,b1w,a8Y] at k1;subst k1;obtain⟨i',_,jy,bW,_⟩:=(hE.info k2).ex;simp[k3,Program.cellsOf,jy,bW]
     obtain⟨l',h8,h9⟩:=wm (c:=c) (G:=G) (lk:=lk) (w:=w) Q2 ij (aM.xH cw _) (gd h4);have hb:c.P.built T ((parts.map λ (i,x)=>(i,a.eval x)).toList)=some l'.toArray:=by
      unfold Program.built;rw[h1,h5];have Bh:0<s.dr.length:=by
       revert VV;cases s<;>first|(intro h;cases h;done)|(intro _;decide)
      obtain⟨b2,e2,k2⟩:=fT _ (a9l Bh);obtain⟨i',_,jy,_,_⟩:=(hE.info k2).ex;simp only[h3,jy];rw[<-h8];have:c.P.cellsOf e'=i'.size:=by simp[Program.cellsOf,jy]
      rw[this];congr 1;simp
     refine bV hI (x := .agg l'.toArray) ?_ ⟨l',rfl,h9⟩;simp[execOp,bh,run_build w T _ _ hb]
    | false =>
    obtain⟨fs,h5,h6,h7⟩:=hE.st hT VV;have MZ:fs.toList.mapM (λ f=>(c.P.info? f.type).map λ i=>(f.offset,i.size))=some (fs.toList.map λ f=>(f.offset,c.P.cellsOf f.type)):=by
     have:∀ l:List Field,(∀ f∈l,∃ i,c.P.info? f.type=some i)->l.mapM (λ f=>(c.P.info? f.type).map λ i=>(f.offset,i.size))=some (l.map λ f=>(f.offset,c.P.cellsOf f.type)):=by
      intro l;induction l with
      | nil=>intro _;rfl
      | cons f l ih =>
       intro hl;obtain⟨i,hi⟩:=hl f (by simp);simp[a9K,hi,ih λ f hf=>hl f (by simp[hf]),Program.cellsOf]
     refine this _ λ f hf=>?_;obtain⟨j,hj,hjf⟩:=List.getElem_of_mem hf;obtain⟨t,b,e,_,k2,_⟩:=h7 j f (by rw[Array.getElem?_eq_getElem (by simpa using hj)];simpa using hjf);obtain⟨i,_,hi,_⟩:=(hE.info k2).ex;exact⟨i,hi⟩
    have Q2:∀ i t,s.dr[i]?=some t->(fs.toList.map λ f=>(f.offset,c.P.cellsOf f.type)).toArray[i]?=some (s.dB i,t.size):=by
     intro i t hi;have bp:i<fs.size:=by have:=(a7R.1 hi).1;omega
     obtain⟨t',b,e,k1,k2,k3⟩:=h7 i fs[i] (a8u bp);rw[hi] at k1;simp only[a7v] at k1;subst k1;obtain⟨i',_,jy,bW,_⟩:=(hE.info k2).ex;simp[bp,k3,Program.cellsOf,jy,bW]
    obtain⟨l',h8,h9⟩:=wm (c:=c) (G:=G) (lk:=lk) (w:=w) Q2 ij (aM.xH cw _) (gd h4);have hb:c.P.built T ((parts.map λ (i,x)=>(i,a.eval x)).toList)=some l'.toArray:=by
     unfold Program.built;rw[h1,h5];simp only[h3,MZ];rw[<-h8];congr 1;simp
    refine bV hI (x := .agg l'.toArray) ?_ ⟨l',rfl,h9⟩;simp[execOp,bh,run_build w T _ _ hb]
   .cases hq
  .cases hq
 case h_7 T len parts bh =>
  split at hq
  .rename_i d τ b e hd hT;split at hq
   .rename_i hlen;split at hq
    .rename_i xs jJ;simp only[a7H] at hlen;have QY:=a7w hlen.1;have hl2:=a8w hlen.2;subst QY;obtain⟨h1,⟨b',e',h2⟩,i,z,h3,h4,h5,h6,h7⟩:=hE.slice hT;have Bh:=τ.size_pos;have G5:τ.size<=100:=Ty.size_le τ;have a5C:parts.size * τ.size<=16777216:=a8M (Nat.mul_le_mul hl2 G5) (by decide);obtain⟨r,h8,h9⟩:=Du (c:=c) (G:=G) (lk:=lk) (w:=w) (τ:=τ) (place:=λ i=>some (i * τ.size,τ.size)) (λ _=>rfl) (l:=((Array.range (parts.size * τ.size)).map (λ j=>((if parts.size * τ.size=0 then #[] else z.cells:Array Value)[j % (if parts.size * τ.size=0 then #[] else z.cells:Array Value).size]!))).toList) jJ (aM.xH cw _) (by simp);have qk:=y7 jJ;simp only[a8n,a8q] at qk;have bW:∀ d∈xs.map τ.aI,d.size=τ.size:=by
      intro d hd;obtain⟨y,_,rfl⟩:=a7B.1 hd;exact Ty.cm τ y
     have Zg:=cZ.length _ h9 bW;simp only[a8n,qk] at Zg;simp only[b0x,a9z,a8l,a8v] at h8;have cC:(execOp a.eval o).run c.P w = .ok (.value (.slice (some ⟨w.heap.size,0,none⟩) parts.size parts.size)) (w.alloc (.cells r.toArray e)):=by
      have e2:(parts.map λ (i,x)=>(i,a.eval x)).toList=parts.toList.map λ p=>(p.1,a.eval p.2):=by simp
      have gZ:¬ (parts.size * τ.size>2 ^ 24):=by omega
      simp only[execOp,bh,Instr.buildSlice,a7U,a8k h1,a7N,hE.sizeOf h2,a7z gZ,a7S];by_cases h0:parts.size * τ.size=0
      .simp only[h0,a9o,a7U,a7S,a7N,e2] at h8 ⊢;rw[h8];simp[newRow]
      .simp only[h0,b0l,a7U,zeroValue,typeInfo,run_program,a7N,h3,h6,a7S,e2] at h8 ⊢;rw[h8];simp[newRow]
     have ho:(w.alloc (.cells r.toArray e)).ownsRow 0 e τ.size (.slice (some ⟨w.heap.size,0,none⟩) parts.size parts.size) xs.length r:=by
      rw[qk];have:=World.ownsRow_lit (base:=0) (e:=e) (size:=τ.size) w r.toArray parts.size (Nat.zero_le _) (by simp only[maxLen];omega) (by simpa using Zg);simpa using this
     have eN:=cZ.aK (λ _ h=>h) (λ b hb=>hI.RM (fj w (.cells r.toArray e)) b (.inl hb)) _ h9;have gv:∀ b,dx (.slice (some ⟨w.heap.size,0,none⟩) parts.size parts.size)=some b->w.heap.size<=b/\b<(w.alloc (.cells r.toArray e)).heap.size:=by
      intro b hb;simp only[dx,a7v] at hb;subst hb;simp
     split at hq
     .simp only[a7v,a7x] at hq;obtain⟨rfl,rfl,rfl⟩:=hq;exact WL hI cC (fj w _) ho eN (by omega) gv
     .simp only[a7v,a7x] at hq;obtain⟨rfl,rfl,rfl⟩:=hq;exact rD hI cC (hI.alloc _) ⟨d,hd,rfl⟩ ⟨r,ho,eN,by omega⟩ gv
    .cases hq
   .cases hq
  .cases hq
 case h_8 T ad bh =>
  split at hq
  .rename_i τ r hT;split at hq
   .rename_i u hu;simp only[a7v,a7x] at hq;obtain⟨rfl,rfl,rfl⟩:=hq;obtain⟨b,o',cs,h1,h2,h3,h4⟩:=nk hI.aH bP hu (cw ad);refine bV hI ?_ h4;simp only[execOp,bh,h1,a7U,gD hE hT h2 h3,a7N,a7S]
   .cases hq
  .cases hq
 case h_9 x bh =>
  have key:∀ u,ev x=u->(∃ b o,a.eval x = .pointer (some ⟨b,o,none⟩))->vc = .none->v=u->ob=none->o.wp c.P a w (uj c G sl n lk o.dst a w v ob) Q:=by
   rintro u hu ⟨b,o',hx⟩ _ rfl rfl;refine bV hI (x:=a.eval x) ?_ (hu ▸ cw x);simp only[execOp,bh,hx,a7S]
  have hx:=cw x;split at hq
  .rename_i u hu;simp only[a7v,a7x] at hq;rw[hu] at hx;obtain⟨b,o',cs,h1,_⟩:=hx;exact key _ hu ⟨b,o',h1⟩ hq.1.symm hq.2.1.symm hq.2.2.symm
  .rename_i id off hu;simp only[a7v,a7x] at hq;rw[hu] at hx;obtain⟨b,_,h1,_⟩:=hx;exact key _ hu ⟨b,off,h1⟩ hq.1.symm hq.2.1.symm hq.2.2.symm
  .rename_i id i off hu;simp only[a7v,a7x] at hq;rw[hu] at hx;obtain⟨b,_,_,_,_,_,_,_,_,h1⟩:=hx;exact key _ hu ⟨b,_,h1⟩ hq.1.symm hq.2.1.symm hq.2.2.symm
  .cases hq
 case h_10 T x i bh =>
  split at hq
  .rename_i s r hT;split at hq
   .cases hq
   .rename_i ha;split at hq
    .rename_i u hu;simp only[a7v,a7x] at hq;obtain⟨rfl,rfl,rfl⟩:=hq;obtain⟨b,o',h1,bp,h2⟩:=oK hu (cw x);refine bV hI (x := .pointer (some ⟨b,o'+s.dB i,none⟩)) ?_ h2;simp only[execOp,bh,h1,a7U,yK hE hT ha bp,a7N,a7S]
    .cases hq
  .cases hq
 case h_11 T x i bh =>
  split at hq
  .rename_i s r hT;split at hq
   .cases hq
   .rename_i ha;split at hq
    .rename_i u hu;simp only[a7v,a7x] at hq;obtain⟨rfl,rfl,rfl⟩:=hq;obtain⟨cs,τ,h1,ei,h5,h3⟩:=Gx hu (cw x);refine bV hI (x:=xy τ ((cs.drop (s.dB i)).take τ.size)) ?_ h3;simp only[execOp,bh,h1,a7U,Vi hE hT ha ei h5,a7N,a7S]
    .cases hq
  .cases hq
 case h_12 T x ix bh =>
  split at hq
  .rename_i τ r hT;split at hq
   .rename_i k i hi;have fW:=cw ix;rw[hi] at fW;obtain⟨fW,_⟩:=fW;simp only[a7A,a7W] at fW;have hx:=cw x;split at hq
    .rename_i u hu;rw[hu] at hx;split at hq
     .rename_i xs jJ;have e:=TV.aR jJ;subst e;simp only[a7v,a7x] at hq;obtain⟨rfl,rfl,rfl⟩:=hq;obtain⟨h0,h1⟩:=dO;obtain⟨ad,cap,h2,h3,h4,h5⟩:=iy hx;rcases h5 with h5|⟨b,o',h5,h6,h7⟩
      .subst h5;simp only[a7T] at h1;omega
      .subst h5;have bp:i.toNat<xs.length:=by omega
       obtain⟨cs,m1,m2,m3⟩:=cR.at_ (n:=τ.size) _ b o' h7 (by
        intro d hd;obtain⟨y,_,rfl⟩:=a7B.1 hd;exact Ty.cm τ y) i.toNat (τ.aI (xs.getD i.toNat τ.zero)) (by simp[List.getD,bp])
       refine bV hI (x := .pointer (some ⟨b,o'+i.toNat * τ.size,none⟩)) ?_ ⟨b,_,cs,rfl, .inl h6,m3,m2⟩;simp only[execOp,bh,h2,fW,a7U,nu hE hT h0 h1,a7N,a7S]
     .cases hq
    .rename_i id hu;rw[hu] at hx;split at hq
     .rename_i e' aT xs hl;split at hq
      .rename_i ei;have ei:=a7Z ei;subst ei;simp only[a7v,a7x] at hq;obtain⟨rfl,rfl,rfl⟩:=hq;obtain⟨h0,h1⟩:=dO;obtain⟨h2,_,_⟩:=hx;have mg:=bP _ _ hl;obtain⟨l,m1,_,_⟩:=hI.aH _ _ mg;have bp:i.toNat<xs.length:=by omega
       rcases m1.2 with ⟨_,hn⟩|⟨g,cap,cur,hv,_⟩
       .omega
       .refine bV hI (x := .pointer (some ⟨g,0+i.toNat * aT.size,none⟩)) ?_ ⟨g,_,cap,e',aT,xs,hv,mg,bp,by simp⟩;simp only[execOp,bh,h2,hv,fW,a7U,nu hE hT h0 h1,a7N,a7S]
      .cases hq
     .cases hq
    .cases hq
   .cases hq
  .rename_i n r hT;split at hq
   .rename_i k i ha hi;have fW:=cw ix;rw[hi] at fW;obtain⟨fW,_⟩:=fW;simp only[a7A,a7W] at fW;split at hq
    .rename_i u hu;simp only[a7v,a7x] at hq;obtain⟨rfl,rfl,rfl⟩:=hq;obtain⟨b,o',h1,bp,h2⟩:=oK hu (cw x);refine bV hI (x := .pointer (some ⟨b,o'+n.dB i,none⟩)) ?_ h2;simp only[execOp,bh,h1,fW,a7U,N0 hE hT ha bp,a7N,a7S]
    .cases hq
   .cases hq
  .cases hq
 case h_13 T x ix bh =>
  split at hq
  .rename_i r hT;split at hq
   .rename_i k i hi;have fW:=cw ix;rw[hi] at fW;obtain⟨fW,_⟩:=fW;simp only[a7A,a7W] at fW;have hx:=cw x;split at hq
    .rename_i xs hu;rw[hu] at hx;simp only[Option.some.injEq,Prod.mk.injEq] at hq;obtain⟨rfl,rfl,rfl⟩:=hq;obtain⟨s,h1,h2,h3⟩:=hx;simp only[List.cons.injEq,and_true] at h1;subst h2;have bW:s.data.toList.length=s.size:=Array.length_toList;have dO:aE i s.data.toList.length:=dO;unfold aE at dO;rw[bW] at dO;have bp:Int.toNat i<s.size:=by omega
     have he:s.data.toList.getD (Int.toNat i) 0=s[Int.toNat i]'bp:=by
      have h5:Int.toNat i<s.data.size:=bp;rw[List.getD_eq_getElem?_getD,List.getElem?_eq_getElem (by simpa using h5)];rfl
     have hr:(execOp a.eval o).run c.P w = .ok (.value (.int .u8 (s[Int.toNat i]'bp).toNat)) w:=by
      simp only[execOp,bh,h1,fW,a7U,run_index_string w T s k i (hE.str hT)];rw[dif_pos dO];rfl
     refine bV hI hr ⟨by rw[he],?_⟩;have:=(s.data.toList.getD (Int.toNat i) 0).toNat_lt;exact⟨b1K _,by simp only[IntKind.max,IntKind.signed,IntKind.bits,a8j,b0l];omega⟩
    .cases hq
   .cases hq
  .rename_i n r hT;split at hq
   .rename_i k i ha hi;have fW:=cw ix;rw[hi] at fW;obtain⟨fW,_⟩:=fW;simp only[a7A,a7W] at fW;split at hq
    .rename_i u hu;simp only[a7v,a7x] at hq;obtain⟨rfl,rfl,rfl⟩:=hq;obtain⟨cs,τ,h1,ei,h5,h3⟩:=Gx hu (cw x);refine bV hI (x:=xy τ ((cs.drop (n.dB i)).take τ.size)) ?_ h3;simp only[execOp,bh,h1,fW,a7U,a0b hE hT ha ei h5,a7N,a7S]
    .cases hq
   .cases hq
  .cases hq
 case h_14 op T x y yt bh =>
  split at hq
  .rename_i p u hu;simp only[a7v,a7x] at hq;obtain⟨rfl,rfl,rfl⟩:=hq;obtain⟨z,h1,h2⟩:=SV hE x y hu dO (cw x) (cw y);refine bV hI ?_ h2;simp only[execOp,bh];rw[a7U,h1];rfl
  .split at hq
   .rename_i p u hu;simp only[a7v,a7x] at hq;obtain⟨rfl,rfl,rfl⟩:=hq;obtain⟨z,h1,h2⟩:=T4 hE x y hu dO (cw x) (cw y);refine bV hI ?_ h2;simp only[execOp,bh];rw[a7U,h1];rfl
   .cases hq
 case h_15 op xt x bh =>
  split at hq
  .rename_i b hb;simp only[a7v,a7x] at hq;obtain⟨rfl,rfl,rfl⟩:=hq;have hx:=cw x;rw[hb] at hx;have hx:[a.eval x]=[.bool b]:=hx;simp only[a7A,a7W] at hx;exact bV hI (x := .bool !b) (by simp[execOp,bh,hx,Op.unary]) rfl
  .rename_i k i hb;simp only[a7v,a7x] at hq;obtain⟨rfl,rfl,rfl⟩:=hq;have hx:=cw x;rw[hb] at hx;obtain⟨hx,_⟩:=hx;simp only[a7A,a7W] at hx;have hr:=dL dO;have h0:(0:Int) - i = -i:=Int.zero_sub _;exact bV hI (x := .int k (-i)) (by simp[execOp,bh,hx,Op.unary,Op.intArith,h0,py hr]) ⟨rfl,hr⟩
  .cases hq
 case h_16 src dst x bh =>
  split at hq
  .rename_i k1 r1 k2 r2 hs hd;split at hq
   .rename_i k3 i sR;simp only[a7v,a7x] at hq;obtain⟨rfl,rfl,rfl⟩:=hq;have hx:=cw x;rw[sR] at hx;obtain⟨hx,_⟩:=hx;simp only[a7A,a7W] at hx;have hr:=dL dO;refine bV hI (x := .int k2 i) ?_ ⟨rfl,hr⟩;simp[execOp,bh,hx,convert,a8k (hE.int hs),a8k (hE.int hd),Conv.intToInt,py hr]
   .cases hq
  .cases hq
 case h_18 t i bh =>
  split at hq
  .rename_i vs ht;split at hq
   .rename_i u hu;simp only[a7v,a7x] at hq;obtain⟨rfl,rfl,rfl⟩:=hq;have hx:=cw t;rw[ht] at hx;obtain⟨l,h1,h2⟩:=hx;obtain⟨z,h3,h4⟩:=h2.at_ i u hu;refine bV hI (x:=z) ?_ ?_
    .simp[execOp,bh,Instr.extract,h1,h3]
    .cases u<;>first|exact h4|exact h4.elim|trivial
   .cases hq
  .cases hq
 case h_19 T l cc bh =>
  split at hq
  .rename_i d τ b e hd hT;split at hq
   .rename_i m m' hm hm';simp only[a7v,a7x] at hq;obtain⟨rfl,rfl,rfl⟩:=hq;have hl:=cw l;have hc:=cw cc;rw[hm] at hl;rw[hm'] at hc;obtain⟨hl,_⟩:=hl;obtain⟨hc,_⟩:=hc;simp only[a7A,a7W] at hl hc;obtain⟨cap,cs,h1,h2⟩:=Xj (c:=c) (G:=G) (lk:=lk) hE hT dO w (λ w' hk b hb=>hI.RM hk b (.inl hb));refine rD hI ?_ (hI.alloc _) ⟨d,hd,rfl⟩ h2 ?_
    .simp only[execOp,bh,hl,hc,a7U,h1,a7N,a7S]
    .intro b hb;simp only[dx,a7v] at hb;subst hb;simp
   .cases hq
  .cases hq
 case h_17 T x lo hi mx bh =>
  split at hq
  .rename_i τ r hT;have hx:=cw x;split at hq
   .rename_i u hu;rw[hu] at hx;split at hq
    .rename_i xs jJ;have e:=TV.aR jJ;subst e;split at hq
     .rename_i l h hl hh;simp only[a7v,a7x] at hq;obtain⟨rfl,rfl,rfl⟩:=hq;obtain⟨ad,cap,h2,h3,h4,h5⟩:=iy hx;obtain⟨k1,⟨b',e',k2⟩,_⟩:=hE.slice hT;have hb:=JS cw true hl hh dO h3 c.P w;obtain⟨v0,v1,v2⟩:=dO;have cC:(execOp a.eval o).run c.P w = .ok (.value (.slice (if cap=l.toNat then ad else ad.map (·.add (l.toNat * τ.size))) (h.toNat - l.toNat) (cap - l.toNat))) w:=by
       simp only[execOp,bh,h2,Instr.sliceAt,a7U,a8k k1,a7N,Instr.slice,b0z,hb,hE.sizeOf k2,a7S]
      refine bV hI cC ?_;have hlen:((xs.take h.toNat).drop l.toNat).length=h.toNat - l.toNat:=by
       rw[a8J,a8D];omega
      refine Xx hlen (by omega) ?_ (by omega) ?_
      .have:=hx;obtain⟨ad',Mj,m1,m2,m3,_⟩:=this;rw[h2] at m1;simp only[a7A,a9k,a7W] at m1;obtain⟨_,_,rfl⟩:=m1;omega
      .rcases a8m l.toNat h.toNat with bp|QX
       .right;rcases h5 with h5|⟨b,o',rfl,h6,h7⟩
        .subst h5;simp only[a7T] at v2;omega
        .refine⟨b,o'+l.toNat * τ.size,?_,h6,?_⟩
         .rw[a7z (by omega)];simp[a9L]
         .rw[List.map_drop,List.map_take];refine cR.Yp _ _ _ _ (cR.a0A _ _ _ _ h7) ?_;intro d hd;obtain⟨y,_,rfl⟩:=a7B.1 (List.mem_of_mem_take hd);exact Ty.cm τ y
       .left;exact a8G (by omega)
     .cases hq
    .cases hq
   .cases hq
  .rename_i r hT;have hx:=cw x;split at hq
   .rename_i xs hu;rw[hu] at hx;split at hq
    .rename_i l h hl hh;simp only[a7v,a7x] at hq;obtain⟨rfl,rfl,rfl⟩:=hq;obtain⟨s,h1,h2,h3⟩:=hx;simp only[a7A,a7W] at h1;subst h2;have bW:s.data.toList.length=s.size:=a8q;rw[bW] at dO hh;have hb:=JS cw false hl hh dO (a7P _) c.P w;obtain⟨v0,v1,v2⟩:=dO;refine bV hI (x := .string (s.extract l.toNat h.toNat)) ?_ ⟨_,rfl,?_,?_⟩
     .have gZ:¬ ((none:Option Value).isSome=true):=by simp
      simp only[execOp,bh,h1,Instr.sliceAt,a7U,a8k (hE.str hT),a7N,Instr.slice,b0z,a7z gZ,hb,a7S]
     .rw[Lib.extract_data,List.drop_take]
     .have:(s.extract l.toNat h.toNat).size<=s.size:=by
       rw[ByteArray.size_extract];omega
      omega
    .cases hq
   .cases hq
  .cases hq
 case h_20 cl bh =>
  have dE:=aM.iL cw cl.args.toList;split at hq
  .rename_i e9;split at hq
   .rename_i T v1 MO Bj;rw[Bj] at dE;match jJ:cl.args.toList.map a.eval,dE with
    | [x],dE =>
     have hx:=dE.1;have GQ:cl.argTypes = #[T]:=by rw[<-a8v (xs:=cl.argTypes),MO]
     have Bk:cl.args.map a.eval = #[x]:=by rw[<-a8v (xs:=cl.args.map a.eval),a9q,jJ]
     have MU:(execOp a.eval o)=(do let d <-resolve a.eval cl o.type;invoke d.target d.args):=by simp[execOp,bh]
     have GW:(execOp a.eval o).run c.P w=((Builtin.len_ #[T] o.type #[x]).run c.P w).andThen λ v w => .ok (.value v) w:=by
      rw[MU];simp[resolve,e9,invoke,builtin,GQ,Bk]
     split at hq
     .rename_i t r hT;obtain⟨k1,_,_⟩:=hE.slice hT;have OG:c.P.elem T=r.2:=by simp[Program.elem,k1]
      have cC:∀ ad len cap,x = .slice ad len cap->(execOp a.eval o).run c.P w = .ok (.value (.int .i64 len)) w:=by
       intro ad len cap hxx;rw[GW,hxx,run_len_slice w T o.type ad len cap (by rw[OG];exact k1)];rfl
      have ff:∀ m:Nat,m<=140737488355328->IntKind.i64.min<=(m:Int)/\(m:Int)<=IntKind.i64.max:=λ m hm=>dL (k := .i64) ⟨by omega,by omega⟩;split at hq
      .simp only[a7v,a7x] at hq;obtain⟨rfl,rfl,rfl⟩:=hq;exact bV hI (cC _ _ _ hx) ⟨rfl,ff 0 (by omega)⟩
      .rename_i t' xs;simp only[a7v,a7x] at hq;obtain⟨rfl,rfl,rfl⟩:=hq;obtain⟨ad,cap,h2,h3,h4,h5⟩:=iy hx;exact bV hI (cC _ _ _ h2) ⟨rfl,ff _ h4⟩
      .rename_i id;split at hq
       .rename_i e' aT xs hl;simp only[a7v,a7x] at hq;obtain⟨rfl,rfl,rfl⟩:=hq;obtain⟨h2,_,_⟩:=hx;have mg:=bP _ _ hl;obtain⟨ad,cap,h3,_,h4,_⟩:=iy (t:=aT) (Wk (hI.aH _ _ mg) mg);exact bV hI (cC _ _ _ (h2.trans h3)) ⟨rfl,ff _ h4⟩
       .cases hq
      .cases hq
     .rename_i r hT;split at hq
      .rename_i xs;simp only[a7v,a7x] at hq;obtain⟨rfl,rfl,rfl⟩:=hq;obtain⟨s,h1,h2,h3⟩:=hx;simp only[a7A,a7W] at h1;subst h2;have bW:s.data.toList.length=s.size:=a8q;have ff:cI .i64 (s.size:Int):=⟨by omega,by omega⟩;refine bV hI (x := .int .i64 s.size) ?_ ⟨by rw[bW],by rw[bW];exact dL ff⟩;rw[GW,h1,run_len_string w T o.type s (hE.str hT)];rfl
      .cases hq
     .rename_i hT;split at hq
      .rename_i id a3a hm _;split at hq
       .rename_i m hl;simp only[a7v,a7x] at hq;obtain⟨rfl,rfl,rfl⟩:=hq;obtain⟨b,es,clock,k1,k2,k3⟩:=hI.aH _ _ (bP _ _ hl);obtain⟨kT,eT,u1,_⟩:=hE.map (κ:=a3a.1) (ε:=a3a.2) hm w;have OG:c.P.underlying T=some (.map (c.P.mapKeyOf T) (c.P.mapElemOf T)):=by simp[Program.mapKeyOf,Program.mapElemOf,u1]
        have hsm:=k3.small;have ff:cI .i64 (m.n:Int):=⟨by omega,by omega⟩;refine bV hI (x := .int .i64 m.n) ?_ ⟨rfl,dL ff⟩;rw[GW,hx.1,k1,run_len_map w T o.type b es clock OG k2,k3.len];rfl
       .cases hq
      .cases hq
     .cases hq
   .cases hq
  .rename_i e9;split at hq
   .rename_i d T T' hd MO;split at hq
    .rename_i τ b e MN hT;split at hq
     .rename_i y Bj;split at hq
      .rename_i ys Dc;simp only[a7v,a7x] at hq;obtain⟨rfl,rfl,rfl⟩:=hq;have MN:=a7w MN;subst MN;rw[Bj] at dE;match jJ:cl.args.toList.map a.eval,dE with
       | [x,z],dE =>
        obtain⟨hx,hz,_⟩:=dE;have hx:x = .slice none 0 0:=hx;subst hx;have GQ:cl.argTypes = #[T,T]:=by rw[<-a8v (xs:=cl.argTypes),MO]
        have Bk:cl.args.map a.eval = #[.slice none 0 0,z]:=by rw[<-a8v (xs:=cl.args.map a.eval),a9q,jJ]
        have GW:(execOp a.eval o).run c.P w=((Builtin.append_ #[T,T] o.type #[.slice none 0 0,z]).run c.P w).andThen λ v w => .ok (.value v) w:=by
         simp[execOp,bh,resolve,e9,invoke,builtin,GQ,Bk]
        have hzc:C1 c G lk w y z:=by
         refine hz.P7 ?_;cases y with
         | aQ u =>
          have e:=TV.aR Dc;subst e;rfl
         | nil=>rfl
         | row i=>rfl
         | aC i=>rfl
         | _=>cases Dc
        have eN:=VB hI.aH (BP bP) SY Dc hzc;obtain⟨v',w',news,m1,m2,m3,m4,m5,m6⟩:=JH (w:=w) (base:=w.heap.size) hE hT (World.ownsRow_nil w _ e τ.size) (Nat.le_refl _) eN (n:=0) (by rw[Nat.zero_add];exact dO) o.type;have hk:bJ (λ _=>False) w w':=⟨m3.os,m3.tape,m3.output,m3.size,λ b hb _=>m3.block b hb (by simp[Value.ownBlock])⟩;simp only[Nat.zero_add,List.nil_append] at m2;refine rD hI (x:=v') (w':=w') ?_ (hI.grow (S':=G.S) hk (λ _ _=>Iff.rfl) (λ b hb=>Nat.lt_of_lt_of_le (hI.dy b hb) hk.size)) ⟨d,hd,rfl⟩ ⟨news,?_,?_,by simpa using m6⟩ ?_
        .rw[GW,m1];rfl
        .exact⟨m2.1,m2.2.imp id λ ⟨g,cap,cur,q1,q2,q3⟩=>⟨g,cap,cur,q1,a8r _,q3⟩⟩
        .exact cZ.aK (λ _ h=>h) (λ b hb=>hI.RM hk b (.inl hb)) _ m5
        .intro b hb;have KF:=(oD (w:=w') (v:=v') (e:=e) ⟨m2.1,m2.2.imp id λ ⟨g,cap,cur,q1,q2,q3⟩=>⟨g,cap,cur,q1,a8r _,q3⟩⟩);have cv:v'.ownBlock=some b:=KF.trans hb;exact m2.lt b cv
      .cases hq
     .cases hq
    .cases hq
   .cases hq
  .rename_i e9;split at hq
   .rename_i k m k' n Bj;split at hq
    .rename_i hk;have hk:=a7Z hk;subst hk;simp only[a7v,a7x] at hq;obtain⟨rfl,rfl,rfl⟩:=hq;rw[Bj] at dE;match jJ:cl.args.toList.map a.eval,dE with
     | [x,z],dE =>
      obtain⟨⟨hx,hx2⟩,⟨hz,KH⟩,_⟩:=dE;simp only[a7A,a7W] at hx hz;subst hx hz;have Bk:cl.args.map a.eval = #[.int k' m, .int k' n]:=by rw[<-a8v (xs:=cl.args.map a.eval),a9q,jJ]
      refine bV hI (x := .int k' (max m n)) ?_ ⟨rfl,?_⟩
      .have hm:=a1o m n;simp[execOp,bh,resolve,e9,invoke,builtin,Bk,Builtin.max_,Builtin.max2];exact hm
      .exact a1p _ _ _ _ hx2 KH
    .cases hq
   .cases hq
  .rename_i f e9;exact JU hE hI bP hq dO dE (λ oi=>fM bh e9 rfl oi)
  .rename_i t e9;split at hq
   .rename_i f hf;have hx:=cw (.tmp t);rw[hf] at hx;exact JU hE hI bP hq dO dE (λ oi=>fM bh e9 hx oi)
   .rename_i f cs hf;have hx:=cw (.tmp t);rw[hf] at hx;exact AL hE hI bP hq dO dE bh e9 hx
   .rename_i v hf;have hx:=cw (.tmp t);rw[hf] at hx;exact AL hE hI bP hq dO dE bh e9 hx
   .cases hq
  .cases hq
 case h_21 T bh =>
  split at hq
  .rename_i d κ ε hd hT;simp only[a7v,a7x] at hq;obtain⟨rfl,rfl,rfl⟩:=hq;obtain⟨kT,eT,u1,u2,u3,u4,_⟩:=hE.map hT w;refine rD hI (x := .map (some w.heap.size)) (w':=w.alloc (.map #[] 0)) ?_ (hI.alloc _) ⟨d,hd,rfl⟩ ⟨_,_,_,rfl,(b1M w _).1,uk.empty u3 u4⟩ ?_
   .simp[execOp,bh,Instr.makeMap]
   .intro b hb;simp only[dx,a7v] at hb;subst hb;simp
  .cases hq
 case h_22 T x ix ok bh =>
  split at hq
  .rename_i κ ε hT;split at hq
   .rename_i id k hx fW;split at hq
    .rename_i m hl;split at hq
     .rename_i f n hm;have e1:=MV.aR hm;subst e1;obtain⟨kT,eT,u1,u2,u3,u4,z,hz,Xe⟩:=hE.map hT w;have sR:=cw x;rw[hx] at sR;obtain⟨b,es,clock,k1,k2,k3⟩:=hI.aH _ _ (bP _ _ hl);have hkr:xT κ k (a.eval ix):=xT.of u3 (wB fW (cw ix));obtain⟨y,y1,y2⟩:=k3.ag (P:=c.P) u1 u2 k2 hz Xe hkr ok;have cC:(execOp a.eval o).run c.P w = .ok (.value (if ok then .tuple #[y, .bool (f k).isSome] else y)) w:=by
       have hxx:a.eval x = .map (some b):=sR.1.trans k1;have:(execOp a.eval o)=(do let r <-Instr.lookup T (a.eval x) (a.eval ix) ok;pure (.value r)):=by simp[execOp,bh]
       rw[this,hxx];simp[y2,Result.andThen]
      have hyv:du w G.S ⟨ε,(f k).getD ε.zero⟩ y:=by
       have:=y1 w G.S;cases ε with
       | int q=>exact this
       | bool=>exact this
       | str=>exact this
       | _=>cases u4
      cases ok with
      | true =>
       simp only[a7v,a7x] at hq;obtain⟨rfl,rfl,rfl⟩:=hq;exact bV hI cC ⟨[y, .bool (f k).isSome],rfl,hyv,rfl,af⟩
      | false =>
       simp only[a7v,a7x] at hq;obtain⟨rfl,rfl,rfl⟩:=hq;exact bV hI cC hyv
     .cases hq
    .cases hq
   .cases hq
  .cases hq
 case h_23 fn first captured bh =>
  split at hq
  .rename_i f a1d Bd;have ij:=aM.iL cw captured.toList;have cC:(execOp a.eval o).run c.P w = .ok (.value (.func (.func f) #[] (captured.toList.map a.eval).toArray)) w:=by
    have hf:first = #[]:=by rw[<-a8v (xs:=first),a1d]
    simp[execOp,bh,Instr.makeFunc,hf];apply b0S;simp
   split at hq
   .rename_i iu;simp only[a7v,a7x] at hq;obtain⟨rfl,rfl,rfl⟩:=hq;rw[iu] at ij;match hl:captured.toList.map a.eval,ij with
    | [],_ =>
     rw[hl] at cC;exact bV hI cC rfl
   .simp only[a7v,a7x] at hq;obtain⟨rfl,rfl,rfl⟩:=hq;exact bV hI cC ⟨_,rfl,ij.imp λ u y hu hy=>hy.TD (a8g.1 Bd u hu)⟩
  .cases hq
 case h_24=>cases hq
end
end Go.Proofs.YtncejbehidimmaaGreatDoor

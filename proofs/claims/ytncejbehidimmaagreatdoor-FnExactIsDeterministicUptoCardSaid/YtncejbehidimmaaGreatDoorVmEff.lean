/- VmTypes, VmCore, VmRead, VmOwn, VmMap, VmInv, VmEnv, VmVals, VmRuns, VmMake, VmOps, VmEff. -/
import Derived.KernelRfl
import GoSem.Claim
import Derived.Orders
import Derived.Laws.AppendOwn
import Derived.Laws.OwnMore
import Derived.Below
import Derived.MapKept
import Derived.Calls
import Derived.Laws.Cells
import Derived.Laws.Slices
import Derived.Laws.Strings
import Derived.Maps.AppendAt
import Derived.IntWalk
import Derived.Laws.Small
import Derived.Laws.CopyRow
import Derived.Lib.Strings
set_option linter.all false
namespace Go.Proofs.YtncejbehidimmaaGreatDoor
def b0g:=@Option.bind_eq_some_iff
def a8r:=@Option.some.injEq
def a9a:=@List.map_cons
def b0s:=@List.map_nil
def a8x:=@List.cons.injEq
def a8T:=@and_true
def b0B:=@Go.World.cell?_of_block
def a9u:=@Nat.add_mul
def a8E:=@List.length_append
def a8F:=@List.length_cons
def a9K:=@List.getElem?_append_left
def a8P:=@List.getElem?_eq_some_iff
def a8Q:=@Nat.lt_or_ge
def b0h:=@List.getElem?_append_right
def b2d:=@Nat.add_sub_cancel_left
def a8I:=@Bool.and_eq_true
def b1B:=@List.drop_drop
def b1m:=@List.drop_left
def b1R:=@List.take_append
def a9f:=@List.take_of_length_le
def b1s:=@Nat.zero_mul
def b1C:=@List.drop_zero
def b0X:=@List.take_left
def b0F:=@List.take_zero
def a9e:=@List.nil_append
def a9I:=@Nat.zero_add
def b2F:=@List.set_cons_zero
def a9l:=@Nat.zero_le
def a9g:=@Go.run_underlying
def b0S:=@Go.MapKept.run_getObj_map
def b1n:=@List.getElem?_cons_zero
def a9V:=@List.pairwise_cons
def a9h:=@List.mem_of_getElem?
def b1K:=@Array.toList_push
def b1t:=@List.pairwise_append
def a8L:=@List.mem_singleton
def a8t:=@List.mem_append
def b1L:=@List.ext_getElem?
def b1M:=@List.getElem?_set
def a8A:=@if_pos
def b0L:=@List.getElem_of_mem
def b0o:=@List.getElem_mem
def a8C:=@Nat.le_refl
def a9v:=@Nat.le_trans
def a8B:=@Nat.lt_of_lt_of_le
def a8G:=@List.mem_cons
def b0G:=@Iff.rfl
def a9d:=@Array.getD_eq_getD_getElem?
def b1D:=@Array.getElem?_setIfInBounds
def a8Z:=@Option.map_eq_some_iff
def a8v:=@if_neg
def b0k:=@if_true
def a8s:=@Nat.eq_of_beq_eq_true
def a8U:=@of_decide_eq_true
def b0I:=@Go.Addr.add_lit
def a8N:=@Go.Sem.run_bind
def a8O:=@Go.Sem.run_pure
def a8J:=@Go.Result.andThen_ok
def b0m:=@Nat.add_zero
def a9s:=@List.eq_nil_of_length_eq_zero
def a8H:=@List.getElem?_eq_getElem
def a9A:=@Option.some.inj
def a9c:=@List.all_eq_true
def b1i:=@List.drop_eq_getElem_cons
def a9w:=@Nat.le_of_ble_eq_true
def a9t:=@List.length_take
def a9C:=@List.length_drop
def a9L:=@List.getElem?_take
def b0t:=@List.getElem?_drop
def b0z:=@Nat.add_assoc
def a8w:=@List.mem_map
def b0M:=@Go.Value.pointer.injEq
def b0f:=@Go.Addr.mk.injEq
def b1G:=@eq_of_heq
def a9j:=@Int.toNat_natCast
def a8u:=@Prod.mk.injEq
def b2y:=@Go.ByteArray.toList_eq
def b1u:=@Bool.eq_iff_iff
def b1N:=@Go.eqGuard_at_string
def a9k:=@Array.length_toList
def a9n:=@Array.getElem?_eq_getElem
def b1P:=@Array.ext'
def a9m:=@Bool.false_eq_true
def b1q:=@if_false
def b2z:=@List.take_succ_cons
def a8Y:=@List.append_assoc
def a8R:=@List.length_nil
def a9B:=@List.append_nil
def b2q:=@List.replicate_succ'
def b0a:=@List.flatMap_cons
def a8W:=@List.length_map
def b1v:=@Option.map_none
def b0N:=@Option.map_some
def b2A:=@Int.toNat_of_nonneg
def b2j:=@Go.run_sliceBound
def a9N:=@Go.heap_alloc_new
def b2k:=@List.length_replicate
def a9X:=@Nat.mul_le_mul_right
def b2G:=@List.map_replicate
def a8z:=@decide_eq_true_eq
def b0H:=@List.mapM_cons
def b2l:=@Nat.mul_le_mul
def a9o:=@Array.toArray_toList
def a9R:=@List.getElem?_map
def b0b:=@Go.Value.slice.injEq
def b0i:=@Array.toList_map
def b2H:=@Go.MapKept.heap_alloc
def a8D:=@List.getD_eq_getElem?_getD
def b0O:=@Array.eq_empty_of_size_eq_zero
def b2K:=@Go.setRow_heap
def b2f:=@Nat.min_eq_left
def b0p:=@List.drop_eq_nil_of_le
def a9q:=@List.length_set
def b1O:=@List.size_toArray
def a9F:=@List.map_append
def Uw:List Nat:=[]
inductive D where
 | int (k:IntKind) (n:Int)
 | bool (b:Bool)
 | str (s:List UInt8)
 | slice (n:Nat) (xs:List D)
 | agg (xs:List D)
 | hole
 | ptr
def mvD{α:Type}(n:Nat)(f:α->D):Option (List α)->D
 | none => .hole
 | some l => .slice n (l.map f)
inductive aJ where
 | sig
 | expr
 | oExpr
 | word
 | automaton
 deriving DecidableEq
inductive Ty where
 | int (k:IntKind)
 | bool
 | str
 | slice (t:Ty)
 | st (s:aJ)
 | mv (t:Ty)
 | ptr
 deriving DecidableEq
structure aH where
 aF:Int
 ar:Int
structure J where
 ah:Int
 aZ:Int
 U:List (J)
structure lD where
 ah:Int
 aZ:Int
 U:Option (List (J))
structure sA where
 Qg:List (Int)
 VI:List (Int)
structure O where
 sig:aH
 accept:List (List (Bool))
 next:List (List (List (Int)))
@[reducible] def aJ.den:aJ->Type
 | .sig=>aH
 | .expr=>J
 | .oExpr=>lD
 | .word=>sA
 | .automaton=>O
@[reducible] def Ty.den:Ty->Type
 | .int _=>Int
 | .bool=>Bool
 | .str=>List UInt8
 | .slice t=>List t.den
 | .st s=>s.den
 | .mv t=>Option (List t.den)
 | .ptr=>Unit
structure TV where
 τ:Ty
 x:τ.den
def TV.Z9(τ:Ty)(v:TV):Option τ.den:=if h:v.τ=τ then some (h ▸ v.x) else none
def TV.aS{τ:Ty}{v:TV}{x:τ.den}(h:v.Z9 τ=some x):v=⟨τ,x⟩:=by
 unfold TV.Z9 at h;split at h
 .rename_i e;subst e;cases v;simp at h;subst h;rfl
 .cases h
@[simp] theorem TV.T7(τ:Ty)(x:τ.den):TV.Z9 τ ⟨τ,x⟩=some x:=by simp[TV.Z9]
def aJ.fields:(s:aJ)->s.den->List TV
 | .sig,x=>[⟨.int .i64,x.aF⟩,⟨.int .i64,x.ar⟩]
 | .expr,x=>[⟨.int .i64,x.ah⟩,⟨.int .i64,x.aZ⟩,⟨.slice (.st .expr),x.U⟩]
 | .oExpr,x=>[⟨.int .i64,x.ah⟩,⟨.int .i64,x.aZ⟩,⟨.mv (.st .expr),x.U⟩]
 | .word,x=>[⟨.slice (.int .i64),x.Qg⟩,⟨.slice (.int .i64),x.VI⟩]
 | .automaton,x=>[⟨.st .sig,x.sig⟩,⟨.slice (.slice (.bool)),x.accept⟩,⟨.slice (.slice (.slice (.int .i64))),x.next⟩]
def aJ.cells:(s:aJ)->s.den->List TV
 | .sig,x=>[⟨.int .i64,x.aF⟩,⟨.int .i64,x.ar⟩]
 | .expr,x=>[⟨.int .i64,x.ah⟩,⟨.int .i64,x.aZ⟩,⟨.slice (.st .expr),x.U⟩]
 | .oExpr,x=>[⟨.int .i64,x.ah⟩,⟨.int .i64,x.aZ⟩,⟨.mv (.st .expr),x.U⟩]
 | .word,x=>[⟨.slice (.int .i64),x.Qg⟩,⟨.slice (.int .i64),x.VI⟩]
 | .automaton,x=>[⟨.int .i64,x.sig.aF⟩,⟨.int .i64,x.sig.ar⟩,⟨.slice (.slice (.bool)),x.accept⟩,⟨.slice (.slice (.slice (.int .i64))),x.next⟩]
def aJ.size:aJ->Nat
 | .sig=>2
 | .expr=>3
 | .oExpr=>3
 | .word=>2
 | .automaton=>4
def aJ.pG:aJ->List Ty
 | .sig=>[.int .i64, .int .i64]
 | .expr=>[.int .i64, .int .i64, .slice (.st .expr)]
 | .oExpr=>[.int .i64, .int .i64, .mv (.st .expr)]
 | .word=>[.slice (.int .i64), .slice (.int .i64)]
 | .automaton=>[.int .i64, .int .i64, .slice (.slice (.bool)), .slice (.slice (.slice (.int .i64)))]
def aJ.fI:aJ->List Ty
 | .sig=>[.int .i64, .int .i64]
 | .expr=>[.int .i64, .int .i64, .slice (.st .expr)]
 | .oExpr=>[.int .i64, .int .i64, .mv (.st .expr)]
 | .word=>[.slice (.int .i64), .slice (.int .i64)]
 | .automaton=>[.st .sig, .slice (.slice (.bool)), .slice (.slice (.slice (.int .i64)))]
def aJ.gW:(s:aJ)->List TV->Option s.den
 | .sig,[a0,a1]=>(a0.Z9 (.int .i64)).bind λ b0=>(a1.Z9 (.int .i64)).bind λ b1=>some (aH.mk b0 b1)
 | .expr,[a0,a1,a2]=>(a0.Z9 (.int .i64)).bind λ b0=>(a1.Z9 (.int .i64)).bind λ b1=>(a2.Z9 (.slice (.st .expr))).bind λ b2=>some (J.mk b0 b1 b2)
 | .oExpr,[a0,a1,a2]=>(a0.Z9 (.int .i64)).bind λ b0=>(a1.Z9 (.int .i64)).bind λ b1=>(a2.Z9 (.mv (.st .expr))).bind λ b2=>some (lD.mk b0 b1 b2)
 | .word,[a0,a1]=>(a0.Z9 (.slice (.int .i64))).bind λ b0=>(a1.Z9 (.slice (.int .i64))).bind λ b1=>some (sA.mk b0 b1)
 | .automaton,[a0,a1,a2,a3]=>(a0.Z9 (.int .i64)).bind λ b0=>(a1.Z9 (.int .i64)).bind λ b1=>(a2.Z9 (.slice (.slice (.bool)))).bind λ b2=>(a3.Z9 (.slice (.slice (.slice (.int .i64))))).bind λ b3=>some (O.mk (aH.mk b0 b1) b2 b3)
 | _,_=>none
def aJ.lv:∀ {s:aJ} {l:List TV} {x:s.den},s.gW l=some x->s.cells x=l:=by
 intro s l x h;cases s;case sig =>
  match l,h with
  | [a0,a1],h =>
   simp only[aJ.gW,b0g,a8r] at h;obtain⟨b0,h0,⟨b1,h1,rfl⟩⟩:=h;have e0:=TV.aS h0;have e1:=TV.aS h1;subst e0 e1;rfl
 case expr =>
  match l,h with
  | [a0,a1,a2],h =>
   simp only[aJ.gW,b0g,a8r] at h;obtain⟨b0,h0,⟨b1,h1,⟨b2,h2,rfl⟩⟩⟩:=h;have e0:=TV.aS h0;have e1:=TV.aS h1;have e2:=TV.aS h2;subst e0 e1 e2;rfl
 case oExpr =>
  match l,h with
  | [a0,a1,a2],h =>
   simp only[aJ.gW,b0g,a8r] at h;obtain⟨b0,h0,⟨b1,h1,⟨b2,h2,rfl⟩⟩⟩:=h;have e0:=TV.aS h0;have e1:=TV.aS h1;have e2:=TV.aS h2;subst e0 e1 e2;rfl
 case word =>
  match l,h with
  | [a0,a1],h =>
   simp only[aJ.gW,b0g,a8r] at h;obtain⟨b0,h0,⟨b1,h1,rfl⟩⟩:=h;have e0:=TV.aS h0;have e1:=TV.aS h1;subst e0 e1;rfl
 case automaton =>
  match l,h with
  | [a0,a1,a2,a3],h =>
   simp only[aJ.gW,b0g,a8r] at h;obtain⟨b0,h0,⟨b1,h1,⟨b2,h2,⟨b3,h3,rfl⟩⟩⟩⟩:=h;have e0:=TV.aS h0;have e1:=TV.aS h1;have e2:=TV.aS h2;have e3:=TV.aS h3;subst e0 e1 e2 e3;rfl
def aJ.gf(s:aJ)(x:s.den):(s.cells x).length=s.size:=by cases s<;>rfl
def aJ.og(s:aJ)(x:s.den):(s.cells x).map TV.τ=s.pG:=by cases s<;>rfl
def aJ.uU(s:aJ)(x:s.den):(s.fields x).map TV.τ=s.fI:=by cases s<;>rfl
def Ty.size:Ty->Nat
 | .st s=>s.size
 | _=>1
def TV.cells(v:TV):List TV :=
 match v with
 | ⟨.st s,x⟩=>s.cells x
 | v=>[v]
def aJ.DI(s:aJ)(x:s.den):s.cells x=(s.fields x).flatMap TV.cells:=by cases s<;>rfl
def aH.aD(x:aH):D := .agg [.int .i64 x.aF, .int .i64 x.ar]
mutual
def J.aD:J->D
 | ⟨ah,aZ,U⟩ => .agg [.int .i64 ah, .int .i64 aZ, .slice 3 (J.a1e U)]
def J.a1e:List J->List D
 | []=>[]
 | e::r=>e.aD::J.a1e r
end
def J.H7:∀ l,J.a1e l=l.map J.aD
 | []=>rfl
 | _::r=>congrArg _ (J.H7 r)
def lD.aD(x:lD):D := .agg [.int .i64 x.ah, .int .i64 x.aZ,mvD 3 (λ y=>J.aD y) x.U]
def sA.aD(x:sA):D := .agg [.slice 1 (x.Qg.map λ y => .int .i64 y), .slice 1 (x.VI.map λ y => .int .i64 y)]
def O.aD(x:O):D := .agg [.int .i64 x.sig.aF, .int .i64 x.sig.ar, .slice 1 (x.accept.map λ y => .slice 1 (y.map λ y => .bool y)), .slice 1 (x.next.map λ y => .slice 1 (y.map λ y => .slice 1 (y.map λ y => .int .i64 y)))]
def aJ.aD:(s:aJ)->s.den->D
 | .sig,x=>aH.aD x
 | .expr,x=>J.aD x
 | .oExpr,x=>lD.aD x
 | .word,x=>sA.aD x
 | .automaton,x=>O.aD x
def Ty.aD:(t:Ty)->t.den->D
 | .int k,n => .int k n
 | .bool,b => .bool b
 | .str,s => .str s
 | .slice t,xs => .slice t.size (xs.map t.aD)
 | .st s,x=>s.aD x
 | .mv t,o=>mvD t.size t.aD o
 | .ptr,_ => .ptr
def TV.aD(v:TV):D:=v.τ.aD v.x
def aJ.bT(s:aJ)(x:s.den):s.aD x = .agg ((s.cells x).map TV.aD):=by
 cases s<;>first
  | rfl
  | (cases x;simp[aJ.aD,J.aD,aJ.cells,TV.aD,Ty.aD,Ty.size,aJ.size,J.H7];done)
  | (simp[aJ.aD,aJ.cells,TV.aD,Ty.aD,Ty.size,aJ.size,aH.aD,J.aD,lD.aD,sA.aD,O.aD,J.H7];done)
def aJ.zero:(s:aJ)->s.den
 | .sig=>(aH.mk 0 0)
 | .expr=>(J.mk 0 0 [])
 | .oExpr=>(lD.mk 0 0 none)
 | .word=>(sA.mk [] [])
 | .automaton=>(O.mk (aH.mk 0 0) [] [])
def Ty.zero:(t:Ty)->t.den
 | .int _=>(0:Int)
 | .bool=>false
 | .str=>([]:List UInt8)
 | .slice _=>[]
 | .st s=>s.zero
 | .mv _=>none
 | .ptr=>()
instance:Inhabited aH:=⟨aJ.zero .sig⟩
def aH.eta(x:aH):aH.mk x.aF x.ar=x:=by cases x;rfl
instance:Inhabited J:=⟨aJ.zero .expr⟩
def J.eta(x:J):J.mk x.ah x.aZ x.U=x:=by cases x;rfl
instance:Inhabited lD:=⟨aJ.zero .oExpr⟩
def lD.eta(x:lD):lD.mk x.ah x.aZ x.U=x:=by cases x;rfl
instance:Inhabited sA:=⟨aJ.zero .word⟩
def sA.eta(x:sA):sA.mk x.Qg x.VI=x:=by cases x;rfl
instance:Inhabited O:=⟨aJ.zero .automaton⟩
def O.eta(x:O):O.mk x.sig x.accept x.next=x:=by cases x;rfl
def bc(x:J):J:=J.mk x.ah x.aZ x.U
def cW(x:J):bc x=x:=by cases x;simp[bc]
def aJ.Uo:∀ (s:aJ) (fl:List TV),fl.map TV.τ=s.fI->∃ x,s.fields x=fl
 | .sig,fl,h=>by
  match fl,h with
  | [⟨t0,a0⟩,⟨t1,a1⟩],h =>
   simp only[a9a,b0s,aJ.fI,a8x,a8T] at h;obtain⟨rfl,rfl⟩:=h;exact⟨⟨a0,a1⟩,rfl⟩
 | .expr,fl,h=>by
  match fl,h with
  | [⟨t0,a0⟩,⟨t1,a1⟩,⟨t2,a2⟩],h =>
   simp only[a9a,b0s,aJ.fI,a8x,a8T] at h;obtain⟨rfl,rfl,rfl⟩:=h;exact⟨⟨a0,a1,a2⟩,rfl⟩
 | .oExpr,fl,h=>by
  match fl,h with
  | [⟨t0,a0⟩,⟨t1,a1⟩,⟨t2,a2⟩],h =>
   simp only[a9a,b0s,aJ.fI,a8x,a8T] at h;obtain⟨rfl,rfl,rfl⟩:=h;exact⟨⟨a0,a1,a2⟩,rfl⟩
 | .word,fl,h=>by
  match fl,h with
  | [⟨t0,a0⟩,⟨t1,a1⟩],h =>
   simp only[a9a,b0s,aJ.fI,a8x,a8T] at h;obtain⟨rfl,rfl⟩:=h;exact⟨⟨a0,a1⟩,rfl⟩
 | .automaton,fl,h=>by
  match fl,h with
  | [⟨t0,a0⟩,⟨t1,a1⟩,⟨t2,a2⟩],h =>
   simp only[a9a,b0s,aJ.fI,a8x,a8T] at h;obtain⟨rfl,rfl,rfl⟩:=h;exact⟨⟨a0,a1,a2⟩,rfl⟩
abbrev zE:J:=J.mk (0:Int) (0:Int) []
def ae:True:=trivial
noncomputable section
@[reducible] def FN:List Ty->Ty->Type
 | [],r=>Prop×r.den
 | t::ts,r=>t.den->FN ts r
structure FV where
 ps:List Ty
 r:Ty
 F:FN ps r
def FV.Z9(ps:List Ty)(r:Ty)(v:FV):Option (FN ps r):=if h:v.ps=ps then (if k:v.r=r then some (h ▸ k ▸ v.F) else none) else none
def FV.aS{ps:List Ty}{r:Ty}{v:FV}{F:FN ps r}(h:v.Z9 ps r=some F):v=⟨ps,r,F⟩:=by
 unfold FV.Z9 at h;split at h
 .split at h
  .rename_i e k;obtain⟨ps',r',F'⟩:=v;simp only at e k;subst e k;simp at h;subst h;rfl
  .cases h
 .cases h
@[simp] theorem FV.T7(ps:List Ty)(r:Ty)(F:FN ps r):FV.Z9 ps r ⟨ps,r,F⟩=some F:=by simp[FV.Z9]
structure MV where
 κ:Ty
 ε:Ty
 f:κ.den->Option ε.den
 n:Nat
def MV.Z9(κ ε:Ty)(m:MV):Option ((κ.den->Option ε.den)×Nat):=if h:m.κ=κ then (if k:m.ε=ε then some (h ▸ k ▸ (m.f,m.n)) else none) else none
def MV.aS{κ ε:Ty}{m:MV}{F:(κ.den->Option ε.den)×Nat}(h:m.Z9 κ ε=some F):m=⟨κ,ε,F.1,F.2⟩:=by
 unfold MV.Z9 at h;split at h
 .split at h
  .rename_i e k;obtain⟨κ',ε',f',n'⟩:=m;simp only at e k;subst e k;simp at h;subst h;rfl
  .cases h
 .cases h
@[simp] theorem MV.T7(κ ε:Ty)(f:κ.den->Option ε.den)(n:Nat):MV.Z9 κ ε ⟨κ,ε,f,n⟩=some (f,n):=by simp[MV.Z9]
def fK{α β:Type}(f:α->Option β)(k:α)(v:β):α->Option β:=λ x => @ite _ (x=k) (Classical.propDecidable _) (some v) (f x)
def gV(α β:Type):α->Option β:=λ _=>none
def gB{β:Type}(o:Option β)(n:Nat):Nat:=bif o.isSome then n else n+1
inductive AV where
 | any
 | dG
 | aK (v:TV)
 | nil
 | cO (v:TV)
 | ptr (id off:Nat)
 | row (id:Nat)
 | dN (id i off:Nat)
 | agg (cs:List AV)
 | fO (vs:List AV)
 | fn (f:FuncId)
 | aA (id:Nat)
 | sub (id i off sz:Nat)
 | dW (id i off sz:Nat)
 | cM (f:FuncId) (cs:List AV)
 | fV (v:FV)
 | mp (id:Nat)
inductive au where
 | box (cs:List AV)
 | row (e:TypeId) (τ:Ty) (xs:List τ.den)
 | aA (τ:Ty) (xs:List τ.den)
 | map (m:MV)
structure ag where
 aw:List AV
 aC:List (Nat×au)
inductive Arg where
 | val (v:TV)
 | ref (v:TV)
 | fn (f:FuncId)
 | cM (v:FV)
 | own (v:TV)
 | box (k:Nat)
inductive CK where
 | d (τ:Ty)
 | o (τ:Ty)
 | p (k:Nat)
structure SK where
 ps:List (Option Nat)
 sh:List (List CK)
def af{α:Type}:List (Nat×α)->Nat->Option α
 | [],_=>none
 | (k,v)::r,n=>match Nat.beq k n with
  | true=>some v
  | false=>af r n
abbrev Vc:=Option Prop
def Vc.ok:Vc->Prop
 | .none=>True
 | .some p=>p
def Vc.and(v:Vc)(K:Prop):Prop:=match v with
 | .none=>K
 | .some p=>p/\K
def Vc.iv{v:Vc}{K:Prop}(h:v.and K):v.ok/\K:=by
 cases v with
 | none=>exact⟨ae,h⟩
 | some p=>exact h
structure RS where
 τ:Ty
 g:τ.den->Int->Vc×τ.den×Int
structure zd where
 ps:List Ty
 r:Ty
 eb:List (Bool×Ty)
def Arg.FC:Arg->Bool
 | .ref _ | .cM _ | .box _=>false
 | _=>true
inductive VG where
 | box (cells:List TV)
 | row (e:TypeId) (τ:Ty) (xs:List τ.den)
 | res (l:List (Bool×TV))
structure Env where
 ty:List (Nat×Ty×Nat×Nat)
 Rm:List (Nat×Ty)
 Iw:Nat->List Arg->Option (Vc×List TV)
 wr:List Nat:=[]
 own:List Nat:=[]
 HD:Nat->List Arg->Option (Vc×List TV):=λ _ _=>none
 mark:Nat->Option RS:=λ _=>none
 cM:Nat->Option zd:=λ _=>none
 ro:List Nat:=[]
 tk:Nat->List Bool:=λ _=>[]
 sk:Nat->Option SK:=λ _=>none
 PZ:Nat->List Arg->List (List TV)->Option (Vc×List TV×List (List TV)):=λ _ _ _=>none
 Jg:List (Nat×Ty×Ty):=[]
 NI:Nat->List Arg->Option (Vc×VG):=λ _ _=>none
 cmp:List Nat:=[]
def ag.af(s:ag)(id:Nat):Option au:=YtncejbehidimmaaGreatDoor.af s.aC id
def Mq(k:IntKind)(n:Int):Bool :=
 match n with
 | .ofNat m=>match k with
  | .i64=>Nat.ble m 9223372036854775807
  | .u64=>Nat.ble m 18446744073709551615
  | .u8=>Nat.ble m 255
  | _=>Nat.ble m 127
 | .negSucc m=>match k with
  | .i64=>Nat.ble m 9223372036854775807
  | _=>false
def Gp:Value->AV
 | .int k n=>match Mq k n with
  | true => .aK ⟨.int k,n⟩
  | false => .any
 | .bool b => .aK ⟨.bool,b⟩
 | .string s=>match Nat.ble s.data.size 1000000 with
  | true => .aK ⟨.str,s.data.toList⟩
  | false => .any
 | .slice none 0 0 => .nil
 | _ => .any
def R8:Value->AV
 | .agg cs => .agg (cs.toList.map Gp)
 | .tuple cs=>match Nat.beq cs.size 0 with
  | true => .dG
  | false => .any
 | v=>Gp v
def ag.eval(s:ag):Operand->AV
 | .tmp t=>s.aw.getD t .any
 | .const v=>R8 v
 | .func f => .fn f
 | .global _ => .any
def ic(lk:Nat->Option au)(τ:Ty):AV->Option τ.den
 | .aK v=>v.Z9 τ
 | .nil=>match τ with
  | .slice _=>some []
  | _=>none
 | .row id=>match lk id with
  | some (.row _ aO xs)=>TV.Z9 τ ⟨.slice aO,xs⟩
  | _=>none
 | .aA id=>match lk id with
  | some (.aA aO xs)=>TV.Z9 τ ⟨.slice aO,xs⟩
  | _=>none
 | _=>none
def HC(lk:Nat->Option au)(id:Nat):Option au:=match lk id with
 | some (.aA _ _)=>none
 | o=>o
def Ma(lk:Nat->Option au):List AV->List Ty->Option (List TV)
 | [],[]=>some []
 | c::cs,t::ts=>match ic lk t c with
  | some x=>match Ma lk cs ts with
   | some r=>some (⟨t,x⟩::r)
   | none=>none
  | none=>none
 | _,_=>none
def ur(lk:Nat->Option au)(τ:Ty):AV->Option τ.den
 | .agg cs=>match τ with
  | .st s=>match Ma lk cs s.pG with
   | some l=>s.gW l
   | none=>none
  | _=>none
 | v=>ic lk τ v
def AV.cell:AV->Bool
 | .any | .dG | .agg _ | .fO _ | .dW .. | .cM .. | .fV .. => false
 | .aK v=>match v.τ with
  | .st _=>false
  | _=>true
 | _=>true
def cellsOf(τ:Ty)(v:AV):Option (List AV) :=
 match τ with
 | .st s=>match v with
  | .aK x=>match x.Z9 (.st s) with
   | some y=>some ((s.cells y).map .aK)
   | none=>none
  | .agg cs=>match Nat.beq cs.length s.size&&cs.all AV.cell with
   | true=>some cs
   | false=>none
  | _=>none
 | _=>match v.cell with
  | true=>some [v]
  | false=>none
def Ct(cs:List AV)(off:Nat)(τ:Ty):Option AV :=
 match τ with
 | .st s=>match Nat.ble (off+s.size) cs.length with
  | true=>some (.agg ((cs.drop off).take s.size))
  | false=>none
 | _=>cs[off]?
def putCells(cs:List AV)(off:Nat)(new:List AV):Option (List AV) :=
 match Nat.ble (off+new.length) cs.length with
 | true=>some (cs.take off++(new++cs.drop (off+new.length)))
 | false=>none
def TV.part(v:TV)(off:Nat)(τ:Ty):Option TV :=
 match Nat.beq off 0&&decide (v.τ=τ) with
 | true=>some v
 | false=>match v.cells[off]? with
  | some u=>match decide (u.τ=τ) with
   | true=>some u
   | false=>none
  | none=>none
def pn(lk:Nat->Option au)(τ:Ty):AV->Option AV
 | .cO v=>match decide (v.τ=τ) with
  | true=>some (.aK v)
  | false=>none
 | .ptr id off=>match lk id with
  | some (.box cs)=>Ct cs off τ
  | _=>none
 | .dN id i off=>match lk id with
  | some (.row _ aO xs)=>match TV.part ⟨aO,xs.getD i aO.zero⟩ off τ with
   | some u=>some (.aK u)
   | none=>none
  | _=>none
 | _=>none
def deref(lk:Nat->Option au)(τ:Ty)(v:AV):Option τ.den :=
 match pn lk τ v with
 | some u=>ur lk τ u
 | none=>none
def aJ.eu(s:aJ)(i:Nat):Nat:=((s.fI.take i).map Ty.size).sum
def zeroCell(τ:Ty):AV :=
 match τ with
 | .slice _ => .nil
 | τ => .aK ⟨τ,τ.zero⟩
def zeroCells(τ:Ty):List AV :=
 match τ with
 | .st s=>s.pG.map zeroCell
 | τ=>[zeroCell τ]
def mX(lk:Nat->Option au):List (Bool×Ty)->List AV->Option (List Arg)
 | [],[]=>some []
 | (true,τ)::ks,v::vs=>match deref lk τ v with
  | some x=>match mX lk ks vs with
   | some r=>some (.ref ⟨τ,x⟩::r)
   | none=>none
  | none=>none
 | (false,τ)::ks,v::vs=>match ur lk τ v with
  | some x=>match mX lk ks vs with
   | some r=>some (.val ⟨τ,x⟩::r)
   | none=>none
  | none=>none
 | _,_=>none
def Mo(E:Env)(f:FuncId)(eb:List Arg):(ps:List Ty)->(r:Ty)->List Arg->FN ps r
 | [],r,acc=>match E.Iw f (acc++eb) with
  | some (pre,[v])=>match v.Z9 r with
   | some y=>(pre.ok,y)
   | none=>(False,r.zero)
  | _=>(False,r.zero)
 | t::ts,r,acc=>λ x=>Mo E f eb ts r (acc++[.val ⟨t,x⟩])
def pV:(ps:List Ty)->(r:Ty)->FN ps r->List Arg->Option (Prop×r.den)
 | [],_,F,[]=>some F
 | t::ts,r,F, .val a::zs=>match a.Z9 t with
  | some x=>pV ts r (F x) zs
  | none=>none
 | _,_,_,_=>none
def yv(E:Env)(lk:Nat->Option au):AV->Option FV
 | .cM f cs=>match E.cM f with
  | some k=>match mX lk k.eb cs with
   | some Z9=>some ⟨k.ps,k.r,Mo E f Z9 k.ps k.r []⟩
   | none=>none
  | none=>none
 | .fV v=>some v
 | .fn f=>match E.cM f with
  | some k=>match k.eb with
   | []=>some ⟨k.ps,k.r,Mo E f [] k.ps k.r []⟩
   | _=>none
  | none=>none
 | _=>none
def L8(E:Env)(lk:Nat->Option au)(T:TypeId)(v:AV):Option Arg :=
 match af E.ty T with
 | some (τ,_)=>match ur lk τ v with
  | some x=>some (.val ⟨τ,x⟩)
  | none=>none
 | none=>match af E.Rm T with
  | some τ=>match deref lk τ v with
   | some x=>some (.ref ⟨τ,x⟩)
   | none=>none
  | none=>match yv E lk v with
   | some q=>some (.cM q)
   | none=>match v with
    | .fn f=>some (.fn f)
    | _=>none
def jP(E:Env)(lk:Nat->Option au):List TypeId->List AV->Option (List Arg)
 | [],[]=>some []
 | T::Ts,v::vs=>match L8 E lk T v with
  | some x=>match jP E lk Ts vs with
   | some r=>some (x::r)
   | none=>none
  | none=>none
 | _,_=>none
def y7:List TV->AV
 | [v] => .aK v
 | vs => .fO (vs.map .aK)
def ai(n:Int):Prop := -9223372036854775808<=n/\n<=9223372036854775807
def cH(k:IntKind)(n:Int):Prop :=
 match k with
 | .i64=>ai n
 | k=>k.min<=n/\n<=k.max
def av(n:Int)(len:Nat):Prop:=0<=n/\n<(len:Int)
def iy(l h:Int)(len:Nat):Prop:=0<=l/\l<=h/\h<=(len:Int)
def cB(n m:Int)(b:Nat):Prop:=0<=n/\n<=m/\m * ((b:Int)+1)<=140737488355328
def aX(n b:Nat):Prop:=n * (b+1)<=140737488355328
def arith(op:BinOp)(k:IntKind)(a b:Int):Option (Vc×Int) :=
 match op with
 | .add=>match k with
  | .u64=>some (.none,IntKind.u64.wrap (a+b))
  | k=>some (.some (cH k (a+b)),a+b)
 | .sub=>some (.some (cH k (a - b)),a - b)
 | .mul=>match k with
  | .u64=>some (.none,IntKind.u64.wrap (a * b))
  | k=>some (.some (cH k (a * b)),a * b)
 | .quo=>some (.some (b≠0/\cH k (a.tdiv b)),a.tdiv b)
 | .rem=>some (.some (b≠0/\cH k (a.tmod b)),a.tmod b)
 | .shl=>some (.some (0<=b/\b<k.bits/\cH k (a * 2 ^ b.toNat)),a * 2 ^ b.toNat)
 | .shr=>some (.some (0<=b/\b<k.bits/\cH k (a.fdiv (2 ^ b.toNat))),a.fdiv (2 ^ b.toNat))
 | .and=>some (.some (0<=a/\0<=b/\cH k a/\cH k b),((a.toNat &&& b.toNat:Nat):Int))
 | _=>none
def cmp(op:BinOp)(a b:Int):Option Bool :=
 match op with
 | .eql=>some (decide (a=b))
 | .neq=>some (!decide (a=b))
 | .lss=>some (decide (a<b))
 | .leq=>some (decide (a<=b))
 | .gtr=>some (decide (b<a))
 | .geq=>some (decide (b<=a))
 | _=>none
def Qf(wr:Bool)(op:BinOp)(k:IntKind)(a b:Int):Option (Vc×Int) :=
 match wr with
 | true=>match op with
  | .add=>some (.none,k.wrap (a+b))
  | .sub=>some (.none,k.wrap (a - b))
  | .mul=>some (.none,k.wrap (a * b))
  | op=>arith op k a b
 | false=>arith op k a b
def Uc(tb wr:Bool)(op:BinOp)(u v:AV):Option (Vc×AV) :=
 match u,v with
 | .aK ⟨.int k,a⟩, .aK ⟨.int k',b⟩=>match Qf wr op k a b with
  | some (p,r)=>match op with
   | .shl | .shr=>some (p, .aK ⟨.int k,r⟩)
   | _=>match decide (k=k') with
    | true=>some (p, .aK ⟨.int k,r⟩)
    | false=>none
  | none=>match decide (k=k') with
   | true=>match cmp op a b with
    | some c=>some (.none, .aK ⟨.bool,c⟩)
    | none=>none
   | false=>none
 | .aK ⟨.bool,a⟩, .aK ⟨.bool,b⟩=>match tb with
  | true=>match op with
   | .eql=>some (.none, .aK ⟨.bool,a == b⟩)
   | .neq=>some (.none, .aK ⟨.bool,!(a == b)⟩)
   | _=>none
  | false=>none
 | .aK ⟨.str,a⟩, .aK ⟨.str,b⟩=>match op with
  | .eql=>some (.none, .aK ⟨.bool,decide (a=b)⟩)
  | .neq=>some (.none, .aK ⟨.bool,!decide (a=b)⟩)
  | .add=>some (.some (a.length+b.length<=140737488355328), .aK ⟨.str,a++b⟩)
  | _=>none
 | _,_=>none
def partsOf(E:Env)(s:aJ)(cs:List AV):List (Nat×AV)->Option (List AV)
 | []=>some cs
 | (i,v)::r=>match s.fI[i]? with
  | some τ=>match cellsOf τ v with
   | some new=>match putCells cs (s.eu i) new with
    | some dm=>partsOf E s dm r
    | none=>none
   | none=>none
  | none=>none
def pH(τ:Ty):Nat->List (Nat×AV)->Option (List τ.den)
 | _,[]=>some []
 | n,(
    i,v)::r=>match Nat.beq i n with
  | true=>match ur (λ _=>none) τ v with
   | some x=>match pH τ (n+1) r with
    | some xs=>some (x::xs)
    | none=>none
   | none=>none
  | false=>none
def TV.flat(v:TV):Bool:=v.cells.all λ u=>match u.τ with
 | .slice _=>false
 | .mv _=>false
 | _=>true
def mW(d:Int):Option AV->Option Int
 | none=>some d
 | some (.aK ⟨.int _,n⟩)=>some n
 | _=>none
def pq(lk:Nat->Option au)(id:Nat):Option au:=match lk id with
 | some (.box cs)=>some (.box cs)
 | _=>none
def Cq(E:Env)(lk:Nat->Option au)(f:FuncId)(Ts:List TypeId)(vs:List AV):Option (Vc×AV×Option au) :=
 match jP E (pq lk) Ts vs with
 | some Z9=>match E.Iw f Z9 with
  | some (pre,res)=>some (pre,y7 res,none)
  | none=>none
 | none=>match jP E lk Ts vs with
  | some Z9=>match E.Iw f Z9 with
   | some (pre,res)=>match res.all TV.flat with
    | true=>some (pre,y7 res,none)
    | false=>none
   | none=>none
  | none=>none
def xj(E:Env)(lk:Nat->Option au)(g:AV)(Ts:List TypeId)(vs:List AV):Option (Vc×AV×Option au) :=
 match (match jP E (pq lk) Ts vs with
  | some Z9=>match yv E (pq lk) g with
   | some q=>match pV q.ps q.r q.F Z9 with
    | some (pre,y)=>some (some pre,y7 [⟨q.r,y⟩],none)
    | none=>none
   | none=>none
  | none=>none) with
 | some r=>some r
 | none=>match jP E lk Ts vs with
  | some Z9=>match yv E lk g with
   | some q=>match pV q.ps q.r q.F Z9 with
    | some (pre,y)=>match TV.flat ⟨q.r,y⟩ with
     | true=>some (some pre,y7 [⟨q.r,y⟩],none)
     | false=>none
    | none=>none
   | none=>none
  | none=>none
def AV.Yl:AV->Bool
 | .dG | .fO _ | .cM .. | .fV .. | .sub .. | .dW .. => false
 | _=>true
def Rg(E:Env)(op:BinOp)(T:TypeId)(u v:AV):Option (Vc×AV) :=
 match af E.ty T,u,v with
 | some (.slice _,_), .aK ⟨.slice _,xs⟩, .nil=>match op with
  | .eql=>some (.some (1<=xs.length), .aK ⟨.bool,false⟩)
  | .neq=>some (.some (1<=xs.length), .aK ⟨.bool,true⟩)
  | _=>none
 | _,_,_=>none
def Fv(E:Env)(lk:Nat->Option au)(ev:Operand->AV)(o:Oper):Option (Vc×AV×Option au) :=
 match o.op with
 | .move x=>some (.none,ev x,none)
 | .assign x=>some (.none,ev x,none)
 | .pick c a b=>match ev c with
  | .aK ⟨.bool,true⟩=>some (.none,ev a,none)
  | .aK ⟨.bool,false⟩=>some (.none,ev b,none)
  | _=>none
 | .alloc T=>match o.dst,af E.ty T with
  | some d,some (τ,_)=>some (.none, .ptr d 0,some (.box (zeroCells τ)))
  | _,_=>none
 | .box T x=>match o.dst,af E.ty T with
  | some d,some (τ,_)=>match E.ro.contains d with
   | true=>match ur (λ _=>none) τ (ev x) with
    | some y=>some (.none, .cO ⟨τ,y⟩,none)
    | none=>none
   | false=>match cellsOf τ (ev x) with
    | some cs=>some (.none, .ptr d 0,some (.box cs))
    | none=>none
  | _,_=>none
 | .build T parts=>match af E.ty T with
  | some (.st n,_)=>match partsOf E n (zeroCells (.st n)) (parts.toList.map λ p=>(p.1,ev p.2)) with
   | some cs=>some (.none, .agg cs,none)
   | none=>none
  | _=>none
 | .buildSlice T len parts=>match o.dst,af E.ty T with
  | some d,some (.slice τ,_,e)=>match Nat.beq parts.size len&&Nat.ble len 1000 with
   | true=>match pH τ 0 (parts.toList.map λ p=>(p.1,ev p.2)) with
    | some xs=>match E.ro.contains d with
     | true=>some (.none, .aK ⟨.slice τ,xs⟩,none)
     | false=>some (.none, .row d,some (.row e τ xs))
    | none=>none
   | false=>none
  | _,_=>none
 | .load T a=>match af E.ty T with
  | some (τ,_)=>match pn lk τ (ev a) with
   | some v=>some (.none,v,none)
   | none=>none
  | none=>none
 | .nilCheck x=>match ev x with
  | .cO v=>some (.none, .cO v,none)
  | .ptr id off=>some (.none, .ptr id off,none)
  | .dN id i off=>some (.none, .dN id i off,none)
  | _=>none
 | .fieldAddr T x i=>match af E.ty T with
  | some (.st n,_)=>match ev x with
   | .cO v=>match v.Z9 (.st n) with
    | some y=>match (n.fields y)[i]? with
     | some f=>some (.none, .cO f,none)
     | none=>none
    | none=>none
   | .ptr id off=>match Nat.blt i n.fI.length with
    | true=>some (.none, .ptr id (off+n.eu i),none)
    | false=>none
   | .dN id k off=>match Nat.blt i n.fI.length with
    | true=>some (.none, .dN id k (off+n.eu i),none)
    | false=>none
   | _=>none
  | _=>none
 | .field T x i=>match af E.ty T with
  | some (.st n,_)=>match ev x with
   | .aK v=>match v.Z9 (.st n) with
    | some y=>match (n.fields y)[i]? with
     | some f=>some (.none, .aK f,none)
     | none=>none
    | none=>none
   | .agg cs=>match n.fI[i]? with
    | some τ=>match Ct cs (n.eu i) τ with
     | some v=>some (.none,v,none)
     | none=>none
    | none=>none
   | _=>none
  | _=>none
 | .indexAddr T x ix=>match af E.ty T with
  | some (
      .slice τ,_)=>match ev ix with
   | .aK ⟨.int _,n⟩=>match ev x with
    | .aK v=>match v.Z9 (.slice τ) with
     | some xs=>some (.some (av n xs.length), .cO ⟨τ,xs.getD n.toNat τ.zero⟩,none)
     | none=>none
    | .row id=>match lk id with
     | some (.row _ aO xs)=>match decide (aO=τ) with
      | true=>some (.some (av n xs.length), .dN id n.toNat 0,none)
      | false=>none
     | _=>none
    | _=>none
   | _=>none
  | _=>none
 | .index T x ix=>match af E.ty T with
  | some (.str,_)=>match ev ix with
   | .aK ⟨.int _,n⟩=>match ev x with
    | .aK ⟨.str,xs⟩=>some (.some (av n xs.length), .aK ⟨.int .u8,((xs.getD n.toNat 0).toNat:Int)⟩,none)
    | _=>none
   | _=>none
  | _=>none
 | .binOp op T x y _=>match Rg E op T (ev x) (ev y) with
  | some (p,v)=>some (p,v,none)
  | none=>match Uc (match af E.ty T with
   | some (.bool,_)=>true
   | _=>false) (match o.dst with
   | some d=>E.wr.contains d
   | none=>false) op (ev x) (ev y) with
   | some (p,v)=>some (p,v,none)
   | none=>none
 | .unOp op _ x=>match op,ev x with
  | .not, .aK ⟨.bool,b⟩=>some (.none, .aK ⟨.bool,!b⟩,none)
  | .neg, .aK ⟨.int k,n⟩=>some (.some (cH k (-n)), .aK ⟨.int k,-n⟩,none)
  | _,_=>none
 | .convert src dst x=>match af E.ty src,af E.ty dst with
  | some (.int _,_),some (.int k,_)=>match ev x with
   | .aK ⟨.int _,n⟩=>some (.some (cH k n), .aK ⟨.int k,n⟩,none)
   | _=>none
  | _,_=>none
 | .slice T x lo hi mx=>match af E.ty T,mx with
  | some (.slice τ,_),none=>match ev x with
   | .aK v=>match v.Z9 (.slice τ) with
    | some xs=>match mW 0 (lo.map ev),mW (xs.length:Int) (hi.map ev) with
     | some l,some h=>some (.some (iy l h xs.length), .aK ⟨.slice τ,(xs.take h.toNat).drop l.toNat⟩,none)
     | _,_=>none
    | none=>none
   | _=>none
  | some (.str,_),none=>match ev x with
   | .aK ⟨.str,xs⟩=>match mW 0 (lo.map ev),mW (xs.length:Int) (hi.map ev) with
    | some l,some h=>some (.some (iy l h xs.length), .aK ⟨.str,(xs.take h.toNat).drop l.toNat⟩,none)
    | _,_=>none
   | _=>none
  | _,_=>none
 | .extract t i=>match ev t with
  | .fO vs=>match vs[i]? with
   | some v=>some (.none,v,none)
   | none=>none
  | _=>none
 | .makeSlice T l c=>match o.dst,af E.ty T with
  | some d,some (.slice τ,b,e)=>match ev l,ev c with
   | .aK ⟨.int .i64,n⟩, .aK ⟨.int .i64,m⟩=>some (.some (cB n m b), .row d,some (.row e τ (List.replicate n.toNat τ.zero)))
   | _,_=>none
  | _,_=>none
 | .call c=>match c.callee with
  | .builtin .len=>match c.argTypes.toList,c.args.toList.map ev with
   | [T],[v]=>match af E.ty T with
    | some (.slice _,_)=>match v with
     | .nil=>some (.none, .aK ⟨.int .i64,(0:Int)⟩,none)
     | .aK ⟨.slice _,xs⟩=>some (.none, .aK ⟨.int .i64,(xs.length:Int)⟩,none)
     | .row id=>match lk id with
      | some (.row _ _ xs)=>some (.none, .aK ⟨.int .i64,(xs.length:Int)⟩,none)
      | _=>none
     | _=>none
    | some (.str,_)=>match v with
     | .aK ⟨.str,xs⟩=>some (.none, .aK ⟨.int .i64,(xs.length:Int)⟩,none)
     | _=>none
    | none=>match v,af E.Jg T with
     | .mp id,some _=>match lk id with
      | some (.map m)=>some (.none, .aK ⟨.int .i64,(m.n:Int)⟩,none)
      | _=>none
     | _,_=>none
    | _=>none
   | _,_=>none
  | .builtin .append=>match o.dst,c.argTypes.toList with
   | some d,[T,T']=>match Nat.beq T T',af E.ty T with
    | true,some (.slice τ,b,e)=>match c.args.toList.map ev with
     | [.nil,y]=>match ic (HC lk) (.slice τ) y with
      | some ys=>some (.some (aX ys.length b), .row d,some (.row e τ ys))
      | none=>none
     | _=>none
    | _,_=>none
   | _,_=>none
  | .builtin .max=>match c.args.toList.map ev with
   | [.aK ⟨.int k,m⟩, .aK ⟨.int k',n⟩]=>match decide (k'=k) with
    | true=>some (.none, .aK ⟨.int k,(max m n:Int)⟩,none)
    | false=>none
   | _=>none
  | .value (.func f)=>Cq E lk f c.argTypes.toList (c.args.toList.map ev)
  | .value (.tmp t)=>match ev (.tmp t) with
   | .fn f=>Cq E lk f c.argTypes.toList (c.args.toList.map ev)
   | .cM f cs=>xj E lk (.cM f cs) c.argTypes.toList (c.args.toList.map ev)
   | .fV v=>xj E lk (.fV v) c.argTypes.toList (c.args.toList.map ev)
   | _=>none
  | _=>none
 | .makeMap T none=>match o.dst,af E.Jg T with
  | some d,some (κ,ε)=>some (.none, .mp d,some (.map ⟨κ,ε,gV κ.den ε.den,0⟩))
  | _,_=>none
 | .lookup T x ix ok=>match af E.Jg T with
  | some (
      κ,ε)=>match ev x,ev ix with
   | .mp id, .aK u=>match lk id,u.Z9 κ with
    | some (.map m),some k=>match m.Z9 κ ε with
     | some (f,_)=>match ok with
      | true=>some (.none, .fO [.aK ⟨ε,(f k).getD ε.zero⟩, .aK ⟨.bool,(f k).isSome⟩],none)
      | false=>some (.none, .aK ⟨ε,(f k).getD ε.zero⟩,none)
     | none=>none
    | _,_=>none
   | _,_=>none
  | none=>none
 | .makeFunc fn first captured=>match fn,first.toList,(captured.toList.map ev).all AV.Yl with
  | .func f,[],true=>match captured.toList.map ev with
   | []=>some (.none, .fn f,none)
   | cs=>some (.none, .cM f cs,none)
  | _,_,_=>none
 | _=>none
mutual
def AV.refs(id:Nat):AV->Bool
 | .ptr i _=>Nat.beq i id
 | .row i=>Nat.beq i id
 | .dN i _ _=>Nat.beq i id
 | .aA i=>Nat.beq i id
 | .sub i _ _ _=>Nat.beq i id
 | .dW i _ _ _=>Nat.beq i id
 | .mp i=>Nat.beq i id
 | .agg cs=>AV.eX id cs
 | .fO cs=>AV.eX id cs
 | .cM _ cs=>AV.eX id cs
 | _=>false
def AV.eX(id:Nat):List AV->Bool
 | []=>false
 | v::r=>match AV.refs id v with
  | true=>true
  | false=>AV.eX id r
end
def AV.kill(id:Nat)(v:AV):AV:=match v.refs id with
 | true => .any
 | false=>v
def au.kill(id:Nat):au->au
 | .box cs => .box (cs.map (AV.kill id))
 | o=>o
def ag.bM(s:ag)(id:Nat):ag :=
 { aw:=s.aw.map (AV.kill id),aC:=s.aC.map λ p=>(p.1,p.2.kill id) }
def bA(id:Nat):List (Nat×au)->List (Nat×au)
 | []=>[]
 | (k,o)::r=>match Nat.beq k id with
  | true=>bA id r
  | false=>(k,o)::bA id r
def ag.put(s:ag)(d:Option Nat)(v:AV):ag :=
 match d with
 | some d=>{ s with aw:=s.aw.set d v }
 | none=>s
def ag.lay(s:ag)(d:Option Nat)(v:AV)(o:Option au):ag :=
 match o,d with
 | some o,some d =>
  let s':=s.bM d;{ aw:=s'.aw.set d v,aC:=(d,o.kill d)::bA d s'.aC }
 | _,d=>s.put d v
mutual
def AV.rows:AV->List Nat
 | .row i=>[i]
 | .agg cs=>AV.Vq cs
 | _=>[]
def AV.Vq:List AV->List Nat
 | []=>[]
 | v::r=>AV.rows v++AV.Vq r
end
def Pm(s:ag)(v:AV):List Nat :=
 match v with
 | .ptr id _=>match s.af id with
  | some (.box cs)=>AV.Vq cs
  | _=>[]
 | v=>v.rows
def X9(s:ag)(v:AV):List Nat :=
 match v with
 | .cM _ cs=>cs.flatMap (Pm s)
 | v=>Pm s v
def iU(E:Env)(s:ag)(o:Oper):List Nat :=
 match (match o.dst with
  | some d=>E.own.contains d
  | none=>false) with
 | true=>[]
 | false=>match o.op with
 | .buildSlice _ _ parts=>parts.toList.flatMap λ p=>(s.eval p.2).rows
 | .slice _ x _ _ _=>(s.eval x).rows
 | .store _ a x=>match s.eval a with
  | .dN _ _ _=>(s.eval x).rows
  | _=>[]
 | .call c=>match c.callee with
  | .value _=>match E.Iw (match c.callee with
    | .value (.func f)=>f
    | .value (.tmp t)=>match s.eval (.tmp t) with
     | .fn f=>f
     | _=>0
    | _=>0) (match jP E s.af c.argTypes.toList (c.args.toList.map s.eval) with
     | some Z9=>Z9
     | none=>[]) with
   | some (_,res)=>match res.all TV.flat with
    | true=>[]
    | false=>c.args.toList.flatMap λ x=>X9 s (s.eval x)
   | none=>[]
  | _=>[]
 | _=>[]
mutual
def AV.Df(id:Nat)(u:AV):AV->AV
 | .row i=>match Nat.beq i id with
  | true=>u
  | false => .row i
 | .dN i k off=>match Nat.beq i id with
  | true => .any
  | false => .dN i k off
 | .agg cs => .agg (AV.ML id u cs)
 | .fO cs => .fO (AV.ML id u cs)
 | .cM f cs => .cM f (AV.ML id u cs)
 | v=>v
def AV.ML(id:Nat)(u:AV):List AV->List AV
 | []=>[]
 | v::r=>AV.Df id u v::AV.ML id u r
end
def au.Df(id:Nat)(u:AV):au->au
 | .box cs => .box (AV.ML id u cs)
 | o=>o
mutual
def AV.Ao(id:Nat)(u:AV):AV->AV
 | .aA i=>match Nat.beq i id with
  | true=>u
  | false => .aA i
 | .sub i k off z=>match Nat.beq i id with
  | true => .any
  | false => .sub i k off z
 | .dW i k off z=>match Nat.beq i id with
  | true => .any
  | false => .dW i k off z
 | .agg cs => .agg (AV.MJ id u cs)
 | .fO cs => .fO (AV.MJ id u cs)
 | .cM f cs => .cM f (AV.MJ id u cs)
 | v=>v
def AV.MJ(id:Nat)(u:AV):List AV->List AV
 | []=>[]
 | v::r=>AV.Ao id u v::AV.MJ id u r
end
def au.Ao(id:Nat)(u:AV):au->au
 | .box cs => .box (AV.MJ id u cs)
 | o=>o
def ag.freeze(s:ag)(id:Nat):ag :=
 match s.af id with
 | some (.row _ τ xs) =>
  { aw:=AV.ML id (.aK ⟨.slice τ,xs⟩) s.aw,aC:=(bA id s.aC).map λ p=>(p.1,p.2.Df id (.aK ⟨.slice τ,xs⟩)) }
 | some (.aA τ xs) =>
  { aw:=AV.MJ id (.aK ⟨.slice τ,xs⟩) s.aw,aC:=(bA id s.aC).map λ p=>(p.1,p.2.Ao id (.aK ⟨.slice τ,xs⟩)) }
 | _=>s
def CC(E:Env)(s:ag)(d:Option Nat)(T:TypeId)(m k x:Operand):Option (Vc×ag):=match af E.Jg T with
 | some (κ,ε)=>match s.eval m,s.eval k,s.eval x with
  | .mp id, .aK u, .aK v=>match s.af id,u.Z9 κ,v.Z9 ε with
   | some (.map m),some k,some x=>match m.Z9 κ ε with
    | some (f,n)=>some (.some (n<1000000000),{ s with aC:=(id, .map ⟨κ,ε,fK f k x,gB (f k) n⟩)::bA id s.aC }.put d .any)
    | none=>none
   | _,_,_=>none
  | _,_,_=>none
 | none=>none
def Qy(E:Env)(s:ag)(o:Oper):Option (Vc×ag) :=
 match o.op with
 | .mapUpdate T m k x=>CC E s o.dst T m k x
 | .insert T m k x=>CC E s o.dst T m k x
 | .store T a x=>match af E.ty T with
  | some (
      τ,_)=>match s.eval a with
   | .ptr id off=>match s.af id with
    | some (.box cs)=>match cellsOf τ (s.eval x) with
     | some new=>match putCells cs off new with
      | some dm=>some (.none,{ s with aC:=(id, .box dm)::bA id s.aC }.put o.dst .any)
      | none=>none
     | none=>none
    | _=>none
   | .dN id i 0=>match s.af id with
    | some (.row e' aO xs)=>match decide (aO=τ),ur (λ _=>none) aO (s.eval x) with
     | true,some x=>some (.none,{ s with aC:=(id, .row e' aO (xs.set i x))::bA id s.aC }.put o.dst .any)
     | _,_=>none
    | _=>none
   | _=>none
  | none=>none
 | .call c=>match c.callee with
  | .builtin .append=>match o.dst,c.argTypes.toList with
   | some d,[T,T']=>match Nat.beq T T',af E.ty T with
    | true,some (.slice τ,b,e)=>match c.args.toList.map s.eval with
     | [.row id,y]=>match s.af id,ic (HC s.af) (.slice τ) y with
      | some (.row e' aO xs),some ys=>match Nat.beq e' e,TV.Z9 (.slice τ) ⟨.slice aO,xs⟩ with
       | true,some cI =>
        let s':=s.bM id;some (.some (aX (cI.length+ys.length) b),{ aw:=s'.aw.set d (.row id),aC:=(id, .row e τ (cI++ys))::bA id s'.aC })
       | _,_=>none
      | _,_=>none
     | _=>none
    | _,_=>none
   | _,_=>none
  | _=>none
 | _=>none
def nodupB:List Nat->Bool
 | []=>true
 | a::r=>match r.contains a with
  | true=>false
  | false=>nodupB r
def cS:Option au->Bool
 | some (.aA ..)=>true
 | _=>false
def lA(id:Nat):TV->AV
 | ⟨.slice _,_⟩ => .aA id
 | ⟨.mv _,_⟩ => .any
 | u => .aK u
def eR(id:Nat):TV->List (Nat×au)
 | ⟨.slice τ,xs⟩=>[(id, .aA τ xs)]
 | _=>[]
def dx:Nat->List TV->List AV
 | _,[]=>[]
 | id,u::r=>lA id u::dx (id+1) r
def bR:Nat->List TV->List (Nat×au)
 | _,[]=>[]
 | id,u::r=>eR id u++bR (id+1) r
def gE(id:Nat):TV->AV
 | ⟨.st s,y⟩ => .agg (dx id (s.cells y))
 | v=>lA id v
def HH:Nat->List TV->List AV
 | _,[]=>[]
 | id,v::r=>gE id v::HH (id+20) r
def aU:Nat->List TV->List (Nat×au)
 | _,[]=>[]
 | id,v::r=>bR id v.cells++aU (id+20) r
def iH(id:Nat):List TV->AV
 | [v]=>gE id v
 | vs => .fO (HH id vs)
def Ty.agg:Ty->Bool
 | .st _=>true
 | _=>false
def Ty.rN:Ty->Bool
 | .int _ | .bool | .str | .ptr=>true
 | _=>false
def Ty.key:Ty->Bool
 | .int _ | .bool | .str=>true
 | _=>false
def Ty.plain:Ty->Bool
 | .st s=>s.pG.all Ty.rN
 | .slice _=>false
 | .mv _=>false
 | _=>true
def eh(lk:Nat->Option au)(τ:Ty):AV->Option (τ.den×List Nat)
 | .aK v=>match τ.rN,v.Z9 τ with
  | true,some y=>some (y,[])
  | _,_=>none
 | .nil=>match τ with
  | .slice _=>some ([],[])
  | _=>none
 | .aA id=>match lk id with
  | some (.aA aO xs)=>match TV.Z9 τ ⟨.slice aO,xs⟩ with
   | some y=>some (y,[id])
   | none=>none
  | _=>none
 | .row id=>match lk id with
  | some (.row _ aO xs)=>match aO.plain,TV.Z9 τ ⟨.slice aO,xs⟩ with
   | true,some y=>some (y,[id])
   | _,_=>none
  | _=>none
 | _=>none
def H3(lk:Nat->Option au):List AV->List Ty->Option (List TV×List Nat)
 | [],[]=>some ([],[])
 | c::cs,t::ts=>match eh lk t c with
  | some (x,i)=>match H3 lk cs ts with
   | some (r,j)=>some (⟨t,x⟩::r,i++j)
   | none=>none
  | none=>none
 | _,_=>none
def FI(lk:Nat->Option au)(τ:Ty):AV->Option (τ.den×List Nat)
 | .agg cs=>match τ with
  | .st s=>match H3 lk cs s.pG with
   | some (l,ids)=>match s.gW l with
    | some y=>some (y,ids)
    | none=>none
   | none=>none
  | _=>none
 | v=>eh lk τ v
mutual
def AV.HY:AV->Bool
 | .sub .. => true
 | .agg cs=>AV.mz cs
 | .fO cs=>AV.mz cs
 | .cM _ cs=>AV.mz cs
 | _=>false
def AV.mz:List AV->Bool
 | []=>false
 | v::r=>match AV.HY v with
  | true=>true
  | false=>AV.mz r
end
def AV.cN(v:AV):AV:=match v.HY with
 | true => .any
 | false=>v
def au.cN:au->au
 | .box cs => .box (cs.map AV.cN)
 | o=>o
def ag.cd(s:ag):ag:={ aw:=s.aw.map AV.cN,aC:=s.aC.map λ p=>(p.1,p.2.cN) }
def ag.hU(s:ag)(id:Nat)(τ:Ty)(xs:List τ.den):ag :=
 { s with aC:=(id, .aA τ xs)::bA id s.aC }
def ag.gone(s:ag)(id:Nat):ag :=
 let s':=s.bM id
 { s' with aC:=bA id s'.aC }
def lB(τ:Ty)(x:τ.den)(off:Nat)(u:TV):Option τ.den :=
 match τ with
 | .st s=>match (s.cells x)[off]? with
  | some v=>match decide (v.τ=u.τ) with
   | true=>s.gW ((s.cells x).set off u)
   | false=>none
  | none=>none
 | τ=>match Nat.beq off 0 with
  | true=>u.Z9 τ
  | false=>none
def Ty.full:Ty->Ty
 | .mv t => .slice t
 | t=>t
def Ty.a3g:Ty->Ty->Bool
 | .st p, .st q=>decide (p.pG.map Ty.full=q.pG)
 | _,_=>false
def Ty.LK:Ty->Bool
 | .mv _=>true
 | t=>t.rN
def Uv:TV->TV
 | ⟨.mv t,o⟩=>⟨.slice t,Option.getD (α:=List t.den) o []⟩
 | u=>u
def Qx:TV->TV
 | ⟨.mv t,_⟩=>⟨.mv t,(none:Option (List t.den))⟩
 | u=>u
def wV:List TV->Prop
 | []=>True
 | ⟨.mv t,o⟩::r=>Option.isSome (α:=List t.den) o=true/\wV r
 | _::r=>wV r
def a1P(_:ag)(_:Nat)(_:RS)(_:List AV):Option (Vc×ag):=none
def Um:Ty->Bool
 | .slice _=>true
 | t=>t.rN
def Iy(id i sz:Nat):Nat->List TV->List AV
 | _,[]=>[]
 | j,u::us=>(match u.τ.rN with
  | true => .aK u
  | false => .sub id i j sz)::Iy id i sz (j+1) us
def S8(s:ag)(d:Option Nat)(id i off sz:Nat)(τ aO:Ty)(xs:List aO.den):Option (Vc×ag):=match τ with
 | .st q=>match Nat.beq q.size sz&&(Nat.beq off 0&&q.pG.all Um),TV.Z9 (.st q) ⟨aO,xs.getD i aO.zero⟩ with
  | true,some y=>some (.none,s.put d (.agg (Iy id i sz 0 (q.cells y))))
  | _,_=>none
 | _=>none
def Rj(E:Env)(s:ag)(o:Oper):Option (Vc×ag) :=
 match o.op with
 | .indexAddr T x ix=>match af E.ty T with
  | some (.slice τ,_)=>match s.eval ix,s.eval x with
   | .aK ⟨.int _,n⟩, .aA id=>match s.af id with
    | some (.aA aO xs)=>match decide (aO=τ)||aO.a3g τ with
     | true=>some (.some (av n xs.length),s.put o.dst (.dW id n.toNat 0 τ.size))
     | false=>none
    | _=>none
   | _,_=>none
  | _=>none
 | .fieldAddr T x i=>match af E.ty T with
  | some (.st n,_)=>match s.eval x with
   | .dW id k off sz=>match Nat.blt i n.fI.length with
    | true=>some (.none,s.put o.dst (.dW id k (off+n.eu i) sz))
    | false=>none
   | _=>none
  | _=>none
 | .load T ad=>match af E.ty T with
  | some (
      τ,_)=>match s.eval ad with
   | .dW id i off sz=>match s.af id with
    | some (.aA aO xs)=>match TV.part ⟨aO,xs.getD i aO.zero⟩ off τ,Nat.beq aO.size sz&&(!τ.agg&&Nat.blt off aO.size) with
     | some u,true=>match τ.rN with
      | true=>some (.none,s.put o.dst (.aK u))
      | false=>some (.none,s.put o.dst (.sub id i off sz))
     | _,_=>S8 s o.dst id i off sz τ aO xs
    | _=>none
   | _=>none
  | none=>none
 | .store T ad x=>match af E.ty T with
  | some (
      τ,_)=>match s.eval ad with
   | .dW id i off sz=>match s.af id with
    | some (
        .aA aO xs)=>match Nat.beq aO.size sz&&Nat.blt off aO.size with
     | true=>match τ.rN with
      | true=>match eh (λ _=>none) τ (s.eval x) with
       | some (u,_)=>match TV.part ⟨aO,xs.getD i aO.zero⟩ off τ,lB aO (xs.getD i aO.zero) off ⟨τ,u⟩ with
        | some _,some y=>some (.none,(s.cd.hU id aO (xs.set i y)).put o.dst .any)
        | _,_=>none
       | none=>none
      | false=>match Nat.beq off 0,FI s.af τ (s.eval x) with
       | true,some (y,ids)=>match nodupB (id::ids),TV.Z9 aO ⟨τ,y⟩ with
        | true,some y'=>some (.none,((ids.foldl ag.gone s).cd.hU id aO (xs.set i y')).put o.dst .any)
        | _,_=>none
       | _,_=>none
     | false=>none
    | _=>none
   | _=>none
  | none=>none
 | .makeSlice T l cc=>match o.dst,af E.ty T with
  | some d,some (.slice τ,b,_)=>match E.own.contains d&&(Nat.blt d 50||Nat.ble 100 d) with
   | true=>match s.eval l,s.eval cc with
    | .aK ⟨.int .i64,n⟩, .aK ⟨.int .i64,m⟩=>some (.some (cB n m b),{ aw:=(s.gone d).aw.set d (.aA d),aC:=(d, .aA τ (List.replicate n.toNat τ.zero))::(s.gone d).aC })
    | _,_=>none
   | false=>none
  | _,_=>none
 | .call c=>match c.callee with
  | .builtin .len=>match c.argTypes.toList,c.args.toList.map s.eval with
   | [T],[.aA id]=>match af E.ty T,s.af id with
    | some (.slice _,_),some (.aA _ xs)=>some (.none,s.put o.dst (.aK ⟨.int .i64,(xs.length:Int)⟩))
    | _,_=>none
   | _,_=>none
  | .value (
       .func f)=>match o.dst with
   | some d=>match E.own.contains d with
    | true=>match E.mark f with
     | some m=>a1P s d m (c.args.toList.map s.eval)
     | none=>match jP E s.af c.argTypes.toList (c.args.toList.map s.eval) with
      | some Z9=>match E.HD f Z9 with
       | some (pre,res)=>match ((aU (100 * (d+1)) res).all λ p=>(s.af p.1).isNone)&&nodupB ((aU (100 * (d+1)) res).map (·.1)) with
        | true=>some (pre,{ aw:=s.aw.set d (iH (100 * (d+1)) res),aC:=aU (100 * (d+1)) res++s.aC })
        | false=>none
       | none=>none
      | none=>none
    | false=>none
   | none=>none
  | _=>none
 | _=>none
def bD(d:Nat):Nat:=100 * (d+1)
def Ce(lk:Nat->Option au)(τ:Ty):Nat->List (Nat×AV)->Option (List τ.den×List Nat)
 | _,[]=>some ([],[])
 | n,(
    i,v)::r=>match Nat.beq i n with
  | true=>match FI lk τ v with
   | some (x,ids)=>match Ce lk τ (n+1) r with
    | some (xs,js)=>some (x::xs,ids++js)
    | none=>none
   | none=>none
  | false=>none
def ag.pB(s:ag)(d:Nat)(τ:Ty)(xs:List τ.den):ag :=
 { aw:=s.aw.set d (.aA (bD d)),aC:=(bD d, .aA τ xs)::s.aC }
def fC(E:Env)(lk:Nat->Option au):List Bool->List TypeId->List AV->Option (List (Option TV)×List Nat)
 | [],[],[]=>some ([],[])
 | true::fl,T::Ts,v::vs=>match af E.ty T with
  | some (τ,_)=>match FI lk τ v with
   | some (x,i)=>match fC E lk fl Ts vs with
    | some (r,j)=>some (some ⟨τ,x⟩::r,i++j)
    | none=>none
   | none=>none
  | none=>none
 | false::fl,_::Ts,_::vs=>match fC E lk fl Ts vs with
  | some (r,j)=>some (none::r,j)
  | none=>none
 | _,_,_=>none
def eD(E:Env)(lk:Nat->Option au):List (Option TV)->List TypeId->List AV->Option (List Arg)
 | [],[],[]=>some []
 | some x::r,_::Ts,_::vs=>match eD E lk r Ts vs with
  | some Z9=>some (.own x::Z9)
  | none=>none
 | none::r,T::Ts,v::vs=>match L8 E lk T v with
  | some x=>match x.FC,eD E lk r Ts vs with
   | true,some Z9=>some (x::Z9)
   | _,_=>none
  | none=>none
 | _,_,_=>none
def Qk(E:Env)(s:ag)(o:Oper):Option (Vc×ag) :=
 match o.dst with
 | some d=>match E.own.contains d with
  | true=>match o.op with
   | .buildSlice T len parts=>match af E.ty T with
    | some (.slice τ,_)=>match Nat.beq parts.size len&&Nat.ble len 1000 with
     | true=>match Ce s.af τ 0 (parts.toList.map λ p=>(p.1,s.eval p.2)) with
      | some (xs,ids)=>match nodupB ids,(ids.foldl ag.gone s).af (bD d) with
       | true,none=>some (.none,(ids.foldl ag.gone s).pB d τ xs)
       | _,_=>none
      | none=>none
     | false=>none
    | _=>none
   | .load T ad=>match af E.ty T,s.eval ad with
    | some (.st q,_), .dW id i 0 sz=>match s.af id with
     | some (.aA (.st p) xs)=>match Nat.beq p.size sz&&p.pG.all Ty.LK,p.gW ((p.cells (xs.getD i (Ty.zero (.st p)))).map Qx),q.gW ((p.cells (xs.getD i (Ty.zero (.st p)))).map Uv) with
      | true,some y,some z=>match ((bR (bD d) (q.cells z)).all λ e=>(s.af e.1).isNone)&&nodupB ((bR (bD d) (q.cells z)).map (·.1)) with
       | true=>some (.some (wV (p.cells (xs.getD i (Ty.zero (.st p))))),{ aw:=s.cd.aw.set d (gE (bD d) ⟨.st q,z⟩),aC:=bR (bD d) (q.cells z)++(s.cd.hU id (.st p) (xs.set i y)).aC })
       | false=>none
      | _,_,_=>none
     | _=>none
    | _,_=>none
   | .call c=>match c.callee with
    | .builtin .append=>match c.argTypes.toList with
     | [T,T']=>match Nat.beq T T',af E.ty T with
      | true,some (.slice τ,b,_)=>match c.args.toList.map s.eval with
       | [x,y]=>match eh s.af (.slice τ) x,eh s.af (.slice τ) y with
        | some (xs,i),some (ys,j)=>match nodupB (i++j),((i++j).foldl ag.gone s).af (bD d) with
         | true,none=>some (.some (aX (xs.length+ys.length) b),((i++j).foldl ag.gone s).pB d τ (xs++ys))
         | _,_=>none
        | _,_=>none
       | _=>none
      | _,_=>none
     | _=>none
    | .value (
         .func f)=>match E.tk f with
     | []=>none
     | fl=>match fC E s.af fl c.argTypes.toList (c.args.toList.map s.eval) with
      | some (own,ids)=>match nodupB ids,eD E (ids.foldl ag.gone s).af own c.argTypes.toList (c.args.toList.map (ids.foldl ag.gone s).eval) with
       | true,some Z9=>match E.HD f Z9 with
        | some (pre,res)=>match ((aU (bD d) res).all λ p=>((ids.foldl ag.gone s).af p.1).isNone)&&nodupB ((aU (bD d) res).map (·.1)) with
         | true=>some (pre,{ aw:=(ids.foldl ag.gone s).aw.set d (iH (bD d) res),aC:=aU (bD d) res++(ids.foldl ag.gone s).aC })
         | false=>none
        | none=>none
       | _,_=>none
      | none=>none
    | _=>none
   | _=>none
  | false=>none
 | none=>none
def gH:List (Option Nat)->List AV->List (Nat×Nat)->Option (List (Nat×Nat))
 | [],[],m=>some m
 | some k::fl,v::vs,m=>match v with
  | .ptr id 0=>match af m k with
   | some i=>match Nat.beq i id with
    | true=>gH fl vs m
    | false=>none
   | none=>gH fl vs ((k,id)::m)
  | _=>none
 | none::fl,_::vs,m=>gH fl vs m
 | _,_,_=>none
def cJ(lk:Nat->Option au):List CK->List AV->List (Nat×Nat)->Option (List TV×List Nat×List (Nat×Nat))
 | [],[],m=>some ([],[],m)
 | .d τ::ks,v::vs,m=>match ic (λ _=>none) τ v,τ.agg with
  | some x,false=>match cJ lk ks vs m with
   | some (ds,ids,m)=>some (⟨τ,x⟩::ds,ids,m)
   | none=>none
  | _,_=>none
 | .o τ::ks,v::vs,m=>match eh lk τ v,τ.agg with
  | some (x,i),false=>match cJ lk ks vs m with
   | some (ds,ids,m)=>some (⟨τ,x⟩::ds,i++ids,m)
   | none=>none
  | _,_=>none
 | .p j::ks,v::vs,m=>match v with
  | .ptr id 0=>match af m j with
   | some i=>match Nat.beq i id with
    | true=>cJ lk ks vs m
    | false=>none
   | none=>cJ lk ks vs ((j,id)::m)
  | _=>none
 | _,_,_=>none
def jM(lk:Nat->Option au):List (List CK)->Nat->List (Nat×Nat)->Option (List (List TV)×List Nat×List (Nat×Nat))
 | [],_,m=>some ([],[],m)
 | ks::sh,k,m=>match af m k with
  | some id=>match lk id with
   | some (.box cs)=>match cJ lk ks cs m with
    | some (ds,i,m)=>match jM lk sh (k+1) m with
     | some (cw,ids,m)=>some (ds::cw,i++ids,m)
     | none=>none
    | none=>none
   | _=>none
  | none=>none
def Vi(lk:Nat->Option au)(ids:List Nat)(id:Nat):Option au:=match ids.contains id with
 | true=>none
 | false=>match lk id with
  | some (.box cs)=>some (.box cs)
  | _=>none
def GG(sh:List (List CK)):Bool:=sh.all λ ks=>ks.all λ k=>match k with
 | .d (.slice _)=>false
 | .d (.mv _)=>false
 | _=>true
def Xv(sh:List (List CK))(lk:Nat->Option au)(ids:List Nat)(id:Nat):Option au:=match GG sh with
 | true=>match ids.contains id with
  | true=>none
  | false=>lk id
 | false=>Vi lk ids id
def pc(E:Env)(lk:Nat->Option au):List (Option Nat)->List TypeId->List AV->Option (List Arg)
 | [],[],[]=>some []
 | some k::fl,_::Ts,_::vs=>match pc E lk fl Ts vs with
  | some r=>some (.box k::r)
  | none=>none
 | none::fl,T::Ts,v::vs=>match L8 E lk T v with
  | some x=>match pc E lk fl Ts vs with
   | some r=>some (x::r)
   | none=>none
  | none=>none
 | _,_,_=>none
def bL(m:List (Nat×Nat)):List CK->List AV->List TV->Nat->Option (List AV×List (Nat×au)×Nat)
 | [],[],[],n=>some ([],[],n)
 | .d τ::ks,_::cs,v::ds,n=>match decide (v.τ=τ) with
  | true=>match bL m ks cs ds n with
   | some (r,os,n)=>some (.aK v::r,os,n)
   | none=>none
  | false=>none
 | .o τ::ks,_::cs,v::ds,n=>match decide (v.τ=τ) with
  | true=>match bL m ks cs ds (n+1) with
   | some (r,os,n')=>some (lA n v::r,eR n v++os,n')
   | none=>none
  | false=>none
 | .p j::ks,c::cs,ds,n=>match c with
  | .ptr id 0=>match af m j with
   | some i=>match Nat.beq i id,bL m ks cs ds n with
    | true,some (r,os,n)=>some (.ptr id 0::r,os,n)
    | _,_=>none
   | none=>none
  | _=>none
 | _,_,_,_=>none
def oX(lk:Nat->Option au)(m:List (Nat×Nat)):List (List CK)->Nat->List (List TV)->Nat->Option (List (Nat×au)×List (Nat×au))
 | [],_,[],_=>some ([],[])
 | ks::sh,k,ds::cw,n=>match af m k with
  | some id=>match lk id with
   | some (.box cs)=>match bL m ks cs ds n with
    | some (r,os,n)=>match oX lk m sh (k+1) cw n with
     | some (bs,ts)=>some ((id, .box r)::bs,os++ts)
     | none=>none
    | none=>none
   | _=>none
  | none=>none
 | _,_,_,_=>none
def fA:List Nat->List (Nat×au)->List (Nat×au)
 | [],os=>os
 | id::r,os=>fA r (bA id os)
def Rw(E:Env)(s:ag)(o:Oper):Option (Vc×ag) :=
 match o.dst with
 | some d=>match o.op with
  | .call c=>match c.callee with
   | .value (
        .func f)=>match E.sk f with
    | some sk=>match gH sk.ps (c.args.toList.map s.eval) [] with
     | some m0=>match jM s.af sk.sh 0 m0 with
      | some (
          cw,ids,m)=>match nodupB ids&&(nodupB (m.map (·.1))&&(nodupB (m.map (·.2))&&Nat.beq m.length sk.sh.length)) with
       | true=>match pc E (Xv sk.sh (ids.foldl ag.gone s).af (m.map (·.2))) sk.ps c.argTypes.toList (c.args.toList.map (ids.foldl ag.gone s).eval) with
        | some Z9=>match E.PZ f Z9 cw with
         | some (pre,res,ej)=>match oX (ids.foldl ag.gone s).af m sk.sh 0 ej (bD d+60) with
          | some (bs,ts)=>match ((aU (bD d) res++ts).all λ p=>((ids.foldl ag.gone s).af p.1).isNone)&&nodupB ((aU (bD d) res++ts).map (·.1)) with
           | true=>some (pre,{ aw:=(ids.foldl ag.gone s).aw.set d (iH (bD d) res),aC:=bs++(aU (bD d) res++ts)++fA (m.map (·.2)) (ids.foldl ag.gone s).aC })
           | false=>none
          | none=>none
         | none=>none
        | none=>none
       | false=>none
      | none=>none
     | none=>none
    | none =>
      none
   | _=>none
  | _=>none
 | none=>none
def known(v:AV)(K:Prop):Prop :=
 match v with
 | .aK ⟨.int .i64,n⟩=>ai n->K
 | .aK ⟨.slice _,xs⟩=>xs.length<=140737488355328->K
 | .aK ⟨.str,xs⟩=>xs.length<=140737488355328->K
 | _=>K
def Ot:Op->Bool
 | .load .. | .field .. | .index .. | .extract .. => true
 | .call c=>match c.callee with
  | .builtin .append=>false
  | _=>true
 | _=>false
def pY:Option Nat->Bool
 | none=>true
 | some d=>Nat.blt d 400000
def AV.stays:AV->Bool
 | .aK v=>match v.τ with
  | .ptr=>false
  | _=>true
 | .cO _=>true
 | _=>false
def a6Q:Bool×TV->AV
 | (true,v) => .cO v
 | (false,v) => .aK v
def Rh(E:Env)(s:ag)(o:Oper):Option (Vc×AV×Option au):=match o.op with
 | .call c=>match c.callee with
  | .value (.func f)=>match o.dst with
   | some d=>match jP E (pq s.af) c.argTypes.toList (c.args.toList.map s.eval) with
    | some Z9=>match E.NI f Z9 with
     | some (pre, .box cells)=>some (pre, .ptr d 0,some (.box (cells.map .aK)))
     | some (pre, .row e τ xs)=>some (pre, .row d,some (.row e τ xs))
     | some (pre, .res l)=>match (c.args.toList.map s.eval).all AV.stays with
      | true=>some (pre, .fO (l.map a6Q),none)
      | false=>none
     | none=>none
    | none=>none
   | none=>none
  | _=>none
 | _=>none
def jc(E:Env)(o:Oper)(K:ag->Prop)(s:ag):Prop :=
 match pY o.dst with
 | false=>False
 | true =>
 let s:=(iU E s o).foldl ag.freeze s;match Rw E s o with
 | some (vc,s')=>vc.and (K s')
 | none=>match Qk E s o with
 | some (vc,s')=>vc.and (K s')
 | none=>match Qy E s o with
 | some (vc,s')=>vc.and (K s')
 | none=>match Rj E s o with
 | some (vc,s')=>vc.and (K s')
 | none=>match Rh E s o with
 | some (vc,v,ob)=>vc.and (K (s.lay o.dst v ob))
 | none=>match Fv E s.af s.eval o with
  | some (vc,v,ob)=>vc.and (match Ot o.op with
   | true=>known v (K (s.lay o.dst v ob))
   | false=>K (s.lay o.dst v ob))
  | none=>False
def tw(ops:Array Oper)(g:Nat):Option Nat:=(ops[g]?).bind (·.dst)
def ei(
      E:Env) (ops:Array Oper):List Oper->List (Nat×Bool)->(ag->Prop)->ag->Prop
 | [],_,Q,s=>Q s
 | o::r,kn,Q,s=>match o.guard with
  | none=>jc E o (ei E ops r kn Q) s
  | some (
      g,want)=>match tw ops g with
   | none=>False
   | some t=>match af kn t with
    | some b=>match s.eval (.tmp t) with
     | .aK ⟨.bool,b'⟩=>match b' == b,b == want with
      | true,true=>jc E o (ei E ops r kn Q) s
      | true,false=>ei E ops r kn Q (s.put o.dst .dG)
      | false,_=>False
     | .dG=>ei E ops r kn Q (s.put o.dst .dG)
     | _=>False
    | none=>match s.eval (.tmp t) with
     | .aK ⟨.bool,b⟩ =>
      (b=want->jc E o (ei E ops r ((t,want)::kn) Q) (s.put (some t) (.aK ⟨.bool,want⟩))) /\
      (b = !want->ei E ops r ((t,!want)::kn) Q ((s.put (some t) (.aK ⟨.bool,!want⟩)).put o.dst .dG))
     | .dG=>ei E ops r kn Q (s.put o.dst .dG)
     | _=>False
def sf(acc:List Nat)(s:Nat)(e:Edge):Nat :=
 match Region.binds .any e with
 | true=>s ||| (1 <<< e.on ||| acc.getD e.on 0)
 | false=>s
def bE:List Oper->List Nat->List Nat
 | [],acc=>acc
 | o::r,acc=>bE r (acc++[o.after.toList.foldl (sf acc) 0])
def lC:List Nat->Nat->Nat->Nat
 | [],_,m=>m
 | b::r,i,m=>match Nat.beq (b+1) (2 ^ i) with
  | true=>lC r (i+1) m
  | false=>lC r (i+1) (i+1)
def bU(ops:List Oper)(k:Nat):Option Nat:=(ops[k]?).bind (·.dst)
def hidden(ops:List Oper)(m bits t:Nat):Bool:=(List.range m).any λ k=>match bU ops k with
 | some d=>match Nat.beq d t with
  | true => !Nat.testBit bits k
  | false=>false
 | none=>false
def OD(ops:List Oper)(m bits:Nat)(s:ag):Operand->AV
 | .tmp t=>match hidden ops m bits t with
  | true => .any
  | false=>s.eval (.tmp t)
 | x=>s.eval x
def Ln(ops:List Oper)(m bits:Nat)(s:ag)(id:Nat):Option au:=match hidden ops m bits id with
 | true=>none
 | false=>s.af id
def sP:Op->Bool
 | .alloc _ | .box .. | .buildSlice .. | .makeSlice .. | .makeMap .. => true
 | .call c=>match c.callee with
  | .builtin .append=>true
  | _=>false
 | _=>false
def ag.fresh(s:ag)(o:Oper):ag :=
 match sP o.op,o.dst with
 | true,some d=>let s':=s.bM d
  { s' with aC:=bA d s'.aC }
 | _,_=>s
def ag.gR(s:ag)(d:Option Nat)(v:AV)(o:Option au):ag :=
 match d with
 | some d=>{ aw:=s.aw.set d v,aC:=match o with
  | some o=>(d,o)::s.aC
  | none=>s.aC }
 | none=>s
def HQ(E:Env)(ops:List Oper)(m bits:Nat)(o:Oper)(K:ag->Prop)(s:ag):Prop :=
 match iU E s o with
 | []=>match Fv E (Ln ops m bits s) (OD ops m bits s) o with
  | some (vc,v,ob)=>vc.and (K (s.gR o.dst v ob))
  | none=>False
 | _=>False
def j8(
      E:Env) (ops:List Oper) (m:Nat) (bK:List Nat):Nat->List Oper->List (Nat×Bool)->(List (Nat×Bool)->ag->Prop)->ag->Prop
 | _,[],kn,Q,s=>Q kn s
 | i,o::r,kn,Q,s=>match o.guard with
  | none=>HQ E ops m (bK.getD i 0) o (j8 E ops m bK (i+1) r kn Q) s
  | some (
      g,want)=>match bU ops g,Nat.testBit (bK.getD i 0) g with
   | some t,true=>match af kn t with
    | some b=>match s.eval (.tmp t) with
     | .aK ⟨.bool,b'⟩=>match b' == b,b == want with
      | true,true=>HQ E ops m (bK.getD i 0) o (j8 E ops m bK (i+1) r kn Q) s
      | true,false=>j8 E ops m bK (i+1) r kn Q (s.put o.dst .dG)
      | false,_=>False
     | .dG=>j8 E ops m bK (i+1) r kn Q (s.put o.dst .dG)
     | _=>False
    | none=>match s.eval (.tmp t) with
     | .aK ⟨.bool,b⟩ =>
      (b=want->HQ E ops m (bK.getD i 0) o (j8 E ops m bK (i+1) r ((t,want)::kn) Q) (s.put (some t) (.aK ⟨.bool,want⟩))) /\
      (b = !want->j8 E ops m bK (i+1) r ((t,!want)::kn) Q ((s.put (some t) (.aK ⟨.bool,!want⟩)).put o.dst .dG))
     | .dG=>j8 E ops m bK (i+1) r kn Q (s.put o.dst .dG)
     | _=>False
   | _,_=>False
def distinct:List (Option Nat)->Bool
 | []=>true
 | none::_=>false
 | some d::r=>match r.any λ x=>match x with
   | some e=>Nat.beq d e
   | none=>false with
  | true=>false
  | false=>distinct r
def backward(ops:List Oper):Bool:=(List.range ops.length).all λ i=>match ops[i]? with
 | some o=>o.after.toList.all λ e=>match Region.binds .any e with
  | true=>Nat.blt e.on i
  | false=>true
 | none=>true
def si(ops:List Oper)(s:ag)(K:Prop):Prop :=
 match ops with
 | []=>K
 | o::r=>match Ot o.op,o.dst with
  | true,some d=>known (s.aw.getD d .any) (si r s K)
  | _,_=>si r s K
def Nb(bK:List Nat)(p:Nat):Bool:=(bK.drop p).all λ b=>Nat.beq (b % 2 ^ p) (2 ^ p - 1)
def Qq(bK:List Nat):List Nat->List Nat
 | []=>[]
 | p::r=>match Nb bK p with
  | true=>p::Qq bK r
  | false=>Qq bK r
def sR:List (Option Nat)->Bool
 | []=>true
 | none::r=>sR r
 | some d::r=>match r.any λ x=>match x with
   | some e=>Nat.beq d e
   | none=>false with
  | true=>false
  | false=>sR r
def Bc(l:List Oper)(lo hi:Nat):Bool :=
 ((
  (l.take hi).drop lo).all λ o=>pY o.dst)&&sR (((l.take hi).drop lo).map (·.dst))&&(l.take lo).all λ o=>match o.dst with
  | none=>true
  | some d => !(((l.take hi).drop lo).any λ p=>match p.dst with
   | some e=>Nat.beq d e
   | none=>false)
def Oper.alone(E:Env)(o:Oper):Bool:=match o.op with
 | .store .. | .mapUpdate .. | .insert .. => true
 | _=>match o.dst with
  | some d=>E.own.contains d
  | none=>false
def uj(u v:TV):Prop:=match u.Z9 v.τ with
 | some x=>x=v.x
 | none=>False
def Rk:Op->Option (List Operand)
 | .move x | .assign x | .nilCheck x | .fieldAddr _ x _ | .load _ x | .box _ x | .extract x _=>some [x]
 | .indexAddr _ x i | .store _ x i | .lookup _ x i _=>some [x,i]
 | .mapUpdate _ m k x | .insert _ m k x=>some [m,k,x]
 | .makeMap _ none=>some []
 | .alloc _=>some []
 | .binOp _ _ x y _=>some [x,y]
 | .build _ ps=>some (ps.toList.map (·.2))
 | .buildSlice _ _ ps=>some (ps.toList.map (·.2))
 | .call c=>match c.callee with
  | .value f=>some (f::c.args.toList)
  | .builtin _=>some c.args.toList
  | _=>none
 | .pick c x y=>some [c,x,y]
 | .slice _ x l h m=>some (x::(l.toList++(h.toList++m.toList)))
 | _=>none
def eU(D:List Nat)(o:Oper):Bool:=match Rk o.op with
 | some l=>l.all λ x=>match x with
  | .tmp t => !D.contains t
  | _=>true
 | none=>false
def reads:Op->Bool
 | .move _ | .nilCheck _ | .fieldAddr .. | .load .. | .indexAddr .. => true
 | _=>false
def Xt(E:Env)(s:ag)(o:Oper):Option (Vc×AV):=match reads o.op with
 | true=>match Fv E s.af s.eval o with
  | some (vc,v,none)=>some (vc,v)
  | _=>none
 | false=>none
def F6:AV->AV->Prop
 | .aK v, .aK u=>uj v u
 | .cO v, .cO u=>uj v u
 | .aA i, .aA j=>i=j
 | .row i, .row j=>i=j
 | .ptr i p, .ptr j q=>i=j/\p=q
 | .nil, .nil=>True
 | .dG, .dG=>True
 | _,_=>False
def Mb:List AV->List AV->Prop
 | [],[]=>True
 | a::Z9,b::bs=>F6 a b/\Mb Z9 bs
 | _,_=>False
def Qh(a b:AV):Prop:=match a,b with
 | .agg Z9, .agg bs=>Mb Z9 bs
 | a,b=>F6 a b
def fD(E:Env):List (Nat×Oper)->ag->Prop->Prop
 | [],_,K=>K
 | r::rs,s,K=>match r.2.dst,Xt E s r.2 with
  | some d,some (vc,v)=>vc.and (Qh v (s.aw.getD d .any)/\fD E rs s K)
  | _,_=>False
def F7(E:Env):List (Nat×Oper)->(ag->Prop)->ag->Prop
 | [],K,s=>K s
 | r::rs,K,s=>match r.2.dst,Xt E s r.2 with
  | some d,some (vc,v)=>vc.and (known v (F7 E rs K (s.put (some d) v)))
  | _,_=>False
def dstsOf(R:List (Nat×Oper)):List Nat:=R.filterMap λ r=>r.2.dst
def lq:Op->Bool
 | .alloc _=>true
 | _=>false
def iD:Op->Bool
 | .extract .. => true
 | _=>false
def rT:Op->Bool
 | .buildSlice _ len ps=>Nat.beq len 0&&Nat.beq ps.size 0
 | _=>false
def B8(E:Env)(o:Oper):Bool:=match o.dst with
 | some d=>E.ro.contains d
 | none=>false
def cY(E:Env)(o:Oper):Bool:=lq o.op||(iD o.op||(rT o.op&&B8 E o))
def pj(E:Env)(X:List (Nat×Oper)):List Nat:=X.filterMap λ x=>match cY E x.2 with
 | true=>x.2.dst
 | false=>none
def uS(s:ag):Op->Bool
 | .extract t i=>match s.eval t with
  | .fO vs=>Nat.blt i vs.length
  | _=>false
 | _=>true
def Q9(E:Env)(bK:List Nat)(X:List (Nat×Oper))(s:ag):Bool:=X.all λ e=>uS s e.2.op||X.any λ y => !cY E y.2&&Nat.testBit (bK.getD e.1 0) y.1
def Hj(bK:List Nat)(x:Nat×Oper):List (Nat×Oper)->List (Nat×Oper)
 | []=>[x]
 | y::ys=>match Nat.testBit (bK.getD y.1 0) x.1 with
  | true=>x::y::ys
  | false=>y::Hj bK x ys
def Fm(E:Env)(bK:List Nat):List (Nat×Oper)->List (Nat×Oper)
 | []=>[]
 | x::xs=>match cY E x.2 with
  | true=>Hj bK x (Fm E bK xs)
  | false=>x::Fm E bK xs
def mU(E:Env)(o:Oper):Bool:=match o.op with
 | .alloc T=>o.dst.isSome&&(pY o.dst&&(af E.ty T).isSome)
 | .extract .. => o.dst.isSome
 | .buildSlice T len ps => !(Nat.beq len 0&&Nat.beq ps.size 0&&B8 E o)||(match o.dst,af E.ty T with
  | some d,some (.slice _,_)=>Nat.blt d 400000&&(E.ro.contains d && !E.own.contains d)
  | _,_=>false)
 | _=>true
def Ml(E:Env)(bK:List Nat)(X:List (Nat×Oper))(y:Nat×Oper):Bool := !cY E y.2&&X.all λ z=>cY E z.2 || !Nat.testBit (bK.getD y.1 0) z.1
def xk(p:Nat×Oper->Bool)(f:Nat×Oper->Prop):List (Nat×Oper)->Prop
 | []=>True
 | y::ys=>match p y with
  | true=>f y/\xk p f ys
  | false=>xk p f ys
def fT(E:Env)(bK:List Nat):Nat->List (Nat×Oper)->List (Nat×Oper)->(ag->Prop)->ag->Prop
 | 0,_,X,K,s=>match X with
  | []=>K s
  | _::_=>False
 | n+1,R,X,K,s=>match X with
  | []=>K s
  | x::xs=>match Q9 E bK (x::xs) s with
   | true=>match eU (dstsOf (R.filter λ r => !Nat.testBit (bK.getD x.1 0) r.1)++pj E xs) x.2&&xs.all λ y=>cY E y.2||Nat.testBit (bK.getD y.1 0) x.1 with
    | true=>jc E x.2 (λ s'=>fD E (R.filter λ r => !Nat.testBit (bK.getD x.1 0) r.1) s' (fT E bK n (R.filter λ r => !Nat.testBit (bK.getD x.1 0) r.1) xs K s')) s
    | false=>match cY E x.2 with
     | true=>False
     | false=>xk (Ml E bK (x::xs)) (λ y=>match eU (dstsOf (R.filter λ r => !Nat.testBit (bK.getD y.1 0) r.1)++pj E ((x::xs).filter λ z => !Nat.beq z.1 y.1)) y.2 with
      | true=>jc E y.2 (λ s'=>fD E (R.filter λ r => !Nat.testBit (bK.getD y.1 0) r.1) s' (fT E bK n (R.filter λ r => !Nat.testBit (bK.getD y.1 0) r.1) ((x::xs).filter λ z => !Nat.beq z.1 y.1) K s')) s
      | false=>False) (x::xs)
   | false=>False
def jt:Nat->List Oper->List (Nat×Oper)
 | _,[]=>[]
 | i,o::r=>(i,o)::jt (i+1) r
def HM(E:Env)(o:Oper):Bool:=reads o.op&&(match o.dst with
 | some d => !E.own.contains d
 | none=>true)
def kA(E:Env)(bK:List Nat)(ey:List (Nat×Oper))(r:Nat×Oper):Bool :=
 HM E r.2&&ey.all λ y=>HM E y.2 || !Nat.testBit (bK.getD r.1 0) y.1
def ZX(E:Env)(bK:List Nat)(ey:List (Nat×Oper)):Bool :=
 (ey.all λ r=>r.2.guard.isNone&&mU E r.2)&&ey.all λ r => !(kA E bK ey r||iD r.2.op)||eU (dstsOf (ey.filter λ y => !Nat.testBit (bK.getD r.1 0) y.1)++bif iD r.2.op then pj E ey else []) r.2
def VK(E:Env)(bK:List Nat)(ey:List (Nat×Oper))(K:ag->Prop)(s:ag):Prop :=
 match ZX E bK ey with
 | true=>F7 E (ey.filter (kA E bK ey)) (λ s'=>fD E (ey.filter (kA E bK ey)) s' (fT E bK ey.length (ey.filter (kA E bK ey)) (Fm E bK (ey.filter λ r => !kA E bK ey r)) K s')) s
 | false=>False
def sJ(E:Env)(ops:Array Oper)(l:List Oper)(bK:List Nat):List Nat->Nat->List (Nat×Bool)->(ag->Prop)->ag->Prop
 | [],lo,_,Q,s=>match Nat.beq lo l.length with
  | true=>Q s
  | false=>False
 | hi::r,lo,kn,Q,s=>match Nb bK hi&&(Nb bK lo&&(Nat.blt lo hi&&Nat.ble hi l.length)) with
  | true=>match Nat.beq hi (lo+1) with
   | true=>ei E ops ((l.take hi).drop lo) kn (sJ E ops l bK r hi kn Q) s
   | false=>match Bc l lo hi,((l.take hi).drop lo).any (Oper.alone E) with
    | true,true=>VK E bK (jt lo ((l.take hi).drop lo)) (sJ E ops l bK r hi kn Q) s
    | true,false=>j8 E l hi bK lo ((l.take hi).drop lo) kn (λ kn s=>si ((l.take hi).drop lo) s (sJ E ops l bK r hi kn Q s)) (((l.take hi).drop lo).foldl ag.fresh s)
    | false,_=>False
  | false=>False
def Md(E:Env)(ops:Array Oper)(Q:ag->Prop)(s:ag):Prop :=
 let l:=ops.toList
 let bK:=bE l []
 let m:=lC bK 0 0
 match ((l.take m).all λ o=>pY o.dst)&&(distinct ((l.take m).map (·.dst))&&backward l) with
 | true=>j8 E l m bK 0 (l.take m) [] (λ kn s=>si (l.take m) s (ei E ops (l.drop m) kn Q s)) ((l.take m).foldl ag.fresh s)
 | false=>False
def Io(E:Env)(ops:Array Oper)(Q:ag->Prop)(s:ag):Prop :=
 let l:=ops.toList
 let bK:=bE l []
 match (l.take (lC bK 0 0)).any (Oper.alone E) with
 | false=>Md E ops Q s
 | true=>match backward l with
  | true=>sJ E ops l bK (Qq bK ((List.range l.length).map (·+1))) 0 [] Q s
  | false=>False
def R0(E:Env)(ops:Array Oper)(Q:ag->Prop)(s:ag):Prop:=Io E ops Q s
inductive aG:Type 1 where
 | none
 | mk (ι:Type) (P:ι->Prop) (μ:ι->Nat) (fz dead:List Nat) (ins:ι->List (Nat×AV)) (aE:List Nat) (os:ι->List (Nat×au)) (PW ren:List (Nat×Nat)) (sub:ι->Nat->aG)
def aG.a(ι:Type)(P:ι->Prop)(μ:ι->Nat)(dead:List Nat)(ins:ι->List (Nat×AV))(aE:List Nat)(os:ι->List (Nat×au)):aG := .mk ι P μ [] dead ins aE os [] [] λ _ _ => .none
def aG.b(ι:Type)(P:ι->Prop)(μ:ι->Nat)(dead:List Nat)(ins:ι->List (Nat×AV)):aG := .mk ι P μ [] dead ins [] (λ _=>[]) [] [] λ _ _ => .none
def aG.u(P:Prop)(dead:List Nat)(ins:List (Nat×AV))(aE:List Nat)(os:List (Nat×au))(sub:Nat->aG):aG := .mk Unit (λ _=>P) (λ _=>0) [] dead (λ _=>ins) aE (λ _=>os) [] [] λ _=>sub
def dU(k:Nat)(X:aG)(r:Nat->aG)(z:Nat):aG:=match Nat.beq z k with
 | true=>X
 | false=>r z
def cf:Nat->aG:=λ _ => .none
def Code.yi:Code->List Nat
 | .region _ ops _=>ops.toList.filterMap (·.dst)
 | .seq a b=>Code.yi a++Code.yi b
 | .cond _ a b=>Code.yi a++Code.yi b
 | .block _ c=>Code.yi c
 | .loop c=>Code.yi c
 | .scope c=>Code.yi c
 | _=>[]
def Code.first:Code->Option Nat
 | .region id _ _=>some id
 | .seq a _=>Code.first a
 | .block _ c=>Code.first c
 | .loop c=>Code.first c
 | .cond _ a _=>Code.first a
 | _=>none
def Code.a1L(Λ:Nat->aG)(b:Code):aG:=match Code.first b with
 | some r=>Λ (r+100000)
 | none => .none
def Wk(sl:List AV):List (Nat×AV)->List AV
 | []=>sl
 | (t,v)::r=>Wk (sl.set t v) r
def I0(aE:List Nat):List (Nat×au)->List (Nat×au)
 | []=>[]
 | (k,o)::r=>match aE.contains k with
  | true=>(k,o)::I0 aE r
  | false=>I0 aE r
def oH(s:ag)(yi:List Nat)(ins:List (Nat×AV))(aE:List Nat)(os:List (Nat×au)):ag :=
 { aw:=Wk (yi.foldl (λ l t=>l.set t .any) s.aw) ins,aC:=os++I0 aE s.aC }
def cV(ρ:List (Nat×Nat))(id:Nat):Nat:=match af ρ id with
 | some k=>k
 | none=>id
def isRow:Option au->Bool
 | some (.row ..)=>true
 | _=>false
def gm:Option au->Bool
 | some (.box _)=>true
 | _=>false
def Fh:Option au->Bool
 | some (.map _)=>true
 | _=>false
def AV.rn(ρ:List (Nat×Nat))(s t:ag)(a b:AV):Prop :=
 match b with
 | .any=>True
 | .aK v=>match a with
  | .aK u=>uj u v
  | .nil=>match v with
   | ⟨.slice _,xs⟩=>xs=[]
   | _=>False
  | _=>False
 | .nil=>match a with
  | .nil=>True
  | _=>False
 | .cO v=>match a with
  | .cO u=>uj u v
  | _=>False
 | .ptr id off=>match a with
  | .ptr i o=>match Nat.beq i (cV ρ id)&&Nat.beq o off&&gm (t.af id) with
   | true=>True
   | false=>False
  | _=>False
 | .row id=>match a with
  | .row i=>match Nat.beq i (cV ρ id)&&isRow (t.af id) with
   | true=>True
   | false=>False
  | .nil=>match isRow (t.af id),s.af (cV ρ id) with
   | true,Option.none=>True
   | _,_=>False
  | _=>False
 | .aA id=>match a with
  | .aA i=>match Nat.beq i (cV ρ id)&&cS (t.af id) with
   | true=>True
   | false=>False
  | .nil=>match cS (t.af id),s.af (cV ρ id) with
   | true,Option.none=>True
   | _,_=>False
  | _=>False
 | .fn f=>match a with
  | .fn g=>match Nat.beq f g with
   | true=>True
   | false=>False
  | _=>False
 | .mp id=>match a with
  | .mp i=>match Nat.beq i (cV ρ id)&&Fh (t.af id) with
   | true=>True
   | false=>False
  | _=>False
 | _=>False
def DN(ρ:List (Nat×Nat))(s t:ag):List AV->List AV->Prop
 | [],[]=>True
 | a::Z9,b::bs=>match b with
  | .any=>DN ρ s t Z9 bs
  | b=>AV.rn ρ s t a b/\DN ρ s t Z9 bs
 | _,_=>False
def AV.a2G(ρ:List (Nat×Nat))(s t:ag)(a b:AV):Prop :=
 match a,b with
 | .agg Z9, .agg bs=>DN ρ s t Z9 bs
 | a,b=>AV.rn ρ s t a b
def Si(ρ:List (Nat×Nat))(s t:ag):List AV->List AV->Prop
 | [],[]=>True
 | a::Z9,b::bs=>match b with
  | .any=>Si ρ s t Z9 bs
  | b=>AV.a2G ρ s t a b/\Si ρ s t Z9 bs
 | _,_=>False
def VX(u v:FV):Prop:=match u.Z9 v.ps v.r with
 | some F=>F=v.F
 | none=>False
def AV.fit(ρ:List (Nat×Nat))(s t:ag)(a b:AV):Prop :=
 match a,b with
 | .cM f Z9, .cM g bs=>match Nat.beq f g with
  | true=>Si ρ s t Z9 bs
  | false=>False
 | .fV u, .fV v=>VX u v
 | .agg Z9, .agg bs=>DN ρ s t Z9 bs
 | .agg Z9, .aK v=>match ur (λ _=>none) v.τ (.agg Z9) with
  | some x=>x=v.x
  | none=>False
 | a,b=>AV.rn ρ s t a b
def xo(ρ:List (Nat×Nat))(s t:ag):List AV->List AV->Prop
 | [],[]=>True
 | a::Z9,b::bs=>match b with
  | .any=>xo ρ s t Z9 bs
  | b=>AV.fit ρ s t a b/\xo ρ s t Z9 bs
 | _,_=>False
def toO(x:J):lD:=⟨x.ah,x.aZ,some x.U⟩
def RI(aO:Ty)(ys:List aO.den)(τ:Ty)(xs:List τ.den):Prop :=
 match decide (τ = .st .oExpr),decide (aO = .st .expr) with
 | true,true=>uj ⟨.slice (.st .oExpr),((show Option (List J) from TV.Z9 (.slice (.st .expr)) ⟨.slice aO,ys⟩).getD []).map toO⟩ ⟨.slice τ,xs⟩
 | _,_=>uj ⟨.slice aO,ys⟩ ⟨.slice τ,xs⟩
def U8(a b:MV):Prop:=match a.Z9 b.κ b.ε with
 | some (f,n)=>f=b.f/\n=b.n
 | none=>False
def iM(ρ:List (Nat×Nat))(s t:ag):List (Nat×au)->Prop
 | []=>True
 | (id, .box bs)::r=>match s.af (cV ρ id) with
  | some (.box Z9)=>DN ρ s t Z9 bs/\iM ρ s t r
  | _=>False
 | (id, .row e τ xs)::r=>match s.af (cV ρ id) with
  | some (.row e' aO ys)=>match Nat.beq e e' with
   | true=>uj ⟨.slice aO,ys⟩ ⟨.slice τ,xs⟩/\iM ρ s t r
   | false=>False
  | Option.none=>xs=[]/\iM ρ s t r
  | _=>False
 | (id, .aA τ xs)::r=>match s.af (cV ρ id) with
  | some (.aA aO ys)=>RI aO ys τ xs/\iM ρ s t r
  | Option.none=>xs=[]/\iM ρ s t r
  | _=>False
 | (id, .map m)::r=>match s.af (cV ρ id) with
  | some (.map m')=>U8 m' m/\iM ρ s t r
  | _=>False
def Fits(ρ:List (Nat×Nat))(s t:ag):Prop :=
 match (nodupB (t.aC.map (·.1))&&nodupB (t.aC.map λ p=>cV ρ p.1))&&t.aC.all (λ p=>Nat.blt p.1 50||(Nat.ble 100 p.1||(Nat.beq (cV ρ p.1) p.1&&cS (s.af p.1))))&&t.aC.all (λ p=>Nat.blt p.1 400000||(!gm (some p.2)||(Nat.beq (cV ρ p.1) p.1&&gm (s.af p.1)))) with
 | true=>xo ρ s t s.aw t.aw/\iM ρ s t t.aC
 | false=>False
def a0b(ρ:List (Nat×Nat))(a b:AV):List (Nat×Nat):=match b with
 | .aA k=>match a with
  | .aA i=>match Nat.beq i (cV ρ k) with
   | true=>[]
   | false=>[(k,i)]
  | _=>[]
 | _=>[]
def Vl(ρ:List (Nat×Nat)):List AV->List AV->List (Nat×Nat)
 | a::Z9,b::bs=>a0b ρ a b++Vl ρ Z9 bs
 | _,_=>[]
def a4L(ρ:List (Nat×Nat))(a b:AV):List (Nat×Nat):=match b with
 | .agg bs=>match a with
  | .agg Z9=>Vl ρ Z9 bs
  | _=>[]
 | b=>a0b ρ a b
def NX(ρ:List (Nat×Nat)):List AV->List AV->List (Nat×Nat)
 | a::Z9,b::bs=>a4L ρ a b++NX ρ Z9 bs
 | _,_=>[]
def CF(ρ:List (Nat×Nat))(s:ag):List (Nat×au)->List (Nat×Nat)
 | []=>[]
 | (id, .box bs)::r=>match s.af (cV ρ id) with
  | some (.box Z9)=>Vl ρ Z9 bs++CF ρ s r
  | _=>CF ρ s r
 | _::r=>CF ρ s r
def QC:List (Nat×Nat)->(List (Nat×Nat)->Prop)->Prop
 | [],K=>K []
 | (a,b)::r,K=>QC r λ r'=>K ((a,b)::r')
def GH:∀ {l:List (Nat×Nat)} {K:List (Nat×Nat)->Prop},QC l K->K l
 | [],_,h=>h
 | (a,b)::r,K,h=>GH (l:=r) (K:=λ r'=>K ((a,b)::r')) h
def LU(ρ:List (Nat×Nat))(s t:ag):Prop:=QC (CF ρ s t.aC++NX ρ s.aw t.aw) λ r=>Fits (r++ρ) s t
def LU.ex{ρ:List (Nat×Nat)}{s t:ag}(h:LU ρ s t):∃ r,Fits (r++ρ) s t:=⟨_,GH h⟩
def xg(E:Env):Code->(Nat->aG)->Nat->(Exit->ag->Prop)->ag->Prop
 | .skip,_,_,Q,s=>Q .normal s
 | .region _ ops draw,_,_,Q,s=>match draw with
  | true=>R0 E ops (Q .normal) s
  | false=>ei E ops ops.toList [] (Q .normal) s
 | .seq a b,Λ,cur,Q,s=>match Code.a1L Λ b with
  | .none=>xg E a Λ cur (λ e s'=>match e with
   | .normal=>xg E b Λ cur Q s'
   | e=>Q e s') s
  | .mk ι P _ fz dead ins aE os PW _ sub =>
   let yi:=dead++Code.yi a;xg E a Λ cur (λ e s'=>match e with
    | .normal=>∃ j:ι,P j/\LU PW (fz.foldl ag.freeze s') (oH s yi (ins j) aE (os j))
    | e=>Q e s') s /\
   ∀ i:ι,P i->xg E b (sub i) cur Q (oH s yi (ins i) aE (os i))
 | .cond c a b,Λ,cur,Q,s=>match s.eval c with
  | .aK ⟨.bool,t⟩=>(t=true->xg E a Λ cur Q s)/\(t=false->xg E b Λ cur Q s)
  | _=>False
 | .block id c,Λ,_,Q,s=>xg E c Λ id (λ e s'=>match e with
  | .exit i=>match Nat.beq i id with
   | true=>Q .normal s'
   | false=>Q (.exit i) s'
  | e=>Q e s') s
 | .loop c,Λ,cur,Q,s=>match Λ cur with
  | .none=>False
  | .mk ι P μ fz dead ins aE os PW ren sub =>
   let yi:=dead++Code.yi c;(∃ i:ι,P i/\LU PW (fz.foldl ag.freeze s) (oH s yi (ins i) aE (os i))) /\
   ∀ i:ι,P i->xg E c (sub i) cur (λ e s'=>match e with
    | .normal=>∃ j:ι,P j/\μ j<μ i/\LU ren (fz.foldl ag.freeze s') (oH s yi (ins j) aE (os j))
    | e=>Q e s') (oH s yi (ins i) aE (os i))
 | .exit id,_,_,Q,s=>Q (.exit id) s
 | .ret,_,_,Q,s=>Q .ret s
 | .label _,_,_,Q,s=>Q .normal s
 | _,_,_,_,_=>False
def Jy(E:Env)(s:ag):List ResultVar->List TypeId->Option (List TV)
 | [],[]=>some []
 | r::rs,T::Ts=>match af E.ty T with
  | some (τ,_)=>match (match r with
    | .tmp t=>ur (HC s.af) τ (s.eval (.tmp t))
    | .cell a t=>match Nat.beq t T with
     | true=>deref (HC s.af) τ (s.eval (.tmp a))
     | false=>none) with
   | some x=>match Jy E s rs Ts with
    | some l=>some (⟨τ,x⟩::l)
    | none=>none
   | none=>none
  | none=>none
 | _,_=>none
def Qe:Arg->AV
 | .val v => .aK v
 | .ref v => .cO v
 | .fn f => .fn f
 | .cM v => .fV v
 | .own _ => .any
 | .box _ => .any
def dr(fn:Func)(args:List Arg):ag :=
 { aw:=args.map Qe++List.replicate (fn.ntmps - args.length) .any,aC:=[] }
def pd:Nat->List Arg->ag->ag
 | _,[],s=>s
 | p, .own v::r,s=>pd (p+1) r { aw:=s.aw.set p (gE (1000000+100 * p) v),aC:=bR (1000000+100 * p) v.cells++s.aC }
 | p,_::r,s=>pd (p+1) r s
def LQ(fn:Func)(args:List Arg):ag:=pd 0 args (dr fn args)
def tj(E:Env)(fn:Func)(post:List TV->Prop)(e:Exit)(s:ag):Prop :=
 match e with
 | .ret | .normal=>match Jy E s fn.results.toList fn.resultTypes.toList with
  | some vs=>post vs
  | none=>False
 | _=>False
def AH:List TV->List TV->Prop
 | [],[]=>True
 | [v],[u]=>uj v u
 | v::vs,u::us=>uj v u/\AH vs us
 | _,_=>False
end
def bh(w:World)(b o:Nat)(cs:List Value):Prop:=∀ j v,cs[j]?=some v->w.cell? ⟨b,o+j,none⟩=some v
def D.size:D->Nat
 | .agg ds=>ds.length
 | _=>1
mutual
def Rd(w:World)(S:Nat->Prop):D->List Value->Prop
 | .int k n,cs=>cs=[.int k n]/\k.min<=n/\n<=k.max
 | .bool b,cs=>cs=[.bool b]
 | .str s,cs=>∃ x:ByteArray,cs=[.string x]/\x.data.toList=s/\x.size<=140737488355328
 | .slice _ xs,cs=>∃ a cap,cs=[.slice a xs.length cap]/\xs.length<=cap/\cap<=maxLen/\xs.length<=140737488355328/\(xs=[]\/∃ b o,a=some ⟨b,o,none⟩/\S b/\cv w S xs b o)
 | .agg ds,cs=>cR w S ds cs
 | .hole,cs=>∃ a n m,cs=[.slice a n m]
 | .ptr,cs=>∃ p,cs=[.pointer p]
def cR(w:World)(S:Nat->Prop):List D->List Value->Prop
 | [],cs=>cs=[]
 | d::ds,cs=>∃ v r,cs=v::r/\Rd w S d [v]/\cR w S ds r
def cv(w:World)(S:Nat->Prop):List D->Nat->Nat->Prop
 | [],_,_=>True
 | d::ds,b,o=>(∃ cs,cs.length=d.size/\Rd w S d cs/\bh w b o cs)/\cv w S ds b (o+d.size)
end
def bh.aE{w w':World}{b o:Nat}{cs:List Value}(h:bh w b o cs)(hb:w'.heap[b]?=w.heap[b]?):bh w' b o cs :=
 λ j v hj=>by rw[<-h j v hj];exact b0B (a:=⟨b,o+j,none⟩) hb
mutual
def Rd.aE{w w':World}{S S':Nat->Prop}(hS:∀ b,S b->S' b)(hw:∀ b,S b->w'.heap[b]?=w.heap[b]?):∀ (d:D) {cs:List Value},Rd w S d cs->Rd w' S' d cs
 | .int _ _,_,h=>h
 | .bool _,_,h=>h
 | .str _,_,h=>h
 | .slice _ xs,_,h=>by
  obtain⟨a,cap,h1,h2,h3,h4,h5⟩:=h;refine⟨a,cap,h1,h2,h3,h4,h5.imp id ?_⟩;rintro⟨b,o,ha,hb,hr⟩;exact⟨b,o,ha,hS b hb,cv.aE hS hw xs b o hb hr⟩
 | .agg ds,_,h=>cR.aE hS hw ds h
 | .hole,_,h=>h
 | .ptr,_,h=>h
def cR.aE{w w':World}{S S':Nat->Prop}(hS:∀ b,S b->S' b)(hw:∀ b,S b->w'.heap[b]?=w.heap[b]?):∀ (ds:List D) {cs:List Value},cR w S ds cs->cR w' S' ds cs
 | [],_,h=>h
 | d::ds,_,h=>by
  obtain⟨v,r,h1,h2,h3⟩:=h;exact⟨v,r,h1,Rd.aE hS hw d h2,cR.aE hS hw ds h3⟩
def cv.aE{w w':World}{S S':Nat->Prop}(hS:∀ b,S b->S' b)(hw:∀ b,S b->w'.heap[b]?=w.heap[b]?):∀ (ds:List D) (b o:Nat),S b->cv w S ds b o->cv w' S' ds b o
 | [],_,_,_,_=>trivial
 | d::ds,b,o,hb,h=>by
  obtain⟨⟨cs,h1,h2,h3⟩,h4⟩:=h;exact⟨⟨cs,h1,Rd.aE hS hw d h2,h3.aE (hw b hb)⟩,cv.aE hS hw ds b _ hb h4⟩
end
def cR.length{w:World}{S:Nat->Prop}:∀ (ds:List D) {cs:List Value},cR w S ds cs->cs.length=ds.length
 | [],_,h=>by rw[show _=[] from h];rfl
 | d::ds,_,h=>by
  obtain⟨v,r,rfl,_,h3⟩:=h;simp[cR.length ds h3]
def Rd.length{w:World}{S:Nat->Prop}(d:D){cs:List Value}(h:Rd w S d cs):cs.length=d.size:=by
 cases d with
 | int k n=>rw[h.1];rfl
 | bool b=>rw[show cs=_ from h];rfl
 | str s=>obtain⟨x,h,_⟩:=h;rw[h];rfl
 | slice n xs=>obtain⟨a,cap,h,_⟩:=h;rw[h];rfl
 | agg ds=>exact cR.length ds h
 | hole=>obtain⟨a,n,m,h⟩:=h;rw[h];rfl
 | ptr=>obtain⟨p,h⟩:=h;rw[h];rfl
def Ty.cg(t:Ty)(x:t.den):(t.aD x).size=t.size:=by
 cases t with
 | st s=>simp[Ty.aD,aJ.bT,D.size,Ty.size,aJ.gf]
 | mv t=>cases (show Option (List t.den) from x)<;>rfl
 | _=>rfl
def cv.at_{w:World}{S:Nat->Prop}{n:Nat}:∀ (ds:List D) (b o:Nat),cv w S ds b o->(∀ d∈ds,d.size=n)->∀ i d,ds[i]?=some d ->
  ∃ cs,cs.length=n/\Rd w S d cs/\bh w b (o+i * n) cs
 | [],_,_,_,_,i,d,h=>by simp at h
 | e::ds,b,o,h,hn,0,d,hi=>by
  obtain⟨⟨cs,h1,h2,h3⟩,_⟩:=h;simp at hi;subst hi;exact⟨cs,by rw[h1];exact hn _ (by simp),h2,by simpa using h3⟩
 | e::ds,b,o,h,hn,i+1,d,hi=>by
  obtain⟨_,h4⟩:=h;rw[hn e (by simp)] at h4;obtain⟨cs,h1,h2,h3⟩:=cv.at_ ds b (o+n) h4 (λ d hd=>hn d (by simp[hd])) i d (by simpa using hi);exact⟨cs,h1,h2,by rw[show o+(i+1) * n=o+n+i * n by rw[Nat.add_mul];omega];exact h3⟩
def cv.Yw{w:World}{S:Nat->Prop}{n:Nat}:∀ (k:Nat) (ds:List D) (b o:Nat),cv w S ds b o->(∀ d∈ds,d.size=n)->cv w S (ds.drop k) b (o+k * n)
 | 0,ds,b,o,h,_=>by simpa using h
 | k+1,[],b,o,h,_=>by simp[cv]
 | k+1,d::ds,b,o,h,hn=>by
  have:=cv.Yw k ds b (o+n) (by have:=h.2;rwa [hn d (by simp)] at this) (λ d hd=>hn d (by simp[hd]));rw[show o+(k+1) * n=o+n+k * n by rw[a9u];omega];exact this
def cv.a0Z{w:World}{S:Nat->Prop}:∀ (k:Nat) (ds:List D) (b o:Nat),cv w S ds b o->cv w S (ds.take k) b o
 | 0,ds,b,o,h=>by simp[cv]
 | k+1,[],b,o,h=>by simp[cv]
 | k+1,d::ds,b,o,h=>⟨h.1,cv.a0Z k ds b _ h.2⟩
def cP(w:World)(S:Nat->Prop):List D->List Value->Prop
 | [],l=>l=[]
 | d::ds,l=>∃ c r,l=c++r/\Rd w S d c/\cP w S ds r
def cP.aE{w w':World}{S S':Nat->Prop}(hS:∀ b,S b->S' b)(hw:∀ b,S b->w'.heap[b]?=w.heap[b]?):∀ (ds:List D) {l:List Value},cP w S ds l->cP w' S' ds l
 | [],_,h=>h
 | d::ds,_,h=>by
  obtain⟨c,r,h1,h2,h3⟩:=h;exact⟨c,r,h1,Rd.aE hS hw d h2,cP.aE hS hw ds h3⟩
def cP.append{w:World}{S:Nat->Prop}:∀ (ds es:List D) {l m:List Value},cP w S ds l->cP w S es m->cP w S (ds++es) (l++m)
 | [],_,_,_,h,k=>by rw[show _=[] from h];simpa using k
 | d::ds,es,_,m,h,k=>by
  obtain⟨c,r,rfl,h2,h3⟩:=h;exact⟨c,r++m,by simp,h2,cP.append ds es h3 k⟩
def cP.length{w:World}{S:Nat->Prop}{n:Nat}:∀ (ds:List D) {l:List Value},cP w S ds l->(∀ d∈ds,d.size=n)->l.length=ds.length * n
 | [],_,h,_=>by rw[show _=[] from h];simp
 | d::ds,_,h,hn=>by
  obtain⟨c,r,rfl,h2,h3⟩:=h;rw[a8E,Rd.length d h2,hn d (by simp),cP.length ds h3 (λ d hd=>hn d (by simp[hd])),a8F,a9u];omega
def cP.row{w:World}{S:Nat->Prop}:∀ (ds:List D) {l:List Value} (b o:Nat),cP w S ds l->bh w b o l->cv w S ds b o
 | [],_,_,_,_,_=>trivial
 | d::ds,_,b,o,h,hc=>by
  obtain⟨c,r,rfl,h2,h3⟩:=h;refine⟨⟨c,Rd.length d h2,h2,λ j v hj=>hc j v ?_⟩,cP.row ds b _ h3 λ j v hj=>?_⟩
  .rw[a9K]
   .exact hj
   .exact (a8P.1 hj).1
  .have:=hc (c.length+j) v (by rw[List.getElem?_append_right (by omega)];simpa using hj);rwa [Rd.length d h2,<-Nat.add_assoc] at this
def cv.cells{w:World}{S:Nat->Prop}:∀ (ds:List D) (b o:Nat),cv w S ds b o->∃ l,cP w S ds l/\bh w b o l
 | [],_,_,_=>⟨[],rfl,λ j v h=>by simp at h⟩
 | d::ds,b,o,h=>by
  obtain⟨⟨c,h1,h2,h3⟩,h4⟩:=h;obtain⟨r,h5,h6⟩:=cv.cells ds b _ h4;refine⟨c++r,⟨c,r,rfl,h2,h5⟩,λ j v hj=>?_⟩;rcases a8Q j c.length with bm|E9
  .exact h3 j v (by rwa [a9K bm] at hj)
  .rw[b0h E9] at hj;have:=h6 (j - c.length) v hj;rwa [<-h1,show o+c.length+(j - c.length)=o+j by omega] at this
def cP.at_{w:World}{S:Nat->Prop}{n:Nat}:∀ (ds:List D) {l:List Value},cP w S ds l->(∀ d∈ds,d.size=n)->∀ i d,ds[i]?=some d->Rd w S d ((l.drop (i * n)).take n)
 | [],_,_,_,i,d,h=>by simp at h
 | e::ds,_,h,hn,0,d,hi=>by
  obtain⟨c,r,rfl,h2,h3⟩:=h;simp at hi;subst hi;have:c.length=n:=by rw[Rd.length _ h2];exact hn _ (by simp)
  simpa [<-this] using h2
 | e::ds,_,h,hn,i+1,d,hi=>by
  obtain⟨c,r,rfl,h2,h3⟩:=h;have hc:c.length=n:=by rw[Rd.length _ h2];exact hn _ (by simp)
  have:=cP.at_ ds h3 (λ d hd=>hn d (by simp[hd])) i d (by simpa using hi);have h0:List.drop (n+i * n) c=[]:=List.drop_eq_nil_of_le (by omega);rw[show (i+1) * n=n+i * n by rw[Nat.add_mul];omega,List.drop_append,h0,List.nil_append,show n+i * n - c.length=i * n by omega];exact this
def qQ:Value->Bool
 | .int .. | .bool _ | .string _ | .slice .. | .pointer _=>true
 | _=>false
def D.leaf:D->Bool
 | .agg _=>false
 | _=>true
def Rd.qQ{w:World}{S:Nat->Prop}{d:D}(hd:d.leaf=true){cs:List Value}(h:Rd w S d cs):∃ v,cs=[v]/\YtncejbehidimmaaGreatDoor.qQ v=true:=by
 cases d with
 | int k n=>exact⟨_,h.1,rfl⟩
 | bool b=>exact⟨_,h,rfl⟩
 | str s=>obtain⟨x,h,_⟩:=h;exact⟨_,h,rfl⟩
 | slice n xs=>obtain⟨a,cap,h,_⟩:=h;exact⟨_,h,rfl⟩
 | agg ds=>cases hd
 | hole=>obtain⟨a,n,m,h⟩:=h;exact⟨_,h,rfl⟩
 | ptr=>obtain⟨p,h⟩:=h;exact⟨_,h,rfl⟩
def vR{v:Value}(h:YtncejbehidimmaaGreatDoor.qQ v=true):v.oneCell'=true:=by cases v<;>first|rfl|cases h
def Hs{v:Value}(h:YtncejbehidimmaaGreatDoor.qQ v=true):v.cells = #[v]:=by cases v<;>first|rfl|cases h
def Jh{α:Type}(n:Nat)(f:α->D)(o:Option (List α)):(mvD n f o).leaf=true:=by cases o<;>rfl
def aJ.mJ(s:aJ)(x:s.den):∀ v∈s.cells x,v.aD.leaf=true:=by
 cases s<;>simp[aJ.cells,TV.aD,Ty.aD,D.leaf]<;>exact Jh _ _ _
mutual
def Ow(w:World):D->List Value->List Nat->Prop
 | .int k n,cs,fp=>(cs=[.int k n]/\k.min<=n/\n<=k.max)/\fp=[]
 | .bool b,cs,fp=>cs=[.bool b]/\fp=[]
 | .str s,cs,fp=>(∃ x:ByteArray,cs=[.string x]/\x.data.toList=s/\x.size<=140737488355328)/\fp=[]
 | .slice n xs,cs,fp=>∃ a cap,cs=[.slice a xs.length cap]/\xs.length<=cap/\cap<=maxLen/\xs.length<=140737488355328 /\
   ((xs=[]/\(a=none/\cap=0)/\fp=[])\/∃ b f l t,a=some ⟨b,0,none⟩/\fp=b::f/\w.heap[b]?=some (.cells l.toArray t (0,0))/\l.length=cap * n/\bG w xs l f)
 | .agg ds,cs,fp=>cT w ds cs fp
 | .hole,cs,fp=>(∃ a n m,cs=[.slice a n m])/\fp=[]
 | .ptr,cs,fp=>(∃ p,cs=[.pointer p])/\fp=[]
def cT(w:World):List D->List Value->List Nat->Prop
 | [],cs,fp=>cs=[]/\fp=[]
 | d::ds,cs,fp=>∃ v r f1 f2,cs=v::r/\fp=f1++f2/\Ow w d [v] f1/\cT w ds r f2
def bG(w:World):List D->List Value->List Nat->Prop
 | [],_,fp=>fp=[]
 | d::ds,l,fp=>∃ c r f1 f2,l=c++r/\fp=f1++f2/\Ow w d c f1/\bG w ds r f2
end
def cT.length{w:World}:∀ (ds:List D) {cs:List Value} {fp:List Nat},cT w ds cs fp->cs.length=ds.length
 | [],_,_,h=>by rw[h.1];rfl
 | d::ds,_,_,h=>by
  obtain⟨v,r,f1,f2,rfl,_,_,h4⟩:=h;simp[cT.length ds h4]
def Ow.length{w:World}(d:D){cs:List Value}{fp:List Nat}(h:Ow w d cs fp):cs.length=d.size:=by
 cases d with
 | int k n=>rw[h.1.1];rfl
 | bool b=>rw[h.1];rfl
 | str s=>obtain⟨⟨x,h,_⟩,_⟩:=h;rw[h];rfl
 | slice n xs=>obtain⟨a,cap,h,_⟩:=h;rw[h];rfl
 | agg ds=>exact cT.length ds h
 | hole=>obtain⟨⟨a,n,m,h⟩,_⟩:=h;rw[h];rfl
 | ptr=>obtain⟨⟨p,h⟩,_⟩:=h;rw[h];rfl
def AS{w:World}{b:Nat}{p c r:List Value}{t:TypeId}(h:w.heap[b]?=some (.cells (p++(c++r)).toArray t (0,0))):bh w b p.length c:=by
 intro j v hj;have hl:j<c.length:=(a8P.1 hj).1;have h2:(p++(c++r))[p.length+j]?=some v:=by
  rw[b0h (by omega),b2d,a9K hl];exact hj
 simp[World.cell?,h,h2]
mutual
def Ow.rd{w:World}{S:Nat->Prop}:∀ (d:D) {cs:List Value} {fp:List Nat},Ow w d cs fp->(∀ b∈fp,S b)->Rd w S d cs
 | .int _ _,_,_,h,_=>h.1
 | .bool _,_,_,h,_=>h.1
 | .str _,_,_,h,_=>h.1
 | .slice n xs,_,_,h,hS=>by
  obtain⟨a,cap,h1,h2,h3,h4,h5⟩:=h;refine⟨a,cap,h1,h2,h3,h4,h5.imp And.left ?_⟩;rintro⟨b,f,l,t,rfl,rfl,hb,_,hr⟩;exact⟨b,0,rfl,hS b (by simp),bG.rd xs (p:=[]) (by simpa using hb) hr (λ b hb=>hS b (by simp[hb]))⟩
 | .agg ds,_,_,h,hS=>cT.rd ds h hS
 | .hole,_,_,h,_=>h.1
 | .ptr,_,_,h,_=>h.1
def cT.rd{w:World}{S:Nat->Prop}:∀ (ds:List D) {cs:List Value} {fp:List Nat},cT w ds cs fp->(∀ b∈fp,S b)->cR w S ds cs
 | [],_,_,h,_=>h.1
 | d::ds,_,_,h,hS=>by
  obtain⟨v,r,f1,f2,h1,rfl,h3,h4⟩:=h;exact⟨v,r,h1,Ow.rd d h3 λ b hb=>hS b (by simp[hb]),cT.rd ds h4 λ b hb=>hS b (by simp[hb])⟩
def bG.rd{w:World}{S:Nat->Prop}{b:Nat}{t:TypeId}:∀ (ds:List D) {p l:List Value} {fp:List Nat},w.heap[b]?=some (.cells (p++l).toArray t (0,0))->bG w ds l fp->(∀ b∈fp,S b)->cv w S ds b p.length
 | [],_,_,_,_,_,_=>trivial
 | d::ds,p,_,_,hb,h,hS=>by
  obtain⟨c,r,f1,f2,rfl,rfl,h3,h4⟩:=h;have hl:=Ow.length d h3;refine⟨⟨c,hl,Ow.rd d h3 λ b hb=>hS b (by simp[hb]),AS hb⟩,?_⟩;have:=bG.rd ds (p:=p++c) (l:=r) (by simpa using hb) h4 (λ b hb=>hS b (by simp[hb]));rw[<-hl];simpa using this
end
mutual
def Ow.aE{w w':World}:∀ (d:D) {cs:List Value} {fp:List Nat},Ow w d cs fp->(∀ b∈fp,w'.heap[b]?=w.heap[b]?)->Ow w' d cs fp
 | .int _ _,_,_,h,_=>h
 | .bool _,_,_,h,_=>h
 | .str _,_,_,h,_=>h
 | .slice n xs,_,_,h,hw=>by
  obtain⟨a,cap,h1,h2,h3,h4,h5⟩:=h;refine⟨a,cap,h1,h2,h3,h4,h5.imp id ?_⟩;rintro⟨b,f,l,t,rfl,rfl,hb,hc,hr⟩;exact⟨b,f,l,t,rfl,rfl,by rw[hw b (by simp)];exact hb,hc,bG.aE xs hr λ b hb=>hw b (by simp[hb])⟩
 | .agg ds,_,_,h,hw=>cT.aE ds h hw
 | .hole,_,_,h,_=>h
 | .ptr,_,_,h,_=>h
def cT.aE{w w':World}:∀ (ds:List D) {cs:List Value} {fp:List Nat},cT w ds cs fp->(∀ b∈fp,w'.heap[b]?=w.heap[b]?)->cT w' ds cs fp
 | [],_,_,h,_=>h
 | d::ds,_,_,h,hw=>by
  obtain⟨v,r,f1,f2,h1,rfl,h3,h4⟩:=h;exact⟨v,r,f1,f2,h1,rfl,Ow.aE d h3 λ b hb=>hw b (by simp[hb]),cT.aE ds h4 λ b hb=>hw b (by simp[hb])⟩
def bG.aE{w w':World}:∀ (ds:List D) {l:List Value} {fp:List Nat},bG w ds l fp->(∀ b∈fp,w'.heap[b]?=w.heap[b]?)->bG w' ds l fp
 | [],_,_,h,_=>h
 | d::ds,_,_,h,hw=>by
  obtain⟨c,r,f1,f2,h1,rfl,h3,h4⟩:=h;exact⟨c,r,f1,f2,h1,rfl,Ow.aE d h3 λ b hb=>hw b (by simp[hb]),bG.aE ds h4 λ b hb=>hw b (by simp[hb])⟩
end
mutual
def D.light:D->Bool
 | .slice .. => false
 | .agg ds=>D.Cz ds
 | _=>true
def D.Cz:List D->Bool
 | []=>true
 | d::ds=>d.light&&D.Cz ds
end
mutual
def Ow.dT{w:World}{S:Nat->Prop}:∀ (d:D) {cs:List Value},d.light=true->Rd w S d cs->Ow w d cs []
 | .int _ _,_,_,h=>⟨h,rfl⟩
 | .bool _,_,_,h=>⟨h,rfl⟩
 | .str _,_,_,h=>⟨h,rfl⟩
 | .slice n xs,_,hl,h=>by
  obtain⟨a,cap,h1,h2,h3,h4,h5⟩:=h;cases hl
 | .agg ds,_,hl,h=>cT.dT ds hl h
 | .hole,_,_,h=>⟨h,rfl⟩
 | .ptr,_,_,h=>⟨h,rfl⟩
def cT.dT{w:World}{S:Nat->Prop}:∀ (ds:List D) {cs:List Value},D.Cz ds=true->cR w S ds cs->cT w ds cs []
 | [],_,_,h=>⟨h,rfl⟩
 | d::ds,_,hl,h=>by
  obtain⟨v,r,h1,h2,h3⟩:=h;simp only[D.Cz,a8I] at hl;exact⟨v,r,[],[],h1,rfl,Ow.dT d hl.1 h2,cT.dT ds hl.2 h3⟩
end
def bG.dT{w:World}{S:Nat->Prop}:∀ (ds:List D) {l m:List Value},(∀ d∈ds,d.light=true)->cP w S ds l->bG w ds (l++m) []
 | [],_,_,_,_=>rfl
 | d::ds,_,m,hl,h=>by
  obtain⟨c,r,rfl,h2,h3⟩:=h;exact⟨c,r++m,[],[],by simp,rfl,Ow.dT d (hl d (by simp)) h2,bG.dT ds (λ d hd=>hl d (by simp[hd])) h3⟩
def DK{α:Type}(c r:List α)(k:Nat):(c++r).drop (c.length+k)=r.drop k:=by
 rw[<-b1B,b1m]
def wT{α:Type}(c r:List α)(k:Nat):(c++r).take (c.length+k)=c++r.take k:=by
 rw[b1R,a9f (by omega),b2d]
def bG.split{w:World}{n:Nat}:∀ (ds:List D) {l:List Value} {fp:List Nat} (i:Nat) (d:D),bG w ds l fp->(∀ d∈ds,d.size=n)->ds[i]?=some d ->
  ∃ f0 f1 f2,fp=f0++f1++f2/\i * n+n<=l.length/\Ow w d ((l.drop (i * n)).take n) f1 /\
   ∀ (w':World) (d':D) (c':List Value) (gI:List Nat),(∀ b∈f0++f2,w'.heap[b]?=w.heap[b]?)->c'.length=n->Ow w' d' c' gI->bG w' (ds.set i d') (l.take (i * n)++c'++l.drop (i * n+n)) (f0++gI++f2)
 | [],_,_,_,_,_,_,h=>by simp at h
 | e::ds,l,fp,0,d,h,hn,hi=>by
  obtain⟨c,r,f1,f2,rfl,rfl,h3,h4⟩:=h;simp at hi;subst hi;have hc:c.length=n:=by rw[Ow.length _ h3];exact hn _ (by simp)
  refine⟨[],f1,f2,by simp,by simp;omega,?_,λ w' d' c' gI hw IL UJ=>?_⟩
  .simp only[b1s,b1C];rw[<-hc,b0X];exact h3
  .simp only[b1s,b0F,a9e,a9I,b2F];rw[<-hc,b1m];exact⟨c',r,gI,f2,rfl,rfl,UJ,bG.aE ds h4 λ b hb=>hw b (by simp[hb])⟩
 | e::ds,l,fp,i+1,d,h,hn,hi=>by
  obtain⟨c,r,g1,g2,rfl,rfl,h3,h4⟩:=h;have hc:c.length=n:=by rw[Ow.length _ h3];exact hn _ (by simp)
  obtain⟨f0,f1,f2,rfl,hlen,k1,k2⟩:=bG.split ds i d h4 (λ d hd=>hn d (by simp[hd])) (by simpa using hi);have e1:(i+1) * n=c.length+i * n:=by rw[hc,Nat.add_mul];omega
  have e2:(i+1) * n+n=c.length+(i * n+n):=by omega
  refine⟨g1++f0,f1,f2,by simp,by simp;omega,?_,λ w' d' c' gI hw IL UJ=>?_⟩
  .rw[e1,DK];exact k1
  .rw[e1,show c.length+i * n+n=c.length+(i * n+n) by omega,wT,DK];have:=k2 w' d' c' gI (λ b hb=>hw b (by simp at hb ⊢;rcases hb with hb|hb<;>simp[hb])) IL UJ;rw[show (e::ds).set (i+1) d'=e::ds.set i d' from rfl];exact⟨c,r.take (i * n)++c'++r.drop (i * n+n),g1,f0++gI++f2,by simp,by simp,Ow.aE e h3 λ b hb=>hw b (by simp[hb]),this⟩
open Go.MapKept
def nN(τ:Ty)(x:τ.den)(v:Value):Prop:=∀ (w:World) (S:Nat->Prop),Rd w S (τ.aD x) [v]
theorem nN.of{τ:Ty}(gQ:τ.key=true){x:τ.den}{v:Value}{w:World}{S:Nat->Prop}(h:Rd w S (τ.aD x) [v]):nN τ x v:=by
 intro w' S';cases τ with
 | int k=>exact h
 | bool=>exact h
 | str=>exact h
 | _=>cases gQ
theorem nN.val{τ:Ty}(gQ:τ.key=true){x y:τ.den}{v:Value}(h:nN τ x v)(k:nN τ y v)(w:World):x=y:=by
 have h:=h w (λ _=>False);have k:=k w (λ _=>False);cases τ with
 | int q =>
  simp only[Ty.aD,Rd,List.cons.injEq,and_true] at h k;obtain⟨rfl,_⟩:=h;exact (by simpa using k.1)
 | bool =>
  simp only[Ty.aD,Rd,List.cons.injEq,and_true] at h k;subst h;simpa using k
 | str =>
  obtain⟨a,h1,h2,_⟩:=h;obtain⟨b,k1,k2,_⟩:=k;simp only[a8x,a8T] at h1 k1;subst h1;simp only[Value.string.injEq] at k1;subst k1;exact h2.symm.trans k2
 | _=>cases gQ
theorem nN.inj{τ:Ty}(gQ:τ.key=true){x:τ.den}{v u:Value}(h:nN τ x v)(k:nN τ x u)(w:World):v=u:=by
 have h:=h w (λ _=>False);have k:=k w (λ _=>False);cases τ with
 | int q =>
  simp only[Ty.aD,Rd,a8x,a8T] at h k;exact h.1.trans k.1.symm
 | bool =>
  simp only[Ty.aD,Rd,a8x,a8T] at h k;exact h.trans k.symm
 | str =>
  obtain⟨⟨⟨a⟩⟩,h1,h2,_⟩:=h;obtain⟨⟨⟨b⟩⟩,k1,k2,_⟩:=k;simp only[a8x,a8T] at h1 k1;simp only at h2 k2;rw[h1,k1,h2,k2]
 | _=>cases gQ
def descOf:Ty->TypeDesc
 | .int k => .int k
 | .str => .string
 | _ => .bool
theorem nN.isKey{τ:Ty}(gQ:τ.key=true){x:τ.den}{v:Value}(h:nN τ x v)(w:World):IsKey (descOf τ) v:=by
 have h:=h w (λ _=>False);cases τ with
 | int q =>
  simp only[Ty.aD,Rd,a8x,a8T] at h;obtain⟨rfl,_⟩:=h;rfl
 | bool =>
  simp only[Ty.aD,Rd,a8x,a8T] at h;subst h;trivial
 | str =>
  obtain⟨a,h1,h2,_⟩:=h;simp only[a8x,a8T] at h1;subst h1;trivial
 | _=>cases gQ
structure uF(m:MV)(es:Array MapEntry):Prop where
 sk:m.κ.key=true
 se:m.ε.key=true
 len:es.size=m.n
 small:m.n<=1000000000
 nd:es.toList.Pairwise λ x y=>x.key≠y.key
 YA:∀ e∈es.toList,∃ k v,nN m.κ k e.key/\nN m.ε v e.val/\m.f k=some v
 all:∀ k v,m.f k=some v->∃ e∈es.toList,nN m.κ k e.key
theorem uF.empty{κ ε:Ty}(h1:κ.key=true)(h2:ε.key=true):uF ⟨κ,ε,gV κ.den ε.den,0⟩ #[] where
 sk:=h1
 se:=h2
 len:=rfl
 small:=a9l _
 nd:=by simp
 YA e he:=by simp at he
 all k v h:=by simp[gV] at h
section
variable {P:Program} {w:World} {m:MV} {es:Array MapEntry} {clock b:Nat} {T kT eT:TypeId}
theorem uF.found(h:uF m es){k:m.κ.den}{v:Value}(hv:nN m.κ k v)(w:World) :
  (Instr.findNow (descOf m.κ) v es.toList 0=some none/\(∀ e∈es.toList,e.key≠v)/\m.f k=none) \/
  ∃ j e x,Instr.findNow (descOf m.κ) v es.toList 0=some (some (j,e.val))/\es.toList[j]?=some e/\e.key=v/\m.f k=some x/\nN m.ε x e.val:=by
 have hk:∀ e∈es.toList,IsKey (descOf m.κ) e.key:=λ e he=>by
  obtain⟨k',v',h1,_⟩:=h.YA e he;exact h1.isKey h.sk w
 rcases findNow_spec (hv.isKey h.sk w) es.toList 0 hk with ⟨h1,h2⟩|⟨j,e,h1,h2,h3⟩
 .refine .inl ⟨h1,h2,?_⟩;cases hf:m.f k with
  | none=>rfl
  | some x =>
   obtain⟨e,he,UN⟩:=h.all k x hf;exact absurd (UN.inj h.sk hv w) (h2 e he)
 .obtain⟨k',x,k1,k2,k3⟩:=h.YA e (List.mem_of_getElem? h2);have:k'=k:=k1.val h.sk (h3 ▸ hv) w;subst this;exact .inr ⟨j,e,x,by simpa using h1,h2,h3,k3,k2⟩
theorem uF.af(h:uF m es)(hT:P.underlying T=some (.map kT eT))(hk:P.underlying kT=some (descOf m.κ))(hb:w.heap[b]?=some (.map es clock)){z:Value}(hz:(zeroValue eT).run P w = .ok z w)(Xb:nN m.ε m.ε.zero z)
  {k:m.κ.den} {v:Value} (hv:nN m.κ k v) (c:Bool):∃ u,nN m.ε ((m.f k).getD m.ε.zero) u/\(Instr.lookup T (.map (some b)) v c).run P w = .ok (if c then .tuple #[u, .bool (m.f k).isSome] else u) w:=by
 rcases h.found hv w with ⟨h1,h2,h3⟩|⟨j,e,x,h1,h2,h3,h4,h5⟩
 .refine⟨z,by rw[h3];exact Xb,?_⟩;rw[h3];simp[Instr.lookup,a9g hT,b0S hb,run_checkKey hk (hv.isKey h.sk w),run_findKey hk h1,hz,Result.andThen]
 .refine⟨e.val,by rw[h4];exact h5,?_⟩;rw[h4];simp[Instr.lookup,a9g hT,b0S hb,run_checkKey hk (hv.isKey h.sk w),run_findKey hk h1,Result.andThen]
theorem gu{α β:Type}(f:α->Option β)(k:α)(v:β):fK f k v k=some v:=by simp[fK]
theorem eL{α β:Type}(f:α->Option β)(k:α)(v:β){x:α}(h:x≠k):fK f k v x=f x:=by simp[fK,h]
theorem D6{α:Type}{R:α->α->Prop}{a b:α}:∀ {l:List α} {j:Nat},l.Pairwise R->l[j]?=some a->(∀ x,R a x->R b x)->(∀ x,R x a->R x b)->(l.set j b).Pairwise R
 | [],j,h,hj,h1,h2=>by simp at hj
 | y::ys,0,h,hj,h1,h2=>by
  simp only[b1n,a8r] at hj;subst hj;obtain⟨k1,k2⟩:=a9V.1 h;exact a9V.2 ⟨λ x hx=>h1 x (k1 x hx),k2⟩
 | y::ys,j+1,h,hj,h1,h2=>by
  obtain⟨k1,k2⟩:=a9V.1 h;simp only[List.getElem?_cons_succ] at hj;refine a9V.2 ⟨λ x hx=>?_,D6 k2 hj h1 h2⟩;rcases List.mem_or_eq_of_mem_set hx with hx|rfl
  .exact k1 x hx
  .exact h2 y (k1 a (a9h hj))
theorem uF.store(h:uF m es)(hT:P.underlying T=some (.map kT eT))(hk:P.underlying kT=some (descOf m.κ))(hb:w.heap[b]?=some (.map es clock))
  {k:m.κ.den} {v:Value} (hv:nN m.κ k v) {x:m.ε.den} {u:Value} (hu:nN m.ε x u) (hn:m.n<1000000000) :
  ∃ Sf LC,(Instr.mapUpdate T (.map (some b)) v u).run P w = .ok () { w with heap:=w.heap.setIfInBounds b (.map Sf LC) }/\uF ⟨m.κ,m.ε,fK m.f k x,gB (m.f k) m.n⟩ Sf:=by
 have hK:=hv.isKey h.sk w;rcases h.found hv w with ⟨h1,h2,h3⟩|⟨j,e,y,h1,h2,h3,h4,h5⟩
 .refine⟨es.push ⟨v,u,clock⟩,clock+1,?_,?_⟩
  .simp[Instr.mapUpdate,a9g hT,b0S hb,run_checkKey hk hK,run_findKey hk h1,run_setObj_map _ hb,Result.andThen]
  .refine⟨h.sk,h.se,?_,by simp[gB,h3];omega,?_,?_,?_⟩
   .simp[gB,h3,h.len]
   .simp only[b1K];refine b1t.2 ⟨h.nd,by simp,λ a ha b' cq=>?_⟩;simp only[a8L] at cq;subst cq;exact h2 a ha
   .intro e he;simp only[b1K,a8t,a8L] at he;rcases he with he|rfl
    .obtain⟨k',v',k1,k2,k3⟩:=h.YA e he;refine⟨k',v',k1,k2,?_⟩;show fK m.f k x k'=some v';rw[eL _ _ _ (λ e1=>h2 e he ((e1 ▸ k1).inj h.sk hv w))];exact k3
    .exact⟨k,x,hv,hu,gu _ _ _⟩
   .intro k' v' hf;by_cases WX:k'=k
    .exact⟨⟨v,u,clock⟩,by simp,by rw[WX];exact hv⟩
    .have hf':m.f k'=some v':=by rw[<-eL m.f k x WX];exact hf
     obtain⟨e,he,UN⟩:=h.all k' v' hf';exact⟨e,by simp only[b1K,a8t];exact .inl he,UN⟩
 .have hj:es[j]?=some e:=by simpa using h2
  have QS:(es.modify j (λ e'=>{ e' with key:=v,val:=u })).toList=es.toList.set j { e with key:=v,val:=u }:=by
   rw[Array.toList_modify];apply b1L;intro i;simp only[List.getElem?_modify,b1M];by_cases nQ:j=i
   .subst nQ;have hl:=(a8P.1 h2).1;simp only[a8A,a8A hl];rw[h2];rfl
   .simp[nQ]
  refine⟨es.modify j (λ e'=>{ e' with key:=v,val:=u }),clock,?_,?_⟩
  .simp[Instr.mapUpdate,a9g hT,b0S hb,run_checkKey hk hK,run_findKey hk h1,hj,h3,run_keyThatStays hK,run_setObj_map _ hb,Result.andThen]
  .have oth:∀ x'∈es.toList.set j { e with key:=v,val:=u },x'={ e with key:=v,val:=u }\/(x'∈es.toList/\x'.key≠v):=by
    intro x' hx;obtain⟨i,hi,ex⟩:=b0L hx;rw[List.getElem_set] at ex;split at ex
    .exact .inl ex.symm
    .rename_i dh;have mn:i<es.toList.length:=by simpa using hi
     refine .inr ⟨ex ▸ b0o mn,λ QZ=>?_⟩;have Za:j<es.toList.length:=(a8P.1 h2).1;have hje:es.toList[j]=e:=(a8P.1 h2).2;have hpw:=List.pairwise_iff_getElem.1 h.nd;rcases Nat.lt_or_gt_of_ne dh with hl|hl
     .exact hpw j i Za mn hl (by rw[hje,ex,h3,QZ])
     .exact hpw i j mn Za hl (by rw[hje,ex,h3,QZ])
   refine⟨h.sk,h.se,?_,by simp[gB,h4];omega,?_,?_,?_⟩
   .simp[gB,h4,h.len]
   .rw[QS];exact D6 h.nd h2 (λ x' hx=>by rw[<-h3];exact hx) (λ x' hx=>by rw[<-h3];exact hx)
   .intro e' xy;rw[QS] at xy;rcases oth e' xy with rfl|⟨he,dh⟩
    .exact⟨k,x,hv,hu,gu _ _ _⟩
    .obtain⟨k',v',k1,k2,k3⟩:=h.YA e' he;refine⟨k',v',k1,k2,?_⟩;show fK m.f k x k'=some v';rw[eL _ _ _ (λ e1=>dh ((e1 ▸ k1).inj h.sk hv w))];exact k3
   .intro k' v' hf;by_cases WX:k'=k
    .refine⟨{ e with key:=v,val:=u },?_,(show k'=k from WX).symm ▸ hv⟩;rw[QS];exact List.mem_iff_getElem.2 ⟨j,by simpa using (List.getElem?_eq_some_iff.1 h2).1,by simp⟩
    .have hf':m.f k'=some v':=by rw[<-eL m.f k x WX];exact hf
     obtain⟨e',xy,UN⟩:=h.all k' v' hf';refine⟨e',?_,UN⟩;rw[QS];obtain⟨i,hi,ex⟩:=b0L xy;have nQ:j≠i:=by
      intro e1;subst e1;have hje:es.toList[j]=e:=(a8P.1 h2).2;have:e'=e:=ex ▸ hje;subst this;exact WX ((h3 ▸ UN).val h.sk hv w)
     exact List.mem_iff_getElem.2 ⟨i,by simpa using hi,by rw[List.getElem_set_ne nQ];exact ex⟩
end
end Go.Proofs.YtncejbehidimmaaGreatDoor

namespace Go.Proofs.YtncejbehidimmaaGreatDoor
def aI{α β:Type}(R:α->β->Prop):List α->List β->Prop
 | [],[]=>True
 | a::Z9,b::bs=>R a b/\aI R Z9 bs
 | _,_=>False
theorem aI.length{α β:Type}{R:α->β->Prop}:∀ {Z9:List α} {bs:List β},aI R Z9 bs->Z9.length=bs.length
 | [],[],_=>rfl
 | _::_,_::_,h=>by simp[aI.length h.2]
 | [],_::_,h=>h.elim
 | _::_,[],h=>h.elim
theorem aI.imp{α β:Type}{R R':α->β->Prop}:∀ {Z9:List α} {bs:List β},aI R Z9 bs->(∀ a b,a∈Z9->R a b->R' a b)->aI R' Z9 bs
 | [],[],_,_=>trivial
 | _::_,_::_,h,k=>⟨k _ _ (by simp) h.1,aI.imp h.2 λ a b ha=>k a b (by simp[ha])⟩
 | [],_::_,h,_=>h.elim
 | _::_,[],h,_=>h.elim
theorem aI.at_{α β:Type}{R:α->β->Prop}:∀ {Z9:List α} {bs:List β},aI R Z9 bs->∀ (i:Nat) a,Z9[i]?=some a->∃ b,bs[i]?=some b/\R a b
 | [],[],_,i,a,h=>by simp at h
 | _::_,b::_,h,0,a,hi=>by simp at hi;subst hi;exact⟨b,rfl,h.1⟩
 | _::_,_::_,h,i+1,a,hi=>by simpa using aI.at_ h.2 i a (by simpa using hi)
 | [],_::_,h,_,_,_=>h.elim
 | _::_,[],h,_,_,_=>h.elim
theorem aI.append{α β:Type}{R:α->β->Prop}:∀ {Z9:List α} {bs:List β} {as' bs'},aI R Z9 bs->aI R as' bs'->aI R (Z9++as') (bs++bs')
 | [],[],_,_,_,k=>k
 | _::_,_::_,_,_,h,k=>⟨h.1,aI.append h.2 k⟩
 | [],_::_,_,_,h,_=>h.elim
 | _::_,[],_,_,h,_=>h.elim
theorem aI.take{α β:Type}{R:α->β->Prop}(n:Nat):∀ {Z9:List α} {bs:List β},aI R Z9 bs->aI R (Z9.take n) (bs.take n):=by
 induction n with
 | zero=>intro Z9 bs _;simp[aI]
 | succ n ih =>
  intro Z9 bs h;match Z9,bs,h with
  | [],[],_=>simp[aI]
  | _::_,_::_,h=>exact⟨h.1,ih h.2⟩
theorem aI.drop{α β:Type}{R:α->β->Prop}(n:Nat):∀ {Z9:List α} {bs:List β},aI R Z9 bs->aI R (Z9.drop n) (bs.drop n):=by
 induction n with
 | zero=>intro Z9 bs h;simpa using h
 | succ n ih =>
  intro Z9 bs h;match Z9,bs,h with
  | [],[],_=>simp[aI]
  | _::_,_::_,h=>exact ih h.2
theorem aI.dR{α β γ:Type}{R:γ->β->Prop}(f:α->γ):∀ {Z9:List α} {bs:List β},aI (λ a b=>R (f a) b) Z9 bs->aI R (Z9.map f) bs
 | [],[],_=>trivial
 | _::_,_::_,h=>⟨h.1,aI.dR f h.2⟩
 | [],_::_,h=>h.elim
 | _::_,[],h=>h.elim
theorem aI.of_map{α β γ:Type}{R:γ->β->Prop}(f:α->γ):∀ {Z9:List α} {bs:List β},aI R (Z9.map f) bs->aI (λ a b=>R (f a) b) Z9 bs
 | [],[],_=>trivial
 | _::_,_::_,h=>⟨h.1,aI.of_map f h.2⟩
 | [],_::_,h=>h.elim
 | _::_,[],h=>h.elim
theorem cR.uG{w:World}{S:Nat->Prop}:∀ {vs:List TV} {cs:List Value},cR w S (vs.map TV.aD) cs↔aI (λ v x=>Rd w S v.aD [x]) vs cs
 | [],[]=>by simp[cR,aI]
 | [],_::_=>by simp[cR,aI]
 | v::vs,[]=>by simp[cR,aI]
 | v::vs,x::cs=>by
  simp only[a9a,cR,aI];constructor
  .rintro⟨y,r,h1,h2,h3⟩;simp only[a8x] at h1;obtain⟨rfl,rfl⟩:=h1;exact⟨h2,cR.uG.1 h3⟩
  .rintro⟨h1,h2⟩;exact⟨x,cs,rfl,h1,cR.uG.2 h2⟩
structure bH(X:Nat->Prop)(w w':World):Prop where
 os:w'.os=w.os
 tape:w'.tape=w.tape
 output:w'.output=w.output
 size:w.heap.size<=w'.heap.size
 block:∀ b,b<w.heap.size->¬ X b->w'.heap[b]?=w.heap[b]?
theorem bH.refl(X:Nat->Prop)(w:World):bH X w w:=⟨rfl,rfl,rfl,a8C _,λ _ _ _=>rfl⟩
theorem bH.trans{X Y:Nat->Prop}{a b c:World}(h:bH X a b)(k:bH Y b c)(hXY:∀ i,i<a.heap.size->Y i->X i):bH X a c :=
 ⟨k.os.trans h.os,k.tape.trans h.tape,k.output.trans h.output,a9v h.size k.size,
  λ i hi hx=>(k.block i (a8B hi h.size) (λ hy=>hx (hXY i hi hy))).trans (h.block i hi hx)⟩
structure Ctx where
 P:Program
 E:Env
 w0:World
 X:Nat->Prop
 S0:Nat->Prop
 R:Nat->Option Value
 Z:Nat->Prop
 RB:Nat->Option Nat
structure Gh where
 S:Nat->Prop
 η:Nat->Value
 φ:Nat->List Nat
def St(c:Ctx)(S:Nat->Prop)(b:Nat):Prop:=S b\/(b<c.w0.heap.size/\¬ c.X b/\¬ c.Z b)
def dt:Value->Option Nat
 | .pointer (some a)=>some a.block
 | .slice (some a) _ _=>some a.block
 | .map (some b)=>some b
 | _=>none
def dv(w:World)(S:Nat->Prop)(v:TV)(x:Value):Prop :=
 match v with
 | ⟨.st s,y⟩=>∃ cs,x = .agg cs.toArray/\Rd w S (s.aD y) cs
 | v=>Rd w S v.aD [x]
def Ee(w:World)(S:Nat->Prop):Arg->Value->Prop
 | .val v,x=>dv w S v x
 | .ref v,x=>∃ b o cs,x = .pointer (some ⟨b,o,none⟩)/\b<w.heap.size/\bh w b o cs/\Rd w S v.aD cs
 | .fn f,x=>x = .func (.func f) #[] #[]
 | .cM _,_=>False
 | .own _,_=>False
 | .box _,_=>False
def DB(w:World)(S:Nat->Prop):List TV->Value->Prop
 | [v],x=>dv w S v x
 | vs,x=>∃ l,x = .tuple l.toArray/\aI (dv w S) vs l
def XU(w:World)(S:Nat->Prop):Prop:=∀ g∈Uw,S g/\∃ m,w.cell? ⟨g,0,none⟩=some (.int .i64 m)
def iX(w:World)(S:Nat->Prop):Prop:=(∀ b,S b->b<w.heap.size)/\XU w S
theorem XU.mono{w w':World}{S S':Nat->Prop}(h:XU w S)(hS:∀ b,S b->S' b)(hw:∀ b,S b->w'.heap[b]?=w.heap[b]?):XU w' S':=λ g hg=>by
 obtain⟨h1,m,h2⟩:=h g hg;exact⟨hS g h1,m,(b0B (a:=⟨g,0,none⟩) (hw g h1)).trans h2⟩
def FO(P:Program)(f:FuncId)(args:List Arg)(post:List TV->Prop):Prop :=
 ∀ (w:World) (S:Nat->Prop) (cC:List Value),iX w S->aI (Ee w S) args cC ->
  Calls P f cC.toArray w λ e w'=>∃ x S' res,e = .returned x/\post res/\bH (λ _=>False) w w'/\(∀ b,b<w.heap.size->(S' b↔S b))/\(∀ b,S' b->b<w'.heap.size)/\DB w' S' res x
def kI (P:Program) (f:FuncId):Prop:=∃ fn,P.funcs[f]?=some fn/\fn.body.isNone=false/\(fn.name == "runtime.NumGoroutine")=false
def ye(P:Program)(f:FuncId)(eb:List Arg):(ps:List Ty)->(r:Ty)->FN ps r->List Arg->Prop
 | [],r,F,acc=>F.1->kI P f/\FO P f (acc++eb) (·=[⟨r,F.2⟩])
 | t::ts,r,F,acc=>∀ x,ye P f eb ts r (F x) (acc++[.val ⟨t,x⟩])
def LR(c:Ctx)(S:Nat->Prop)(w:World):Arg->Value->Prop
 | .val v,x=>dv w S v x
 | .ref v,x=>∃ b o cs,x = .pointer (some ⟨b,o,none⟩)/\St c S b/\bh w b o cs/\Rd w S v.aD cs
 | .fn f,x=>x = .func (.func f) #[] #[]
 | .cM _,_=>False
 | .own _,_=>False
 | .box _,_=>False
def C1(c:Ctx)(G:Gh)(lk:Nat->Option au)(w:World):AV->Value->Prop
 | .any,_=>True
 | .dG,x=>x=undef
 | .aK v,x=>v.τ.agg=false/\Rd w G.S v.aD [x]
 | .nil,x=>x = .slice none 0 0
 | .cO v,x=>∃ b o cs,x = .pointer (some ⟨b,o,none⟩)/\St c G.S b/\bh w b o cs/\Rd w G.S v.aD cs
 | .ptr id off,x=>∃ b,G.η id = .pointer (some ⟨b,0,none⟩)/\x = .pointer (some ⟨b,off,none⟩)/\gm (lk id)=true
 | .row id,x=>x=G.η id/\isRow (lk id)=true/\∃ a n m,x = .slice a n m
 | .dN id i off,x=>∃ b n cap e τ xs,G.η id = .slice (some ⟨b,0,none⟩) n cap/\lk id=some (.row e τ xs)/\i<xs.length/\x = .pointer (some ⟨b,i * τ.size+off,none⟩)
 | .fn f,x=>x = .func (.func f) #[] #[]
 | .aA id,x=>cS (lk id)=true/\∃ l,G.η id = .tuple (x::l).toArray/\∃ a n m,x = .slice a n m
 | .sub id i off sz,x=>cS (lk id)=true/\∃ a n cap l,G.η id = .tuple (.slice a n cap::l).toArray/\i<n/\l[i * sz+off]?=some x/\∃ a n m,x = .slice a n m
 | .dW id i off sz,x=>cS (lk id)=true/\∃ b n cap l,G.η id = .tuple (.slice (some ⟨b,0,none⟩) n cap::l).toArray/\i<n/\x = .pointer (some ⟨b,i * sz+off,none⟩)
 | .fV v,x=>∃ f eb l,x = .func (.func f) #[] l.toArray/\ye c.P f eb v.ps v.r v.F []/\aI (LR c G.S w) eb l
 | .mp id,x=>x=G.η id/\Fh (lk id)=true/\∃ b,x = .map (some b)
 | .agg _,_=>False
 | .fO _,_=>False
 | .cM ..,_=>False
def TR(c:Ctx)(G:Gh)(lk:Nat->Option au)(w:World):AV->Value->Prop
 | .any,_=>True
 | .aK v,x=>dv w G.S v x
 | .aA id,x=>C1 c G lk w (.aA id) x
 | .cO v,x=>C1 c G lk w (.cO v) x
 | .agg cs,x=>∃ l,x = .agg l.toArray/\aI (C1 c G lk w) cs l
 | _,_=>False
def CR(c:Ctx)(G:Gh)(lk:Nat->Option au)(w:World):AV->Value->Prop
 | .aK v,x=>dv w G.S v x
 | .agg cs,x=>∃ l,x = .agg l.toArray/\aI (C1 c G lk w) cs l
 | v,x=>C1 c G lk w v x
def VR(c:Ctx)(G:Gh)(lk:Nat->Option au)(w:World):AV->Value->Prop
 | .aK v,x=>dv w G.S v x
 | .agg cs,x=>∃ l,x = .agg l.toArray/\aI (C1 c G lk w) cs l
 | .fO vs,x=>∃ l,x = .tuple l.toArray/\aI (TR c G lk w) vs l
 | .cM f cs,x=>∃ l,x = .func (.func f) #[] l.toArray/\aI (CR c G lk w) cs l
 | v,x=>C1 c G lk w v x
def OR(c:Ctx)(G:Gh)(lk:Nat->Option au)(w:World)(id:Nat):au->Prop
 | .box cs=>∃ b l t,G.η id = .pointer (some ⟨b,0,none⟩)/\w.heap[b]?=some (.cells l.toArray t (0,0))/\aI (C1 c G lk w) cs l
 | .row e τ xs=>∃ l,w.ownsRow 0 e τ.size (G.η id) xs.length l/\cP w G.S (xs.map τ.aD) l/\xs.length<=140737488355328
 | .aA τ xs=>True
 | .map m=>∃ b es clock,G.η id = .map (some b)/\w.heap[b]?=some (.map es clock)/\uF m es
def gG(w:World)(η:Value)(τ:Ty)(xs:List τ.den)(fp:List Nat):Prop :=
 ∃ v l a cap,η = .tuple (v::l).toArray/\v = .slice a xs.length cap/\xs.length<=cap/\cap<=maxLen/\xs.length<=140737488355328 /\
  ((xs=[]/\(a=none/\cap=0)/\fp=[])\/∃ b f t,a=some ⟨b,0,none⟩/\fp=b::f/\w.heap[b]?=some (.cells l.toArray t (0,0))/\l.length=cap * τ.size/\bG w (xs.map τ.aD) l f)
structure Eh(c:Ctx)(G:Gh)(lk:Nat->Option au)(w:World):Prop where
 tr:∀ id τ xs,lk id=some (.aA τ xs)->gG w (G.η id) τ xs (G.φ id)
 nd:∀ id τ xs,lk id=some (.aA τ xs)->(G.φ id).Nodup
 pl:∀ id τ xs b,lk id=some (.aA τ xs)->b∈G.φ id->(c.w0.heap.size<=b\/c.X b)/\¬ G.S b/\b<w.heap.size/\∀ i o,lk i=some o->dt (G.η i)≠some b
 ap:∀ id di τ aO xs cI b,lk id=some (.aA τ xs)->lk di=some (.aA aO cI)->b∈G.φ id->b∈G.φ di->id=di
def XGk(c:Ctx):Prop:=(∀ b,c.X b->b<c.w0.heap.size)/\∀ g∈Uw,c.S0 g/\¬ c.X g/\g<c.w0.heap.size/\∃ m,c.w0.cell? ⟨g,0,none⟩=some (.int .i64 m)
structure aV(c:Ctx)(G:Gh)(sl:Nat->AV)(n:Nat)(lk:Nat->Option au)(a:Act)(w:World):Prop where
 defers:a.defers=[]
 size:a.tmps.size=n
 aE:bH c.X c.w0 w
 jN:XGk c
 ew:∀ b,b<c.w0.heap.size->¬ c.X b->(G.S b↔c.S0 b)
 sX:∀ b,c.S0 b->G.S b
 dH:∀ b,G.S b->b<w.heap.size
 aw:∀ i,VR c G lk w (sl i) (a.tmps.getD i undef)
 aC:∀ id o,lk id=some o->OR c G lk w id o
 place:∀ id o b,lk id=some o->dt (G.η id)=some b->(c.w0.heap.size<=b\/c.X b)/\¬ G.S b/\b<w.heap.size
 apart:∀ id di o o' b,lk id=some o->lk di=some o'->dt (G.η id)=some b->dt (G.η di)=some b->id=di
 aM:Eh c G lk w
 root:∀ id v,c.R id=some v->cS (lk id)=true->∃ l,G.η id = .tuple (v::l).toArray
 fN:∀ id v,c.R id=some v->50<=id/\id<100
 dy:∀ id b,c.RB id=some b->gm (lk id)=true->G.η id = .pointer (some ⟨b,0,none⟩)
 eM:∀ id b,c.RB id=some b->400000<=id
theorem aV.Xw{c:Ctx}{G:Gh}{sl:Nat->AV}{n:Nat}{lk:Nat->Option au}{a:Act}{w:World}(h:aV c G sl n lk a w):iX w G.S:=⟨h.dH,λ g hg=>by
 obtain⟨h1,h2,h3,m,h4⟩:=h.jN.2 g hg;exact⟨h.sX g h1,m,(b0B (a:=⟨g,0,none⟩) (h.aE.block g h3 h2)).trans h4⟩⟩
def ag.sl(s:ag)(i:Nat):AV:=s.aw.getD i .any
def Inv(c:Ctx)(G:Gh)(s:ag)(a:Act)(w:World):Prop:=aV c G s.sl s.aw.length s.af a w
theorem pw{o:Option au}(h:isRow o=true):cS o=false:=by
 match o,h with
 | some (.row ..),_=>rfl
theorem DZ{o:Option au}(h:Fh o=true):cS o=false:=by
 match o,h with
 | some (.map _),_=>rfl
def dX(o o':Option au):Prop :=
 (gm o=true->gm o'=true)/\(∀ e τ xs,o=some (.row e τ xs)->∃ e' cI,o'=some (.row e' τ cI)/\xs.length<=cI.length)/\(cS o=true->cS o'=true)/\(Fh o=true->Fh o'=true)
theorem dX.refl(o:Option au):dX o o:=⟨id,λ e τ xs h=>⟨e,xs,h,a8C _⟩,id,id⟩
theorem dX.isRow{o o':Option au}(h:dX o o')(hr:isRow o=true):YtncejbehidimmaaGreatDoor.isRow o'=true:=by
 match o,hr with
 | some (.row e τ xs),_ =>
  obtain⟨e',cI,h1,_⟩:=h.2.1 e τ xs rfl;rw[h1];rfl
section
variable {c:Ctx} {G G':Gh} {lk lk':Nat->Option au} {w w':World}
theorem dv.mono{v:TV}{x:Value}(h:dv w G.S v x)(hS:∀ b,G.S b->G'.S b)(hw:∀ b,G.S b->w'.heap[b]?=w.heap[b]?):dv w' G'.S v x:=by
 obtain⟨τ,y⟩:=v;cases τ with
 | st s =>
  obtain⟨cs,h1,h2⟩:=h;exact⟨cs,h1,Rd.aE hS hw _ h2⟩
 | _=>exact Rd.aE hS hw _ h
theorem LR.mono{S S':Nat->Prop}{v:Arg}{x:Value}(h:LR c S w v x)(hS:∀ b,S b->S' b)(hw:∀ b,St c S b->w'.heap[b]?=w.heap[b]?):LR c S' w' v x:=by
 cases v with
 | val v=>exact dv.mono (G:=⟨S,λ _=>undef,λ _=>[]⟩) (G':=⟨S',λ _=>undef,λ _=>[]⟩) h hS (λ b hb=>hw b (.inl hb))
 | ref v =>
  obtain⟨b,o,cs,h1,h2,h3,h4⟩:=h;exact⟨b,o,cs,h1,h2.imp (hS b) id,h3.aE (hw b h2),Rd.aE hS (λ b hb=>hw b (.inl hb)) _ h4⟩
 | fn f=>exact h
 | cM v=>exact h
 | own v=>exact h
 | box k=>exact h
theorem C1.mono{v:AV}{x:Value}(h:C1 c G lk w v x)(hk:∀ id,v.refs id=true->dX (lk id) (lk' id)/\G'.η id=G.η id)
  (hS:∀ b,G.S b->G'.S b) (hw:∀ b,St c G.S b->w'.heap[b]?=w.heap[b]?):C1 c G' lk' w' v x:=by
 have xC:∀ b,G.S b->w'.heap[b]?=w.heap[b]?:=λ b hb=>hw b (.inl hb);cases v with
 | any=>trivial
 | dG=>exact h
 | aK v=>exact⟨h.1,Rd.aE hS xC _ h.2⟩
 | nil=>exact h
 | cO v =>
  obtain⟨b,o,cs,h1,h2,h3,h4⟩:=h;exact⟨b,o,cs,h1,h2.imp (hS b) id,h3.aE (hw b h2),Rd.aE hS xC _ h4⟩
 | ptr id off =>
  obtain⟨b,h1,h2,h3⟩:=h;obtain⟨k1,k2⟩:=hk id (by simp[AV.refs]);exact⟨b,k2.trans h1,h2,k1.1 h3⟩
 | row id =>
  obtain⟨h1,h2,h3⟩:=h;obtain⟨k1,k2⟩:=hk id (by simp[AV.refs]);exact⟨h1.trans k2.symm,k1.isRow h2,h3⟩
 | dN id i off =>
  obtain⟨b,n,cap,e,τ,xs,h1,h2,h3,h4⟩:=h;obtain⟨k1,k2⟩:=hk id (by simp[AV.refs]);obtain⟨e',cI,k3,k4⟩:=k1.2.1 e τ xs h2;exact⟨b,n,cap,e',τ,cI,k2.trans h1,k3,by omega,h4⟩
 | fn f=>exact h
 | aA id =>
  obtain⟨h1,l,h2,h3⟩:=h;obtain⟨k1,k2⟩:=hk id (by simp[AV.refs]);exact⟨k1.2.2.1 h1,l,k2.trans h2,h3⟩
 | sub id i off sz =>
  obtain⟨h1,a,n,cap,l,h2,h3⟩:=h;obtain⟨k1,k2⟩:=hk id (by simp[AV.refs]);exact⟨k1.2.2.1 h1,a,n,cap,l,k2.trans h2,h3⟩
 | dW id i off sz =>
  obtain⟨h1,b,n,cap,l,h2,h3⟩:=h;obtain⟨k1,k2⟩:=hk id (by simp[AV.refs]);exact⟨k1.2.2.1 h1,b,n,cap,l,k2.trans h2,h3⟩
 | fV v =>
  obtain⟨f,eb,l,h1,h2,h3⟩:=h;exact⟨f,eb,l,h1,h2,h3.imp λ u y _ hy=>hy.mono hS hw⟩
 | mp id =>
  obtain⟨h1,h2,h3⟩:=h;obtain⟨k1,k2⟩:=hk id (by simp[AV.refs]);exact⟨h1.trans k2.symm,k1.2.2.2 h2,h3⟩
 | agg cs=>exact h
 | fO vs=>exact h
 | cM f cs=>exact h
theorem jL{id:Nat}:∀ {cs:List AV} {v:AV},v∈cs->v.refs id=true->AV.eX id cs=true
 | u::r,v,hm,hv=>by
  simp only[AV.eX];rcases a8G.1 hm with rfl|h
  .rw[hv]
  .split
   .rfl
   .exact jL h hv
theorem CR.mono{v:AV}{x:Value}(h:CR c G lk w v x)(hk:∀ id,v.refs id=true->dX (lk id) (lk' id)/\G'.η id=G.η id)
  (hS:∀ b,G.S b->G'.S b) (hw:∀ b,St c G.S b->w'.heap[b]?=w.heap[b]?):CR c G' lk' w' v x:=by
 cases v with
 | aK v=>exact dv.mono h hS (λ b hb=>hw b (.inl hb))
 | agg cs =>
  obtain⟨l,h1,h2⟩:=h;exact⟨l,h1,h2.imp λ u y hu hy=>hy.mono (λ id aL=>hk id (by simp only[AV.refs];exact jL hu aL)) hS hw⟩
 | any=>trivial
 | dG=>exact h
 | nil=>exact C1.mono (v := .nil) h hk hS hw
 | cO v=>exact C1.mono (v := .cO v) h hk hS hw
 | ptr i o=>exact C1.mono (v := .ptr i o) h hk hS hw
 | row i=>exact C1.mono (v := .row i) h hk hS hw
 | dN i k o=>exact C1.mono (v := .dN i k o) h hk hS hw
 | fn f=>exact C1.mono (v := .fn f) h hk hS hw
 | aA i=>exact C1.mono (v := .aA i) h hk hS hw
 | sub i k o z=>exact C1.mono (v := .sub i k o z) h hk hS hw
 | dW i k o z=>exact C1.mono (v := .dW i k o z) h hk hS hw
 | fV v=>exact C1.mono (v := .fV v) h hk hS hw
 | mp i=>exact C1.mono (v := .mp i) h hk hS hw
 | fO _=>exact h
 | cM _ _=>exact h
theorem VR.mono{v:AV}{x:Value}(h:VR c G lk w v x)(hk:∀ id,v.refs id=true->dX (lk id) (lk' id)/\G'.η id=G.η id)
  (hS:∀ b,G.S b->G'.S b) (hw:∀ b,St c G.S b->w'.heap[b]?=w.heap[b]?):VR c G' lk' w' v x:=by
 have xC:∀ b,G.S b->w'.heap[b]?=w.heap[b]?:=λ b hb=>hw b (.inl hb);cases v with
 | aK v=>exact dv.mono h hS xC
 | agg cs =>
  obtain⟨l,h1,h2⟩:=h;exact⟨l,h1,h2.imp λ u y hu hy=>hy.mono (λ id aL=>hk id (by simp only[AV.refs];exact jL hu aL)) hS hw⟩
 | fO vs =>
  obtain⟨l,h1,h2⟩:=h;refine⟨l,h1,h2.imp λ u y hu hy=>?_⟩;have fe:∀ id,u.refs id=true->dX (lk id) (lk' id)/\G'.η id=G.η id:=λ id aL=>hk id (by simp only[AV.refs];exact jL hu aL);cases u with
  | any=>trivial
  | aK v=>exact dv.mono hy hS xC
  | aA i=>exact C1.mono (v := .aA i) hy fe hS hw
  | cO v=>exact C1.mono (v := .cO v) hy fe hS hw
  | agg cs =>
   obtain⟨l,h1,h2⟩:=hy;exact⟨l,h1,h2.imp λ u y hu hy=>hy.mono (λ id aL=>fe id (by simp only[AV.refs];exact jL hu aL)) hS hw⟩
  | _=>exact hy.elim
 | dG=>trivial
 | any=>trivial
 | nil=>exact C1.mono (v := .nil) h hk hS hw
 | cO v=>exact C1.mono (v := .cO v) h hk hS hw
 | ptr i o=>exact C1.mono (v := .ptr i o) h hk hS hw
 | row i=>exact C1.mono (v := .row i) h hk hS hw
 | dN i k o=>exact C1.mono (v := .dN i k o) h hk hS hw
 | fn f=>exact C1.mono (v := .fn f) h hk hS hw
 | aA i=>exact C1.mono (v := .aA i) h hk hS hw
 | sub i k o z=>exact C1.mono (v := .sub i k o z) h hk hS hw
 | dW i k o z=>exact C1.mono (v := .dW i k o z) h hk hS hw
 | fV v=>exact C1.mono (v := .fV v) h hk hS hw
 | mp i=>exact C1.mono (v := .mp i) h hk hS hw
 | cM f cs =>
  obtain⟨l,h1,h2⟩:=h;exact⟨l,h1,h2.imp λ u y hu hy=>hy.mono (λ id aL=>hk id (by simp only[AV.refs];exact jL hu aL)) hS hw⟩
def au.refs(id:Nat):au->Bool
 | .box cs=>AV.eX id cs
 | .row .. => false
 | .aA .. => false
 | .map .. => false
theorem o7{v:Value}{e:TypeId}{size n:Nat}{l:List Value}(h:w.ownsRow 0 e size v n l):v.ownBlock=dt v:=by
 rcases h.2 with ⟨rfl,_⟩|⟨g,cap,cur,rfl,_⟩<;>rfl
theorem D5{e:TypeId}{size n:Nat}{v:Value}{l:List Value}(h:w.ownsRow 0 e size v n l)(hb:∀ b,dt v=some b->w'.heap[b]?=w.heap[b]?):w'.ownsRow 0 e size v n l:=by
 refine⟨h.1,h.2.imp id ?_⟩;rintro⟨g,cap,cur,rfl,h1,h2,h3⟩;exact⟨g,cap,cur,rfl,h1,by rw[hb g rfl];exact h2,h3⟩
theorem OR.mono{id:Nat}{o:au}(h:OR c G lk w id o)(eP:G'.η id=G.η id)(hb:∀ b,dt (G.η id)=some b->w'.heap[b]?=w.heap[b]?)
  (hk:∀ j,o.refs j=true->dX (lk j) (lk' j)/\G'.η j=G.η j) (hS:∀ b,G.S b->G'.S b) (hw:∀ b,St c G.S b->w'.heap[b]?=w.heap[b]?):OR c G' lk' w' id o:=by
 cases o with
 | box cs =>
  obtain⟨b,l,t,h1,h2,h3⟩:=h;refine⟨b,l,t,eP.trans h1,?_,h3.imp λ u y hu hy=>hy.mono (λ j hj=>hk j (jL hu hj)) hS hw⟩;rw[hb b (by rw[h1];rfl)];exact h2
 | row e τ xs =>
  obtain⟨l,h1,h2,h3⟩:=h;refine⟨l,?_,cP.aE hS (λ b hb=>hw b (.inl hb)) _ h2,h3⟩;rw[eP];exact D5 h1 hb
 | aA τ xs=>trivial
 | map m =>
  obtain⟨b,es,clock,h1,h2,h3⟩:=h;exact⟨b,es,clock,eP.trans h1,by rw[hb b (by rw[h1];rfl)];exact h2,h3⟩
end
theorem gG.aE{w w':World}{η:Value}{τ:Ty}{xs:List τ.den}{fp:List Nat}(h:gG w η τ xs fp)(hw:∀ b∈fp,w'.heap[b]?=w.heap[b]?):gG w' η τ xs fp:=by
 obtain⟨v,l,a,cap,h1,h2,h3,h4,h5,h6⟩:=h;refine⟨v,l,a,cap,h1,h2,h3,h4,h5,h6.imp id ?_⟩;rintro⟨b,f,t,k1,rfl,k2,k0,k3⟩;exact⟨b,f,t,k1,rfl,by rw[hw b (by simp)];exact k2,k0,bG.aE _ k3 λ b hb=>hw b (by simp[hb])⟩
theorem aV.world{c:Ctx}{G:Gh}{sl:Nat->AV}{n:Nat}{lk:Nat->Option au}{a:Act}{w w':World}{S':Nat->Prop}(h:aV c G sl n lk a w)
  (iA:bH (λ b=>c.w0.heap.size<=b\/c.X b) w w') (hS:∀ b,G.S b->S' b) (YN:∀ b,b<w.heap.size->(S' b↔G.S b)) (hX:∀ b,c.S0 b->S' b) (hLt:∀ b,S' b->b<w'.heap.size)
  (hw:∀ b,St c G.S b->w'.heap[b]?=w.heap[b]?) (jl:∀ id o b,lk id=some o->dt (G.η id)=some b->w'.heap[b]?=w.heap[b]?) (nR:∀ id τ xs b,lk id=some (.aA τ xs)->b∈G.φ id->w'.heap[b]?=w.heap[b]?) :
  aV c ⟨S',G.η,G.φ⟩ sl n lk a w' where
 defers:=h.defers
 size:=h.size
 aE:=h.aE.trans iA λ i hi hy=>hy.elim (λ h=>by omega) id
 jN:=h.jN
 ew b hb hx:=(YN b (a8B hb h.aE.size)).trans (h.ew b hb hx)
 sX:=hX
 dH:=hLt
 aw i:=(h.aw i).mono (λ id _=>⟨dX.refl _,rfl⟩) hS hw
 aC id o ho:=(h.aC id o ho).mono rfl (λ b hb=>jl id o b ho hb) (λ j _=>⟨dX.refl _,rfl⟩) hS hw
 place id o b ho hb:=by
  obtain⟨h1,h2,h3⟩:=h.place id o b ho hb;exact⟨h1,λ hs=>h2 ((YN b h3).1 hs),a8B h3 iA.size⟩
 apart:=h.apart
 aM:={
  tr:=λ id τ xs ht=>(h.aM.tr id τ xs ht).aE λ b hb=>nR id τ xs b ht hb
  nd:=h.aM.nd
  pl:=λ id τ xs b ht hb=>by
   obtain⟨h1,h2,h3,h4⟩:=h.aM.pl id τ xs b ht hb;exact⟨h1,λ hs=>h2 ((YN b h3).1 hs),a8B h3 iA.size,h4⟩
  ap:=h.aM.ap }
 root:=h.root
 fN:=h.fN
 dy:=h.dy
 eM:=h.eM
theorem aV.drew{c:Ctx}{G:Gh}{sl:Nat->AV}{n:Nat}{lk:Nat->Option au}{a:Act}{w:World}(h:aV c G sl n lk a w):aV c G sl n lk a w.drew :=
 h.world (S':=G.S) ⟨rfl,rfl,rfl,a8C _,λ _ _ _=>rfl⟩ (λ _ h=>h) (λ _ _=>b0G) h.sX h.dH (λ _ _=>rfl) (λ _ _ _ _ _=>rfl) (λ _ _ _ _ _ _=>rfl)
def iu(n:Nat)(sl:Nat->AV)(d:Option Nat)(v:AV)(i:Nat):AV:=if d=some i/\i<n then v else sl i
theorem dI(a:Act)(d:Option Nat)(x:Value)(i:Nat):(a.put d x).tmps.getD i undef=if d=some i/\i<a.tmps.size then x else a.tmps.getD i undef:=by
 cases d with
 | none=>simp[Act.put]
 | some d =>
  simp only[Act.put,a8r];by_cases h:d=i
  .subst h;by_cases hl:d<a.tmps.size
   .simp[hl,a9d]
   .simp[hl,a9d,Array.setIfInBounds]
  .simp[h,a9d,b1D]
theorem fB(a:Act)(d:Option Nat)(x:Value):(a.put d x).tmps.size=a.tmps.size:=by cases d<;>simp[Act.put]
theorem ie(a:Act)(d:Option Nat)(x:Value):(a.put d x).defers=a.defers:=by cases d<;>rfl
theorem aV.put{c:Ctx}{G:Gh}{sl:Nat->AV}{n:Nat}{lk:Nat->Option au}{a:Act}{w:World}(h:aV c G sl n lk a w){d:Option Nat}{v:AV}{x:Value}(hv:VR c G lk w v x) :
  aV c G (iu n sl d v) n lk (a.put d x) w where
 defers:=(ie _ _ _).trans h.defers
 size:=(fB _ _ _).trans h.size
 aE:=h.aE
 jN:=h.jN
 ew:=h.ew
 sX:=h.sX
 dH:=h.dH
 aw i:=by
  rw[dI,h.size,iu];split
  .exact hv
  .exact h.aw i
 aC:=h.aC
 place:=h.place
 apart:=h.apart
 aM:=h.aM
 root:=h.root
 fN:=h.fN
 dy:=h.dy
 eM:=h.eM
theorem aV.forget{c:Ctx}{G:Gh}{sl sl':Nat->AV}{n:Nat}{lk:Nat->Option au}{a:Act}{w:World}(h:aV c G sl n lk a w)(hs:∀ i,sl' i=sl i\/sl' i = .any):aV c G sl' n lk a w where
 defers:=h.defers
 size:=h.size
 aE:=h.aE
 jN:=h.jN
 ew:=h.ew
 sX:=h.sX
 dH:=h.dH
 aw i:=by
  rcases hs i with e|e
  .rw[e];exact h.aw i
  .rw[e];trivial
 aC:=h.aC
 place:=h.place
 apart:=h.apart
 aM:=h.aM
 root:=h.root
 fN:=h.fN
 dy:=h.dy
 eM:=h.eM
theorem SY(id:Nat)(v:AV):v.kill id=v\/v.kill id = .any:=by unfold AV.kill;split<;>simp
theorem yP(id:Nat)(v:AV):(v.kill id).refs id=false:=by
 unfold AV.kill;split
 .rfl
 .assumption
theorem C1.kill{c:Ctx}{G:Gh}{lk:Nat->Option au}{w:World}{v:AV}{x:Value}(h:C1 c G lk w v x)(id:Nat):C1 c G lk w (v.kill id) x:=by
 rcases SY id v with e|e
 .rw[e];exact h
 .rw[e];trivial
theorem B7(id:Nat):∀ cs:List AV,AV.eX id (cs.map (AV.kill id))=false
 | []=>rfl
 | v::r=>by simp only[a9a,AV.eX,yP];exact B7 id r
theorem OR.kill{c:Ctx}{G:Gh}{lk:Nat->Option au}{w:World}{i:Nat}{o:au}(h:OR c G lk w i o)(id:Nat):OR c G lk w i (o.kill id):=by
 cases o with
 | box cs =>
  obtain⟨b,l,t,h1,h2,h3⟩:=h;exact⟨b,l,t,h1,h2,aI.dR _ (h3.imp λ u y _ hy=>hy.kill id)⟩
 | row e τ xs=>exact h
 | aA τ xs=>exact h
 | map m=>exact h
theorem Fy(id:Nat)(o:Option au):dX o (o.map (au.kill id)):=by
 refine⟨λ h=>?_,λ e τ xs h=>⟨e,xs,by rw[h];rfl,a8C _⟩,λ h=>?_,λ h=>?_⟩
 .match o,h with
  | some (.box cs),_=>rfl
 .match o,h with
  | some (.aA τ xs),_=>rfl
 .match o,h with
  | some (.map m),_=>rfl
theorem gT{id:Nat}{o:Option au}{τ:Ty}{xs:List τ.den}(h:o.map (au.kill id)=some (.aA τ xs)):o=some (.aA τ xs):=by
 match o,h with
 | some (.aA aO cI),h=>exact h
 | some (.box _),h=>cases h
 | some (.row ..),h=>cases h
theorem Eh.sub{c:Ctx}{G:Gh}{lk lk':Nat->Option au}{w:World}(h:Eh c G lk w)(ht:∀ id τ xs,lk' id=some (.aA τ xs)->lk id=some (.aA τ xs))(ho:∀ i o,lk' i=some o->∃ o',lk i=some o'):Eh c G lk' w where
 tr id τ xs k:=h.tr id τ xs (ht id τ xs k)
 nd id τ xs k:=h.nd id τ xs (ht id τ xs k)
 pl id τ xs b k hb:=by
  obtain⟨h1,h2,h3,h4⟩:=h.pl id τ xs b (ht id τ xs k) hb;exact⟨h1,h2,h3,λ i o hi=>(ho i o hi).elim λ o' cF=>h4 i o' cF⟩
 ap id di τ aO xs cI b k k':=h.ap id di τ aO xs cI b (ht id τ xs k) (ht di aO cI k')
theorem aV.bM{c:Ctx}{G:Gh}{sl:Nat->AV}{n:Nat}{lk:Nat->Option au}{a:Act}{w:World}(h:aV c G sl n lk a w)(id:Nat) :
  aV c G (λ i=>(sl i).kill id) n (λ i=>(lk i).map (au.kill id)) a w:=by
 have h1:aV c G (λ i=>(sl i).kill id) n lk a w:=h.forget λ i=>SY id (sl i);exact {
  defers:=h1.defers,size:=h1.size,aE:=h1.aE,jN:=h1.jN,ew:=h1.ew,sX:=h1.sX,dH:=h1.dH
  aw:=λ i=>(h1.aw i).mono (λ j _=>⟨Fy id _,rfl⟩) (λ _ h=>h) (λ _ _=>rfl)
  aC:=λ i o ho=>by
   rw[a8Z] at ho;obtain⟨o',cF,rfl⟩:=ho;exact ((h1.aC i o' cF).kill id).mono rfl (λ _ _=>rfl) (λ j _=>⟨Fy id _,rfl⟩) (λ _ h=>h) (λ _ _=>rfl)
  place:=λ i o b ho hb=>by
   rw[a8Z] at ho;obtain⟨o',cF,rfl⟩:=ho;exact h1.place i o' b cF hb
  apart:=λ i j o o' b ho cF hb cq=>by
   rw[a8Z] at ho cF;obtain⟨p,hp,rfl⟩:=ho;obtain⟨q,hq,rfl⟩:=cF;exact h1.apart i j p q b hp hq hb cq
  aM:=h1.aM.sub (λ i τ xs k=>gT k) (λ i o k=>by
   rw[a8Z] at k;obtain⟨p,hp,_⟩:=k;exact⟨p,hp⟩)
  root:=λ i v hr ht=>h1.root i v hr (by
   match hl:lk i,ht with
   | some (.aA ..),_=>rfl
   | some (.box _),ht=>simp[hl,au.kill,cS] at ht
   | some (.row ..),ht=>simp[hl,au.kill,cS] at ht
   | none,ht=>simp[hl,cS] at ht)
  fN:=h1.fN
  dy:=λ i v hr ht=>h1.dy i v hr (by
   match hl:lk i,ht with
   | some (.box _),_=>rfl
   | some (.aA ..),ht=>simp[hl,au.kill,gm] at ht
   | some (.row ..),ht=>simp[hl,au.kill,gm] at ht
   | none,ht=>simp[hl,gm] at ht)
  eM:=h1.eM }
theorem aV.a1s{c:Ctx}{G:Gh}{sl:Nat->AV}{n:Nat}{lk:Nat->Option au}{a:Act}{w:World}(h:aV c G sl n lk a w)(id:Nat)
  (hs:∀ i,(sl i).refs id=false) (ho:∀ i o,lk i=some o->i≠id->o.refs id=false):aV c G sl n (λ i=>if i=id then none else lk i) a w:=by
 have ff:∀ j,j≠id->dX (lk j) ((λ i=>if i=id then none else lk i) j):=λ j hj=>by simp only[a8v hj];exact dX.refl _
 exact {
  defers:=h.defers,size:=h.size,aE:=h.aE,jN:=h.jN,ew:=h.ew,sX:=h.sX,dH:=h.dH
  aw:=λ i=>(h.aw i).mono (λ j hj=>⟨ff j (λ e=>by subst e;rw[hs i] at hj;cases hj),rfl⟩) (λ _ h=>h) (λ _ _=>rfl)
  aC:=λ i o bV=>by
   by_cases hi:i=id
   .simp[hi] at bV
   .simp only[a8v hi] at bV;exact (h.aC i o bV).mono rfl (λ _ _=>rfl) (λ j hj=>⟨ff j (λ e=>by subst e;rw[ho i o bV hi] at hj;cases hj),rfl⟩) (λ _ h=>h) (λ _ _=>rfl)
  place:=λ i o b bV hb=>by
   by_cases hi:i=id
   .simp[hi] at bV
   .simp only[a8v hi] at bV;exact h.place i o b bV hb
  apart:=λ i j o o' b bV Fb hb cq=>by
   by_cases hi:i=id
   .simp[hi] at bV
   .by_cases hj:j=id
    .simp[hj] at Fb
    .simp only[a8v hi] at bV;simp only[a8v hj] at Fb;exact h.apart i j o o' b bV Fb hb cq
  aM:=h.aM.sub (λ i τ xs k=>by
   by_cases hi:i=id
   .simp[hi] at k
   .simpa only[if_neg hi] using k) (λ i o k=>by
   by_cases hi:i=id
   .simp[hi] at k
   .exact⟨o,by simpa only[if_neg hi] using k⟩)
  root:=λ i v hr ht=>h.root i v hr (by
   by_cases hi:i=id
   .simp[hi,cS] at ht
   .simpa only[if_neg hi] using ht)
  fN:=h.fN
  dy:=λ i v hr ht=>h.dy i v hr (by
   by_cases hi:i=id
   .simp[hi,gm] at ht
   .simpa only[if_neg hi] using ht)
  eM:=h.eM }
theorem aV.newObj{c:Ctx}{G:Gh}{sl:Nat->AV}{n:Nat}{lk:Nat->Option au}{a:Act}{w:World}(h:aV c G sl n lk a w)(id:Nat)(o:au)(x:Value)
  (aL:lk id=none) (hs:∀ i,(sl i).refs id=false) (ho:∀ i o,lk i=some o->o.refs id=false) (hor:o.refs id=false)
  (nV:OR c ⟨G.S,λ i=>if i=id then x else G.η i,G.φ⟩ (λ i=>if i=id then some o else lk i) w id o)
  (KQ:cS (some o)=false) (bm:gm (some o)=false\/id<400000) (hblk:∀ b,dt x=some b->(c.w0.heap.size<=b\/c.X b)/\¬ G.S b/\b<w.heap.size/\(∀ i o',lk i=some o'->dt (G.η i)≠some b)/\∀ j τ xs,lk j=some (.aA τ xs)->b∉G.φ j) :
  aV c ⟨G.S,λ i=>if i=id then x else G.η i,G.φ⟩ sl n (λ i=>if i=id then some o else lk i) a w:=by
 have ff:∀ j,j≠id->dX (lk j) ((λ i=>if i=id then some o else lk i) j)/\(if j=id then x else G.η j)=G.η j:=λ j hj=>by simp only[a8v hj];exact⟨dX.refl _,ae⟩
 exact {
  defers:=h.defers,size:=h.size,aE:=h.aE,jN:=h.jN,ew:=h.ew,sX:=h.sX,dH:=h.dH
  aw:=λ i=>(h.aw i).mono (λ j hj=>ff j (λ e=>by subst e;rw[hs i] at hj;cases hj)) (λ _ h=>h) (λ _ _=>rfl)
  aC:=λ i o' bV=>by
   by_cases hi:i=id
   .subst hi;simp only[b0k,a8r] at bV;subst bV;exact nV
   .simp only[a8v hi] at bV;exact (h.aC i o' bV).mono (by simp only[a8v hi]) (λ _ _=>rfl) (λ j hj=>ff j (λ e=>by subst e;rw[ho i o' bV] at hj;cases hj)) (λ _ h=>h) (λ _ _=>rfl)
  place:=λ i o' b bV hb=>by
   by_cases hi:i=id
   .simp only[a8A hi] at hb;obtain⟨h1,h2,h3,_⟩:=hblk b hb;exact⟨h1,h2,h3⟩
   .simp only[a8v hi] at bV hb;exact h.place i o' b bV hb
  apart:=λ i j o1 o2 b bV Fb hb cq=>by
   by_cases hi:i=id
   .by_cases hj:j=id
    .rw[hi,hj]
    .simp only[a8v hj] at Fb cq;simp only[a8A hi] at hb;exact absurd cq ((hblk b hb).2.2.2.1 j o2 Fb)
   .by_cases hj:j=id
    .simp only[a8v hi] at bV hb;simp only[a8A hj] at cq;exact absurd hb ((hblk b cq).2.2.2.1 i o1 bV)
    .simp only[a8v hi] at bV hb;simp only[a8v hj] at Fb cq;exact h.apart i j o1 o2 b bV Fb hb cq
  aM:=by
   have hold:∀ j τ xs,(if j=id then some o else lk j)=some (.aA τ xs)->j≠id/\lk j=some (.aA τ xs):=λ j τ xs k=>by
    by_cases hj:j=id
    .rw[a8A hj] at k;cases k;cases KQ
    .rw[a8v hj] at k;exact⟨hj,k⟩
   exact {
    tr:=λ j τ xs k=>by
     obtain⟨h1,h2⟩:=hold j τ xs k;simp only[a8v h1];exact h.aM.tr j τ xs h2
    nd:=λ j τ xs k=>h.aM.nd j τ xs (hold j τ xs k).2
    pl:=λ j τ xs b k hb=>by
     obtain⟨h1,h2,h3,h4⟩:=h.aM.pl j τ xs b (hold j τ xs k).2 hb;refine⟨h1,h2,h3,λ i p rQ=>?_⟩;by_cases hi:i=id
     .simp only[a8A hi];exact λ e=>(hblk b e).2.2.2.2 j τ xs (hold j τ xs k).2 hb
     .simp only[a8v hi] at rQ ⊢;exact h4 i p rQ
    ap:=λ j j' τ aO xs cI b k k'=>h.aM.ap j j' τ aO xs cI b (hold j τ xs k).2 (hold j' aO cI k').2 }
  root:=λ i v hr ht=>by
   by_cases hi:i=id
   .simp only[a8A hi] at ht;rw[KQ] at ht;cases ht
   .simp only[a8v hi] at ht ⊢;exact h.root i v hr ht
  fN:=h.fN
  dy:=λ i v hr ht=>by
   by_cases hi:i=id
   .subst hi;rcases bm with bm|bm
    .simp only[b0k] at ht;rw[bm] at ht;cases ht
    .have:=h.eM i v hr;omega
   .simp only[a8v hi] at ht ⊢;exact h.dy i v hr ht
  eM:=h.eM }
theorem aV.Re{c:Ctx}{G:Gh}{sl:Nat->AV}{n:Nat}{lk:Nat->Option au}{a:Act}{w w':World}(h:aV c G sl n lk a w)(id:Nat)(o o':au)(b:Nat)(aL:lk id=some o)(hb:dt (G.η id)=some b)
  (ff:dX (some o) (some o')) (KQ:cS (some o')=false) (hw:∀ k,k≠b->w'.heap[k]?=w.heap[k]?) (hos:w'.os=w.os) (UZ:w'.tape=w.tape) (PO:w'.output=w.output) (wJ:w'.heap.size=w.heap.size)
  (nV:OR c G (λ i=>if i=id then some o' else lk i) w' id o'):aV c G sl n (λ i=>if i=id then some o' else lk i) a w':=by
 obtain⟨SH,hp2,hp3⟩:=h.place id o b aL hb;have bQ:∀ k,St c G.S k->w'.heap[k]?=w.heap[k]?:=λ k hk=>hw k λ e=>by
  subst e;rcases hk with hk|hk
  .exact hp2 hk
  .exact SH.elim (λ q=>by omega) hk.2.1
 have hs:∀ j,dX (lk j) ((λ i=>if i=id then some o' else lk i) j):=λ j=>by
  by_cases hj:j=id
  .subst hj;simp only[b0k];rw[aL];exact ff
  .simp only[a8v hj];exact dX.refl _
 exact {
  defers:=h.defers,size:=h.size
  aE:=h.aE.trans (Y:=λ k=>c.w0.heap.size<=k\/c.X k) ⟨hos,UZ,PO,Nat.le_of_eq wJ.symm,λ k _ hx=>hw k λ e=>by subst e;exact hx SH⟩ λ i hi hy=>hy.elim (λ h=>by omega) (λ h=>h)
  jN:=h.jN,ew:=h.ew,sX:=h.sX
  dH:=λ k hk=>by rw[wJ];exact h.dH k hk
  aw:=λ i=>(h.aw i).mono (λ j _=>⟨hs j,rfl⟩) (λ _ h=>h) bQ
  aC:=λ i p hp=>by
   by_cases hi:i=id
   .subst hi;simp only[b0k,a8r] at hp;subst hp;exact nV
   .simp only[a8v hi] at hp;exact (h.aC i p hp).mono rfl (λ k hk=>hw k λ e=>by subst e;exact hi (h.apart i id p o _ hp aL hk hb)) (λ j _=>⟨hs j,rfl⟩) (λ _ h=>h) bQ
  place:=λ i p k hp hk=>by
   rw[wJ];by_cases hi:i=id
   .subst hi;exact h.place i o k aL hk
   .simp only[a8v hi] at hp;exact h.place i p k hp hk
  apart:=λ i j p q k hp hq hk fe=>by
   by_cases hi:i=id
   .by_cases hj:j=id
    .rw[hi,hj]
    .simp only[a8v hj] at hq;rw[hi] at hk ⊢;exact h.apart id j o q k aL hq hk fe
   .simp only[a8v hi] at hp;by_cases hj:j=id
    .rw[hj] at fe ⊢;exact h.apart i id p o k hp aL hk fe
    .simp only[a8v hj] at hq;exact h.apart i j p q k hp hq hk fe
  aM:=by
   have hold:∀ j τ xs,(if j=id then some o' else lk j)=some (.aA τ xs)->lk j=some (.aA τ xs):=λ j τ xs k=>by
    by_cases hj:j=id
    .rw[a8A hj] at k;cases k;cases KQ
    .rwa [a8v hj] at k
   exact {
    tr:=λ j τ xs k=>(h.aM.tr j τ xs (hold j τ xs k)).aE λ k' fe=>hw k' λ e=>by
     subst e;exact (h.aM.pl j τ xs _ (hold j τ xs k) fe).2.2.2 id o aL hb
    nd:=λ j τ xs k=>h.aM.nd j τ xs (hold j τ xs k)
    pl:=λ j τ xs b' k cq=>by
     obtain⟨h1,h2,h3,h4⟩:=h.aM.pl j τ xs b' (hold j τ xs k) cq;refine⟨h1,h2,by rw[wJ];exact h3,λ i p rQ=>?_⟩;by_cases hi:i=id
     .rw[hi];exact h4 id o aL
     .rw[a8v hi] at rQ;exact h4 i p rQ
    ap:=λ j j' τ aO xs cI b' k k'=>h.aM.ap j j' τ aO xs cI b' (hold j τ xs k) (hold j' aO cI k') }
  root:=λ i v hr ht=>by
   by_cases hi:i=id
   .simp only[a8A hi] at ht;rw[KQ] at ht;cases ht
   .simp only[a8v hi] at ht;exact h.root i v hr ht
  fN:=h.fN
  dy:=λ i v hr ht=>by
   by_cases hi:i=id
   .subst hi;simp only[b0k] at ht;refine h.dy i v hr ?_;rw[aL];cases o with
    | box cs=>rfl
    | row e τ xs=>obtain⟨e',cI,q,_⟩:=ff.2.1 e τ xs rfl;rw[q] at ht;cases ht
    | aA τ xs=>have h3:cS (some o')=true:=ff.2.2.1 rfl;rw[KQ] at h3;cases h3
    | map m =>
     obtain⟨b1,_,_,k1,_⟩:=h.aC i _ aL;match o',ht with
     | .box cs,_ =>
      obtain⟨b2,_,_,k2,_⟩:=nV;rw[k1] at k2;cases k2
   .simp only[a8v hi] at ht;exact h.dy i v hr ht
  eM:=h.eM }
def uo:Ty->Value->Bool
 | .int k, .int k' n=>decide (k=k')&&decide (n=0)
 | .bool, .bool b => !b
 | .str, .string s=>s.data.toList.isEmpty
 | .slice _, .slice none 0 0=>true
 | .ptr, .pointer none=>true
 | _,_=>false
def Ic:List Ty->List Value->Bool
 | [],[]=>true
 | t::ts,v::vs=>uo t v&&Ic ts vs
 | _,_=>false
def wm(τ:Ty)(v:Value):Bool :=
 match τ,v with
 | .st s, .agg cs=>Ic s.pG cs.toList
 | .st _,_=>false
 | τ,v=>uo τ v
def LI(P:Program)(T:TypeId)(τ:Ty):Bool :=
 match P.info? T with
 | some i=>Nat.beq i.size τ.size&&(match i.zero with
  | some z=>wm τ z
  | none=>false)
 | none=>false
def Cs(E:Env)(s:aJ):Nat->List Field->List Ty->Bool
 | _,[],[]=>true
 | i,f::fs,t::ts=>(match af E.ty f.type with
   | some (τ,_)=>decide (τ=t)
   | none=>false)&&Nat.beq f.offset (s.eu i)&&Cs E s (i+1) fs ts
 | _,_,_=>false
def py(P:Program)(E:Env)(T:TypeId)(τ:Ty)(b e:Nat):Bool :=
 LI P T τ&&match τ with
  | .int k=>match P.underlying T with
   | some (.int k')=>decide (k=k')
   | _=>false
  | .bool=>match P.underlying T with
   | some .bool=>true
   | _=>false
  | .str=>match P.underlying T with
   | some .string=>true
   | _=>false
  | .slice t=>match P.underlying T with
   | some (.slice e')=>Nat.beq e e'&&(match af E.ty e with
     | some (aO,_)=>decide (aO=t)
     | none=>false)&&(match P.info? e with
     | some i=>Nat.beq i.bytes b
     | none=>false)&&LI P e t
   | _=>false
  | .st s=>match P.underlying T with
   | some (.struct fs)=>Cs E s 0 fs.toList s.fI
   | _=>false
  | .mv _=>false
  | .ptr=>match P.underlying T with
   | some (.pointer _)=>true
   | _=>false
def NA(P:Program)(E:Env)(T:TypeId)(κ ε:Ty):Bool:=match P.underlying T with
 | some (.map k e)=>match af E.ty k,af E.ty e with
  | some (κ',_),some (ε',_)=>decide (κ'=κ)&&(decide (ε'=ε)&&(κ.key&&ε.key))
  | _,_=>false
 | _=>false
structure Info(P:Program)(T:TypeId)(τ:Ty):Prop where
 ex:∃ i z,P.info? T=some i/\i.size=τ.size/\i.zero=some z/\wm τ z=true
theorem SP{P:Program}{T:TypeId}{τ:Ty}(h:LI P T τ=true):Info P T τ:=by
 unfold LI at h;split at h
 .rename_i i hi;simp only[a8I] at h;obtain⟨h1,h2⟩:=h;split at h2
  .rename_i z hz;exact⟨i,z,hi,a8s h1,hz,h2⟩
  .cases h2
 .cases h
def uD(P:Program)(w:World)(S:Nat->Prop):Arg->Value->Prop
 | .cM v,x=>∃ f eb l,x = .func (.func f) #[] l.toArray/\ye P f eb v.ps v.r v.F []/\aI (Ee w S) eb l
 | a,x=>Ee w S a x
theorem uD.of0{P:Program}{w:World}{S:Nat->Prop}{a:Arg}{x:Value}(h:Ee w S a x):uD P w S a x:=by
 cases a with
 | cM v=>exact h.elim
 | own v=>exact h.elim
 | box k=>exact h.elim
 | _=>exact h
def fF(P:Program)(f:FuncId)(args:List Arg)(post:List TV->Prop):Prop :=
 ∀ (w:World) (S:Nat->Prop) (cC:List Value),iX w S->aI (uD P w S) args cC ->
  Calls P f cC.toArray w λ e w'=>∃ x S' res,e = .returned x/\post res/\bH (λ _=>False) w w'/\(∀ b,b<w.heap.size->(S' b↔S b))/\(∀ b,S' b->b<w'.heap.size)/\DB w' S' res x
def Ah(w:World)(v:TV)(x:Value)(fp:List Nat):Prop :=
 match v with
 | ⟨.st s,y⟩=>∃ cs,x = .agg cs.toArray/\Ow w (s.aD y) cs fp
 | v=>Ow w v.aD [x] fp
def FP(w:World):List TV->List Value->List Nat->Prop
 | [],[],fp=>fp=[]
 | v::vs,x::xs,fp=>∃ f1 f2,fp=f1++f2/\Ah w v x f1/\FP w vs xs f2
 | _,_,_=>False
def AF(w:World):List TV->Value->List Nat->Prop
 | [v],x,fp=>Ah w v x fp
 | vs,x,fp=>∃ l,x = .tuple l.toArray/\FP w vs l fp
def pT(P:Program)(w:World)(S:Nat->Prop):List Arg->List Value->List Nat->Prop
 | [],[],fp=>fp=[]
 | a::Z9,x::xs,fp=>∃ f1 f2,fp=f1++f2/\(match a with
  | .own v=>Ah w v x f1
  | a=>f1=[]/\uD P w S a x)/\pT P w S Z9 xs f2
 | _,_,_=>False
def sC(P:Program)(f:FuncId)(args:List Arg)(res:List TV):Prop :=
 ∀ (w:World) (S:Nat->Prop) (cC:List Value) (fa:List Nat),iX w S->pT P w S args cC fa->(fa=[]\/∀ a∈args,a.FC=true)->fa.Nodup->(∀ b∈fa,b<w.heap.size/\¬ S b) ->
  Calls P f cC.toArray w λ e w'=>∃ x fp,e = .returned x/\bH (λ b=>b∈fa) w w'/\AF w' res x fp/\fp.Nodup/\∀ b∈fp,b∈fa\/(w.heap.size<=b/\b<w'.heap.size)
theorem pT.NR{P:Program}{w:World}{S:Nat->Prop}:∀ {Z9:List Arg} {xs:List Value},aI (uD P w S) Z9 xs->pT P w S Z9 xs []
 | [],[],_=>rfl
 | a::Z9,x::xs,h=>by
  refine⟨[],[],rfl,?_,pT.NR h.2⟩;cases a with
  | own v=>exact h.1.elim
  | box k=>exact h.1.elim
  | _=>exact⟨rfl,h.1⟩
 | [],_::_,h=>h.elim
 | _::_,[],h=>h.elim
def Qa(P:Program)(f:FuncId)(m:RS):Prop :=
 ∀ (x:m.τ.den) (k:Int) (w:World) (v:Value) (fp:List Nat),(m.g x k).1.ok->ai k->XU w (λ b=>b<w.heap.size/\b∉fp)->Ah w ⟨m.τ,x⟩ v fp->fp.Nodup->(∀ b∈fp,b<w.heap.size) ->
  Calls P f #[v, .int .i64 k] w λ e w'=>e = .returned (.int .i64 (m.g x k).2.2)/\ai (m.g x k).2.2/\bH (λ b=>b∈fp) w w'/\∃ Us,Ah w' ⟨m.τ,(m.g x k).2.1⟩ v Us/\Us.Nodup/\∀ b∈Us,b∈fp\/(w.heap.size<=b/\b<w'.heap.size)
def jd(w:World)(S:Nat->Prop)(B:Nat->Nat):List CK->List TV->List Value->List Nat->Prop
 | [],[],[],fp=>fp=[]
 | .d τ::ks,v::ds,x::xs,fp=>(v.τ=τ/\τ.agg=false/\Rd w S v.aD [x])/\jd w S B ks ds xs fp
 | .o τ::ks,v::ds,x::xs,fp=>∃ f1 f2,fp=f1++f2/\(v.τ=τ/\τ.agg=false/\Ow w v.aD [x] f1)/\jd w S B ks ds xs f2
 | .p j::ks,ds,x::xs,fp=>x = .pointer (some ⟨B j,0,none⟩)/\jd w S B ks ds xs fp
 | _,_,_,_=>False
def fQ(w:World)(S:Nat->Prop)(B:Nat->Nat):Nat->List (List CK)->List (List TV)->List Nat->Prop
 | _,[],[],fp=>fp=[]
 | k,ks::sh,ds::cw,fp=>∃ l t f1 f2,fp=f1++f2/\w.heap[B k]?=some (.cells l.toArray t (0,0))/\jd w S B ks ds l f1/\fQ w S B (k+1) sh cw f2
 | _,_,_,_=>False
def a2d(w:World)(S X:Nat->Prop):Arg->Value->Prop
 | .val v,x=>dv w S v x
 | .ref v,x=>∃ b o cs,x = .pointer (some ⟨b,o,none⟩)/\b<w.heap.size/\¬ X b/\bh w b o cs/\Rd w S v.aD cs
 | .fn f,x=>x = .func (.func f) #[] #[]
 | _,_=>False
def VF(P:Program)(w:World)(S X:Nat->Prop)(B:Nat->Nat):Arg->Value->Prop
 | .box k,x=>x = .pointer (some ⟨B k,0,none⟩)
 | .val v,x=>dv w S v x
 | .ref v,x=>∃ b o cs,x = .pointer (some ⟨b,o,none⟩)/\b<w.heap.size/\¬ X b/\bh w b o cs/\Rd w S v.aD cs
 | .fn f,x=>x = .func (.func f) #[] #[]
 | .cM v,x=>∃ f eb l,x = .func (.func f) #[] l.toArray/\ye P f eb v.ps v.r v.F []/\aI (a2d w S X) eb l
 | .own _,_=>False
def BX(n:Nat)(B:Nat->Nat)(fa:List Nat)(b:Nat):Prop:=b∈fa\/∃ k,k<n/\b=B k
def Qb(P:Program)(f:FuncId)(sh:List (List CK))(res:List TV)(ej:List (List TV))(w:World)(S:Nat->Prop)(B:Nat->Nat)(cC:List Value)(fa:List Nat):Prop :=
 Calls P f cC.toArray w λ e w'=>∃ x S' fp QB,e = .returned x/\bH (BX sh.length B fa) w w'/\(∀ b,S b->S' b)/\(∀ b,S' b->b<w'.heap.size)/\(∀ b,b<w.heap.size->¬ BX sh.length B fa b->(S' b↔S b)) /\
  AF w' res x fp/\fQ w' S' B 0 sh ej QB/\(fp++QB).Nodup/\(∀ b∈fp++QB,(b∈fa\/(w.heap.size<=b/\b<w'.heap.size))/\¬ S' b/\∀ k,k<sh.length->B k≠b)/\∀ k,k<sh.length->¬ S' (B k)
def Pb(P:Program)(f:FuncId)(sh:List (List CK))(args:List Arg)(cw:List (List TV))(res:List TV)(ej:List (List TV)):Prop :=
 ∀ (w:World) (S:Nat->Prop) (B:Nat->Nat) (cC:List Value) (fa:List Nat),iX w S->fQ w S B 0 sh cw fa->fa.Nodup->(∀ b∈fa,b<w.heap.size/\¬ S b/\∀ k,k<sh.length->B k≠b) ->
  (∀ k,k<sh.length->B k<w.heap.size/\¬ S (B k))->(∀ j k,j<sh.length->k<sh.length->B j=B k->j=k)->aI (VF P w S (BX sh.length B fa) B) args cC->Qb P f sh res ej w S B cC fa
theorem fF.ok0{P:Program}{f:FuncId}{args:List Arg}{post:List TV->Prop}(h:fF P f args post):FO P f args post :=
 λ w S cC hS ha=>h w S cC hS (ha.imp λ _ _ _ hx => .of0 hx)
def X2(w:World)(S T:Nat->Prop)(x:Value):VG->Prop
 | .box cells=>∃ b l t,x = .pointer (some ⟨b,0,none⟩)/\w.heap[b]?=some (.cells l.toArray t (0,0))/\aI (λ v x=>v.τ.agg=false/\Rd w S v.aD [x]) cells l
 | .row e τ xs=>∃ l,w.ownsRow 0 e τ.size x xs.length l/\cP w S (xs.map τ.aD) l/\xs.length<=140737488355328
 | .res l=>∃ ys,x = .tuple ys.toArray/\aI (λ r x=>match r with
  | (true,v)=>∃ b o cs,x = .pointer (some ⟨b,o,none⟩)/\(S b\/T b)/\bh w b o cs/\Rd w S v.aD cs
  | (false,v)=>dv w S v x) l ys
def X3(P:Program)(f:FuncId)(args:List Arg)(o:VG):Prop :=
 ∀ (w:World) (S T:Nat->Prop) (cC:List Value),iX w S->(∀ x∈cC,∀ a:Addr,x = .pointer (some a)->T a.block)->aI (uD P w S) args cC ->
  Calls P f cC.toArray w λ e w'=>∃ x S',e = .returned x/\bH (λ _=>False) w w'/\(∀ k,k<w.heap.size->(S' k↔S k))/\(∀ k,S' k->k<w'.heap.size) /\
   (∀ b,dt x=some b->w.heap.size<=b/\b<w'.heap.size/\¬ S' b)/\X2 w' S' T x o
structure bu(P:Program)(E:Env):Prop where
 ty:∀ T τ b e,af E.ty T=some (τ,b,e)->py P E T τ b e=true
 Jg:∀ T κ ε,af E.Jg T=some (κ,ε)->NA P E T κ ε=true
 Rm:∀ T τ,af E.Rm T=some τ->True
 Iw:∀ f args pre res,E.Iw f args=some (pre,res)->pre.ok->kI P f/\fF P f args (·=res)
 HD:∀ f args pre res,E.HD f args=some (pre,res)->pre.ok->kI P f/\sC P f args res
 mark:∀ f m,E.mark f=some m->kI P f/\Qa P f m
 NI:∀ f args pre o,E.NI f args=some (pre,o)->pre.ok->kI P f/\X3 P f args o
 PZ:∀ f sk args cw pre res ej,E.sk f=some sk->E.PZ f args cw=some (pre,res,ej)->pre.ok->kI P f/\Pb P f sk.sh args cw res ej
section
variable {P:Program} {E:Env} {T:TypeId} {τ:Ty} {b e:Nat}
theorem bu.info(hE:bu P E)(h:af E.ty T=some (τ,b,e)):Info P T τ:=by
 have:=hE.ty _ _ _ _ h;unfold py at this;simp only[Bool.and_eq_true] at this;exact SP this.1
theorem bu.int(hE:bu P E){k:IntKind}(h:af E.ty T=some (.int k,b,e)):P.underlying T=some (.int k):=by
 have:=hE.ty _ _ _ _ h;unfold py at this;simp only[Bool.and_eq_true] at this;have h2:=this.2;split at h2
 .rename_i k' hk;rw[hk,a8U h2]
 .cases h2
theorem bu.bool(hE:bu P E)(h:af E.ty T=some (.bool,b,e)):P.underlying T=some .bool:=by
 have:=hE.ty _ _ _ _ h;unfold py at this;simp only[Bool.and_eq_true] at this;have h2:=this.2;split at h2
 .assumption
 .cases h2
theorem bu.str(hE:bu P E)(h:af E.ty T=some (.str,b,e)):P.underlying T=some .string:=by
 have:=hE.ty _ _ _ _ h;unfold py at this;simp only[Bool.and_eq_true] at this;have h2:=this.2;split at h2
 .assumption
 .cases h2
theorem bu.slice(hE:bu P E){t:Ty}(h:af E.ty T=some (.slice t,b,e)) :
  P.underlying T=some (.slice e)/\(∃ b' e',af E.ty e=some (t,b',e'))/\(∃ i z,P.info? e=some i/\i.size=t.size/\i.bytes=b/\i.zero=some z/\wm t z=true):=by
 have:=hE.ty _ _ _ _ h;unfold py at this;simp only[Bool.and_eq_true] at this;have h2:=this.2;split at h2
 .rename_i e' xy;simp only[a8I] at h2;obtain⟨⟨⟨h3,h4⟩,h5⟩,h6⟩:=h2;have h3:=a8s h3;subst h3;split at h4
  .rename_i aO r hl;have h4:=a8U h4;subst h4;obtain⟨i,z,hi,hs,hz,hzo⟩:=(SP h6).ex;rw[hi] at h5;exact⟨xy,⟨_,_,hl⟩,i,z,hi,hs,a8s h5,hz,hzo⟩
  .cases h4
 .cases h2
theorem GC{s:aJ}:∀ (n:Nat) (fs:List Field) (ts:List Ty),Cs E s n fs ts=true->fs.length=ts.length /\
  ∀ i f,fs[i]?=some f->∃ t b e,ts[i]?=some t/\af E.ty f.type=some (t,b,e)/\f.offset=s.eu (n+i)
 | _,[],[],_=>⟨rfl,by simp⟩
 | n,f::fs,t::ts,h=>by
  simp only[Cs,a8I] at h;obtain⟨⟨h1,h2⟩,h3⟩:=h;obtain⟨h4,h5⟩:=GC (n+1) fs ts h3;refine⟨by simp[h4],λ i g hi=>?_⟩;cases i with
  | zero =>
   simp at hi;subst hi;split at h1
   .rename_i τ r hl;have h1:=a8U h1;subst h1;exact⟨_,_,_,rfl,hl,a8s h2⟩
   .cases h1
  | succ i =>
   obtain⟨t',b',e',k1,k2,k3⟩:=h5 i g (by simpa using hi);exact⟨t',b',e',by simpa using k1,k2,by rw[k3];congr 1;omega⟩
 | _,[],_::_,h=>by cases h
 | _,_::_,[],h=>by cases h
theorem bu.st(hE:bu P E){s:aJ}(h:af E.ty T=some (.st s,b,e)) :
  ∃ fs,P.underlying T=some (.struct fs)/\fs.size=s.fI.length/\∀ i f,fs[i]?=some f->∃ t b e,s.fI[i]?=some t/\af E.ty f.type=some (t,b,e)/\f.offset=s.eu i:=by
 have:=hE.ty _ _ _ _ h;unfold py at this;simp only[Bool.and_eq_true] at this;have h2:=this.2;split at h2
 .rename_i fs hfs;obtain⟨h3,h4⟩:=GC 0 _ _ h2;refine⟨fs,hfs,by simpa using h3,λ i f hi=>?_⟩;obtain⟨t,b',e',k1,k2,k3⟩:=h4 i f (by simpa using hi);exact⟨t,b',e',k1,k2,by simpa using k3⟩
 .cases h2
theorem bu.Z3(hE:bu P E){t:Ty}(h:af E.ty T=some (.mv t,b,e)):False:=by
 have:=hE.ty _ _ _ _ h;unfold py at this;simp at this
theorem bu.ptr(hE:bu P E)(h:af E.ty T=some (.ptr,b,e)):∃ t,P.underlying T=some (.pointer t):=by
 have:=hE.ty _ _ _ _ h;unfold py at this;simp only[Bool.and_eq_true] at this;have h2:=this.2;split at h2
 .rename_i t ht;exact⟨t,ht⟩
 .cases h2
theorem bu.isAgg(hE:bu P E)(h:af E.ty T=some (τ,b,e))(w:World):(isAgg T).run P w = .ok τ.agg w:=by
 cases τ with
 | int k=>simp[Go.isAgg,a9g (hE.int h)];rfl
 | bool=>simp[Go.isAgg,a9g (hE.bool h)];rfl
 | str=>simp[Go.isAgg,a9g (hE.str h)];rfl
 | slice t=>simp[Go.isAgg,a9g (hE.slice h).1];rfl
 | st s=>obtain⟨fs,h1,_⟩:=hE.st h;simp[Go.isAgg,a9g h1];rfl
 | mv t=>exact (hE.Z3 h).elim
 | ptr=>obtain⟨t,ht⟩:=hE.ptr h;simp[Go.isAgg,a9g ht];rfl
theorem bu.sizeOf(hE:bu P E)(h:af E.ty T=some (τ,b,e))(w:World):(sizeOf T).run P w = .ok τ.size w:=by
 obtain⟨i,z,h1,h2,_⟩:=(hE.info h).ex;simp[Go.sizeOf,typeInfo,h1,h2]
theorem Ty.ia{τ:Ty}(h:τ.agg=false):τ.size=1:=by cases τ<;>first|rfl|cases h
theorem aJ.size_pos(s:aJ):0<s.size:=by cases s<;>decide
theorem Ty.size_pos(τ:Ty):0<τ.size:=by cases τ<;>first|exact Nat.one_pos|exact aJ.size_pos _
def Dy(τ:Ty)(cs:List Value):Value :=
 match τ with
 | .st _ => .agg cs.toArray
 | _=>cs.getD 0 undef
theorem ga(hE:bu P E)(h:af E.ty T=some (τ,b,e)){w:World}{bk o:Nat}{cs:List Value}(hc:bh w bk o cs)(hl:cs.length=τ.size) :
  (Instr.loadAt T (.pointer (some ⟨bk,o,none⟩))).run P w = .ok (Dy τ cs) w:=by
 have IL:∀ j v,cs[j]?=some v->w.cell? ((⟨bk,o,none⟩:Addr).add j)=some v:=λ j v hj=>by rw[b0I];exact hc j v hj
 simp only[Instr.loadAt,Instr.sureAddr,loadVar,a8N,a8O,a8J,hE.isAgg h];cases gQ:τ.agg with
 | true =>
  simp only[b0k,a8N,hE.sizeOf h,a8J];rw[<-hl,run_loadCells_list w _ cs IL];cases τ<;>first|rfl|cases gQ
 | false =>
  have h1:cs.length=1:=hl.trans (Ty.ia gQ);match cs,h1 with
  | [v],_ =>
   have:=hc 0 v rfl;simp only[b0m] at this;simp[run_load,this];cases τ<;>first|rfl|cases gQ
end
section
variable {c:Ctx} {G:Gh} {lk:Nat->Option au} {w:World}
theorem C1.eS{v:AV}{x:Value}(h:C1 c G lk w v x):VR c G lk w v x:=by
 cases v with
 | aK v =>
  obtain⟨τ,y⟩:=v;cases τ with
  | st s=>cases h.1
  | _=>exact h.2
 | agg cs=>exact h.elim
 | fO vs=>exact h.elim
 | cM f cs=>exact h.elim
 | _=>exact h
theorem VR.P4{v:AV}{x:Value}(h:VR c G lk w v x)(hc:v.cell=true):C1 c G lk w v x:=by
 cases v with
 | aK v =>
  obtain⟨τ,y⟩:=v;cases τ with
  | st s=>cases hc
  | _=>exact⟨rfl,h⟩
 | agg cs=>cases hc
 | fO vs=>cases hc
 | cM f cs=>cases hc
 | any=>cases hc
 | _=>exact h
theorem gS{v:TV}(h:v.τ.agg=false):v.aD.leaf=true:=by
 obtain⟨τ,y⟩:=v;cases τ<;>first|rfl|exact Jh _ _ _|cases h
theorem C1.leaf{v:AV}{x:Value}(h:C1 c G lk w v x)(hc:v.cell=true):x.oneCell'=true/\x.cells = #[x]:=by
 cases v with
 | any=>cases hc
 | dG=>cases hc
 | agg cs=>cases hc
 | fO cs=>cases hc
 | cM f cs=>cases hc
 | fV v=>cases hc
 | aK v =>
  obtain⟨y,h1,h2⟩:=Rd.qQ (gS h.1) h.2;simp only[a8x,a8T] at h1;subst h1;exact⟨vR h2,Hs h2⟩
 | nil=>rw[show x=_ from h];exact⟨rfl,rfl⟩
 | cO v=>obtain⟨b,o,cs,rfl,_⟩:=h;exact⟨rfl,rfl⟩
 | ptr i o=>obtain⟨b,_,rfl,_⟩:=h;exact⟨rfl,rfl⟩
 | row i=>obtain⟨_,_,a,n,m,rfl⟩:=h;exact⟨rfl,rfl⟩
 | aA i=>obtain⟨_,_,_,a,n,m,rfl⟩:=h;exact⟨rfl,rfl⟩
 | sub i k o z=>obtain⟨_,_,_,_,_,_,_,_,a,n,m,rfl⟩:=h;exact⟨rfl,rfl⟩
 | dW i k o z=>cases hc
 | dN i k o=>obtain⟨b,n,cap,e,τ,xs,_,_,_,rfl⟩:=h;exact⟨rfl,rfl⟩
 | fn f=>rw[show x=_ from h];exact⟨rfl,rfl⟩
 | mp i=>obtain⟨_,_,b,rfl⟩:=h;exact⟨rfl,rfl⟩
theorem dv.cells{S:Nat->Prop}{v:TV}{x:Value}(h:dv w S v x):Rd w S v.aD x.cells.toList:=by
 obtain⟨τ,y⟩:=v;cases τ with
 | st s =>
  obtain⟨cs,rfl,h⟩:=h;show Rd w S (s.aD y) _;simpa [Value.cells] using h
 | _ =>
  obtain⟨z,h1,h2⟩:=Rd.qQ (gS rfl) h;simp only[a8x,a8T] at h1;subst h1;rw[Hs h2];exact h
theorem dv.mk_{S:Nat->Prop}{v:TV}{cs:List Value}(h:Rd w S v.aD cs):dv w S v (Dy v.τ cs):=by
 obtain⟨τ,y⟩:=v;cases τ with
 | st s=>exact⟨cs,rfl,h⟩
 | _ =>
  obtain⟨z,rfl,h2⟩:=Rd.qQ (gS rfl) h;exact h
def SX(G:Gh)(lk:Nat->Option au)(b:Nat):Prop:=G.S b\/(∃ id e τ xs,lk id=some (.row e τ xs)/\dt (G.η id)=some b)\/∃ id τ xs,lk id=some (.aA τ xs)/\b∈G.φ id
theorem aV.TM{c:Ctx}{G:Gh}{sl:Nat->AV}{n:Nat}{lk:Nat->Option au}{a:Act}{w:World}(h:aV c G sl n lk a w):iX w (SX G lk) :=
 ⟨λ b q=>by
  rcases q with hb|⟨id,e,τ,ys,aL,hb⟩|⟨id,τ,ys,aL,hb⟩
  .exact h.dH b hb
  .exact (h.place id _ b aL hb).2.2
  .exact (h.aM.pl id _ _ b aL hb).2.2.1,h.Xw.2.mono (λ _ q => .inl q) λ _ _=>rfl⟩
theorem SX.of{b:Nat}(h:G.S b):SX G lk b := .inl h
theorem Wi{id:Nat}{e:TypeId}{τ:Ty}{xs:List τ.den}(ho:OR c G lk w id (.row e τ xs))(aL:lk id=some (.row e τ xs)):Rd w (SX G lk) (Ty.aD (.slice τ) xs) [G.η id]:=by
 obtain⟨l,h1,h2,h3⟩:=ho;rcases h1.2 with ⟨hv,hn⟩|⟨g,cap,cur,hv,_,hh,OK,UI,iY,U0⟩
 .have hx:xs=[]:=a9s hn;subst hx;exact⟨none,0,by simp[hv],by simp,by simp[maxLen],by simp, .inl rfl⟩
 .refine⟨some ⟨g,0,none⟩,cap,by simp[hv],by simpa using OK,UI,by simpa using h3,?_⟩;refine .inr ⟨g,0,rfl, .inr (.inl ⟨id,e,τ,xs,aL,by rw[hv];rfl⟩),?_⟩;refine cP.row _ g 0 (h2.aE (λ _ h=>SX.of h) (λ _ _=>rfl)) λ j v hj=>?_;have:=h1.cells (g:=g) (by rw[hv];rfl) j v hj;rw[Addr.add_lit] at this;exact this
theorem gG.rd{S:Nat->Prop}{η:Value}{τ:Ty}{xs:List τ.den}{fp:List Nat}(h:gG w η τ xs fp){x:Value}{l:List Value}(hx:η = .tuple (x::l).toArray)(hS:∀ b∈fp,S b):Rd w S (Ty.aD (.slice τ) xs) [x]:=by
 obtain⟨v,l',a,cap,h1,h2,h3,h4,h5,h6⟩:=h;rw[hx] at h1;simp only[Value.tuple.injEq,List.toArray_inj,List.cons.injEq] at h1;obtain⟨rfl,rfl⟩:=h1;refine⟨a,cap,by simp[h2],by simpa using h3,h4,by simpa using h5,?_⟩;rcases h6 with ⟨rfl,_,_⟩|⟨b,f,t,rfl,rfl,k1,_,k2⟩
 .exact .inl rfl
 .exact .inr ⟨b,0,rfl,hS b (by simp),bG.rd _ (p:=[]) (by simpa using k1) k2 λ b hb=>hS b (by simp[hb])⟩
theorem a1f(nR:Eh c G lk w){id:Nat}{τ:Ty}{xs:List τ.den}{x:Value}(aL:lk id=some (.aA τ xs))(hx:C1 c G lk w (.aA id) x):Rd w (SX G lk) (Ty.aD (.slice τ) xs) [x]:=by
 obtain⟨_,l,h2,_⟩:=hx;exact (nR.tr id τ xs aL).rd h2 λ b hb => .inr (.inr ⟨id,τ,xs,aL,hb⟩)
theorem a3C(nR:Eh c G lk w)(jl:∀ id o,lk id=some o->OR c G lk w id o){lk':Nat->Option au}(bO:∀ id o,lk' id=some o->lk id=some o){τ:Ty}{v:AV}{x:Value}{y:τ.den}(h:ic lk' τ v=some y)
  (hv:C1 c G lk w v x):Rd w (SX G lk) (τ.aD y) [x]:=by
 cases v with
 | aK u =>
  have e:=TV.aS h;subst e;exact Rd.aE (λ _ h=>SX.of h) (λ _ _=>rfl) _ hv.2
 | nil =>
  cases τ with
  | slice t =>
   simp only[ic,a8r] at h;subst h;exact⟨none,0,by rw[show x=_ from hv];rfl,by simp,by simp[maxLen],by simp, .inl rfl⟩
  | _=>cases h
 | row id =>
  simp only[ic] at h;split at h
  .rename_i e aO xs hl;have e1:=TV.aS h;cases e1;have nm:=bO _ _ hl;rw[hv.1];exact Wi (jl _ _ nm) nm
  .cases h
 | aA id =>
  simp only[ic] at h;split at h
  .rename_i aO xs hl;have e1:=TV.aS h;cases e1;exact a1f nR (bO _ _ hl) hv
  .cases h
 | _=>cases h
theorem a1m{lk':Nat->Option au}(gP:∀ id e τ xs,lk' id≠some (.row e τ xs))(KQ:∀ id τ xs,lk' id≠some (.aA τ xs)){τ:Ty}{v:AV}{x:Value}{y:τ.den}(h:ic lk' τ v=some y)(hv:C1 c G lk w v x):Rd w G.S (τ.aD y) [x]:=by
 cases v with
 | aK u =>
  have e:=TV.aS h;subst e;exact hv.2
 | nil =>
  cases τ with
  | slice t =>
   simp only[ic,a8r] at h;subst h;exact⟨none,0,by rw[show x=_ from hv];rfl,by simp,by simp[maxLen],by simp, .inl rfl⟩
  | _=>cases h
 | row id =>
  simp only[ic] at h;split at h
  .rename_i hl;exact absurd hl (gP _ _ _ _)
  .cases h
 | aA id =>
  simp only[ic] at h;split at h
  .rename_i hl;exact absurd hl (KQ _ _ _)
  .cases h
 | _=>cases h
theorem LB{τ:Ty}{v:AV}{x:Value}{y:τ.den}(h:ic (λ _=>none) τ v=some y)(hv:C1 c G lk w v x):Rd w G.S (τ.aD y) [x]:=by
 cases v with
 | aK u =>
  have e:=TV.aS h;subst e;exact hv.2
 | nil =>
  cases τ with
  | slice t =>
   simp only[ic,a8r] at h;subst h;exact⟨none,0,by rw[show x=_ from hv];rfl,by simp,by simp[maxLen],by simp, .inl rfl⟩
  | _=>cases h
 | _=>cases h
theorem JU{lk':Nat->Option au}{R:TV->Value->Prop}{Q:AV->Value->Prop}(hR:∀ t v x y,ic lk' t v=some y->Q v x->R ⟨t,y⟩ x):∀ {cs:List AV} {ts:List Ty} {l:List TV} {vs:List Value},Ma lk' cs ts=some l->aI Q cs vs->aI R l vs
 | [],[],l,vs,h,k=>by
  simp only[Ma,a8r] at h;subst h;match vs,k with
  | [],_=>trivial
 | v::cs,t::ts,l,vs,h,k=>by
  simp only[Ma] at h;split at h
  .rename_i x hx;split at h
   .rename_i r hr;simp only[a8r] at h;subst h;match vs,k with
    | u::us,k=>exact⟨hR _ _ _ _ hx k.1,JU hR hr k.2⟩
   .cases h
  .cases h
 | [],_::_,_,_,h,_=>by cases h
 | _::_,[],_,_,h,_=>by cases h
theorem Ei{S:Nat->Prop}{lk':Nat->Option au}(h1:∀ τ v x (y:τ.den),ic lk' τ v=some y->C1 c G lk w v x->Rd w S (τ.aD y) [x])(hS:∀ b,G.S b->S b)
  {τ:Ty} {v:AV} {x:Value} {y:τ.den} (h:ur lk' τ v=some y) (hv:VR c G lk w v x):dv w S ⟨τ,y⟩ x:=by
 have k9:∀ (zx:∀ cs,v ≠ .agg cs),ic lk' τ v=some y->dv w S ⟨τ,y⟩ x:=by
  intro zx ha;cases v with
  | aK u =>
   have e:=TV.aS ha;subst e;exact dv.mono (G:=G) (G':=⟨S,G.η,G.φ⟩) hv hS (λ _ _=>rfl)
  | nil =>
   have:=h1 τ .nil x y ha hv;cases τ with
   | st s=>cases ha
   | _=>exact this
  | row i =>
   have:=h1 τ (.row i) x y ha hv;cases τ with
   | st s =>
    simp only[ic] at ha;split at ha
    .have e:=TV.aS ha;cases e
    .cases ha
   | _=>exact this
  | aA i =>
   have:=h1 τ (.aA i) x y ha hv;cases τ with
   | st s =>
    simp only[ic] at ha;split at ha
    .have e:=TV.aS ha;cases e
    .cases ha
   | _=>exact this
  | agg cs=>exact absurd rfl (zx cs)
  | _=>cases ha
 cases v with
 | agg cs =>
  cases τ with
  | st s =>
   simp only[ur] at h;split at h
   .rename_i l hl;obtain⟨vs,rfl,Br⟩:=hv;refine⟨vs,rfl,?_⟩;rw[aJ.bT,aJ.lv h];exact cR.uG.2 (JU (λ t u z k hk hz=>h1 t u z k hk hz) hl Br)
   .cases h
  | _=>cases h
 | _=>exact k9 (by intro cs;simp) h
theorem uI(nR:Eh c G lk w)(jl:∀ id o,lk id=some o->OR c G lk w id o){lk':Nat->Option au}(bO:∀ id o,lk' id=some o->lk id=some o){τ:Ty}{v:AV}{x:Value}{y:τ.den}(h:ur lk' τ v=some y)
  (hv:VR c G lk w v x):dv w (SX G lk) ⟨τ,y⟩ x :=
 Ei (λ τ v x y h hv=>a3C nR jl bO h hv) (λ _ h=>SX.of h) h hv
theorem AI{lk':Nat->Option au}(gP:∀ id e τ xs,lk' id≠some (.row e τ xs))(KQ:∀ id τ xs,lk' id≠some (.aA τ xs)){τ:Ty}{v:AV}{x:Value}{y:τ.den}(h:ur lk' τ v=some y)(hv:VR c G lk w v x):dv w G.S ⟨τ,y⟩ x :=
 Ei (λ τ v x y h hv=>a1m gP KQ h hv) (λ _ h=>h) h hv
theorem F5{τ:Ty}{v:AV}{x:Value}{y:τ.den}(h:ur (λ _=>none) τ v=some y)(hv:VR c G lk w v x):dv w G.S ⟨τ,y⟩ x :=
 Ei (λ τ v x y h hv=>LB h hv) (λ _ h=>h) h hv
theorem wv{τ:Ty}{v:AV}{x:Value}{new:List AV}(h:cellsOf τ v=some new)(hv:VR c G lk w v x) :
  aI (C1 c G lk w) new x.cells.toList/\(∀ u∈x.cells.toList,u.oneCell'=true)/\new.length=τ.size:=by
 have one:v.cell=true->new=[v]->τ.size=1->aI (C1 c G lk w) new x.cells.toList/\(∀ u∈x.cells.toList,u.oneCell'=true)/\new.length=τ.size:=by
  intro hc hn hs;subst hn;have h1:=hv.P4 hc;obtain⟨h2,h3⟩:=h1.leaf hc;rw[h3];exact⟨⟨h1,ae⟩,by simpa using h2,by simp[hs]⟩
 cases τ with
 | st s =>
  simp only[cellsOf] at h;split at h
  .rename_i u;split at h
   .rename_i y hy;simp only[a8r] at h;subst h;have e:=TV.aS hy;subst e;obtain⟨cs,rfl,hr⟩:=hv;rw[aJ.bT] at hr;have ha:=cR.uG.1 hr;refine⟨?_,?_,by simp[Ty.size,aJ.gf]⟩
    .simp only[Value.cells];refine aI.dR _ (ha.imp λ u z hu hz=>⟨?_,hz⟩);have:=aJ.mJ s y u hu;obtain⟨aO,z'⟩:=u;cases aO with
     | st s'=>simp[TV.aD,Ty.aD,aJ.bT,D.leaf] at this
     | _=>rfl
    .simp only[Value.cells];intro u hu;obtain⟨i,hi,Y8⟩:=b0L hu;have hlen:=ha.length;obtain⟨b,hb,hr'⟩:=ha.at_ i (s.cells y)[i] (a8H (by omega));have cq:b=u:=by
      have:cs[i]?=some u:=by rw[a8H hi,Y8]
      rw[this] at hb;exact (a9A hb).symm
     subst cq;obtain⟨z,h1,h2⟩:=Rd.qQ (aJ.mJ s y _ (b0o _)) hr';simp only[a8x,a8T] at h1;subst h1;exact vR h2
   .cases h
  .rename_i cs;split at h
   .rename_i hb;simp only[Option.some.injEq] at h;subst h;simp only[Bool.and_eq_true] at hb;obtain⟨l,rfl,hl⟩:=hv;refine⟨by simpa [Value.cells] using hl,?_,by simpa [Ty.size] using Nat.eq_of_beq_eq_true hb.1⟩;simp only[Value.cells];intro u hu;obtain⟨i,hi,Y8⟩:=List.getElem_of_mem hu;have hlen:=hl.length;obtain⟨b,cq,hr'⟩:=hl.at_ i cs[i] (List.getElem?_eq_getElem (by omega));have hbu:b=u:=by
     have:l[i]?=some u:=by rw[a8H hi,Y8]
     rw[this] at cq;exact (a9A cq).symm
    subst hbu;exact (hr'.leaf (a9c.1 hb.2 _ (b0o _))).1
   .cases h
  .cases h
 | int k =>
  simp only[cellsOf] at h;split at h
  .rename_i hc;simp only[a8r] at h;exact one hc h.symm rfl
  .cases h
 | bool =>
  simp only[cellsOf] at h;split at h
  .rename_i hc;simp only[a8r] at h;exact one hc h.symm rfl
  .cases h
 | str =>
  simp only[cellsOf] at h;split at h
  .rename_i hc;simp only[a8r] at h;exact one hc h.symm rfl
  .cases h
 | ptr =>
  simp only[cellsOf] at h;split at h
  .rename_i hc;simp only[a8r] at h;exact one hc h.symm rfl
  .cases h
 | mv t =>
  simp only[cellsOf] at h;split at h
  .rename_i hc;simp only[a8r] at h;exact one hc h.symm rfl
  .cases h
 | slice t =>
  simp only[cellsOf] at h;split at h
  .rename_i hc;simp only[a8r] at h;exact one hc h.symm rfl
  .cases h
theorem Bd{cs:List AV}{l:List Value}(hl:aI (C1 c G lk w) cs l){off:Nat}{τ:Ty}{u:AV}(h:Ct cs off τ=some u) :
  VR c G lk w u (Dy τ ((l.drop off).take τ.size))/\((l.drop off).take τ.size).length=τ.size/\off+τ.size<=l.length:=by
 have hlen:=hl.length;have one:τ.size=1->(∀ s,τ ≠ .st s)->cs[off]?=some u->VR c G lk w u (Dy τ ((l.drop off).take τ.size))/\((l.drop off).take τ.size).length=τ.size/\off+τ.size<=l.length:=by
  intro hs bQ hu;obtain⟨x,hx,hr⟩:=hl.at_ off u hu;have bm:off<l.length:=(a8P.1 hx).1;have he:(l.drop off).take 1=[x]:=by
   rw[b1i bm];have:=(a8P.1 hx).2;simp[this]
  rw[hs,he];refine⟨?_,rfl,by omega⟩;have:Dy τ [x]=x:=by cases τ<;>first|rfl|exact absurd rfl (bQ _)
  rw[this];exact hr.eS
 cases τ with
 | st s =>
  simp only[Ct] at h;split at h
  .rename_i hb;simp only[a8r] at h;subst h;have hle:=a9w hb;refine⟨⟨_,rfl,(hl.drop off).take s.size⟩,?_,?_⟩
   .simp only[Ty.size,a9t,a9C];omega
   .simp only[Ty.size];omega
  .cases h
 | int k=>exact one rfl (by intro s;simp) h
 | bool=>exact one rfl (by intro s;simp) h
 | str=>exact one rfl (by intro s;simp) h
 | slice t=>exact one rfl (by intro s;simp) h
 | mv t=>exact one rfl (by intro s;simp) h
 | ptr=>exact one rfl (by intro s;simp) h
theorem bh.part{bk o:Nat}{l:List Value}(h:bh w bk o l)(off n:Nat):bh w bk (o+off) ((l.drop off).take n):=λ j v hj=>by
 rw[a9L] at hj;split at hj
 .rw[b0t] at hj;have:=h (off+j) v hj;rwa [<-b0z] at this
 .cases hj
theorem bh.of_heap{bk:Nat}{l:List Value}{t:TypeId}{fr:Nat×Nat}(h:w.heap[bk]?=some (.cells l.toArray t fr)):bh w bk 0 l:=λ j v hj=>by
 simp only[World.cell?,h,Nat.zero_add,Option.isSome_none];simpa using hj
theorem Vm{S:Nat->Prop}{v u:TV}{off:Nat}{τ:Ty}(h:v.part off τ=some u){l:List Value}(hl:Rd w S v.aD l) :
  u.τ=τ/\((l.drop off).take τ.size).length=τ.size/\Rd w S u.aD ((l.drop off).take τ.size):=by
 have hlen:=Rd.length _ hl;rw[show v.aD=v.τ.aD v.x from rfl,Ty.cg] at hlen;unfold TV.part at h;split at h
 .rename_i hb;simp only[a8I] at hb;simp only[a8r] at h;subst h;have h0:=a8s hb.1;have h1:=a8U hb.2;subst h0;subst h1;rw[b1C,a9f (by omega)];exact⟨rfl,hlen,hl⟩
 .split at h
  .rename_i z hz;split at h
   .rename_i hb;simp only[a8r] at h;subst h;have h1:=a8U hb;subst h1;obtain⟨aO,y⟩:=v;have key:∀ (x:Value),l[off]?=some x->z.τ.agg=false->Rd w S z.aD [x]->z.τ=z.τ/\((l.drop off).take z.τ.size).length=z.τ.size/\Rd w S z.aD ((l.drop off).take z.τ.size):=by
     intro x hx ha hr;have bm:off<l.length:=(a8P.1 hx).1;have he:(l.drop off).take 1=[x]:=by
      rw[b1i bm];have:=(a8P.1 hx).2;simp[this]
     rw[Ty.ia ha,he];exact⟨rfl,rfl,hr⟩
    cases aO with
    | st s =>
     simp only[TV.cells] at hz;rw[show TV.aD ⟨.st s,y⟩=s.aD y from rfl,aJ.bT] at hl;obtain⟨x,hx,hr⟩:=(cR.uG.1 hl).at_ off z hz;refine key x hx ?_ hr;have:=aJ.mJ s y z (a9h hz);obtain⟨a7n,z'⟩:=z;cases a7n with
     | st s'=>simp[TV.aD,Ty.aD,aJ.bT,D.leaf] at this
     | _=>rfl
    | _ =>
     simp only[TV.cells] at hz;cases off with
     | zero =>
      simp at hz;subst hz;obtain⟨x,rfl,_⟩:=Rd.qQ (gS rfl) hl;exact key x rfl rfl hl
     | succ k=>simp at hz
   .cases h
  .cases h
theorem Xu{id:Nat}{e:TypeId}{τ:Ty}{xs:List τ.den}(ho:OR c G lk w id (.row e τ xs)){b n cap:Nat}(eP:G.η id = .slice (some ⟨b,0,none⟩) n cap){i:Nat}(hi:i<xs.length) :
  ∃ cs,cs.length=τ.size/\bh w b (i * τ.size) cs/\Rd w G.S (τ.aD (xs.getD i τ.zero)) cs:=by
 obtain⟨l,h1,h2,h3⟩:=ho;have bW:∀ d∈xs.map τ.aD,d.size=τ.size:=by
  intro d hd;obtain⟨y,_,rfl⟩:=a8w.1 hd;exact Ty.cg τ y
 have WZ:=cP.length _ h2 bW;have II:=cP.at_ _ h2 bW i (τ.aD (xs.getD i τ.zero)) (by simp[List.getD,hi]);have hlen:=Rd.length _ II;rw[Ty.cg] at hlen;refine⟨_,hlen,?_,II⟩;have hc:bh w b 0 l:=λ j v hj=>by
  have:=h1.cells (g:=b) (by rw[eP];rfl) j v hj;rwa [b0I] at this
 have:=hc.part (i * τ.size) τ.size;rwa [a9I] at this
theorem nC(jl:∀ id o,lk id=some o->OR c G lk w id o){lk':Nat->Option au}(bO:∀ id o,lk' id=some o->lk id=some o){τ:Ty}{v u:AV}{x:Value}(h:pn lk' τ v=some u)(hv:VR c G lk w v x) :
  ∃ b o cs,x = .pointer (some ⟨b,o,none⟩)/\bh w b o cs/\cs.length=τ.size/\VR c G lk w u (Dy τ cs):=by
 cases v with
 | cO z =>
  simp only[pn] at h;split at h
  .rename_i hb;simp only[a8r] at h;subst h;have e:=a8U hb;subst e;obtain⟨b,o,cs,h1,h2,h3,h4⟩:=hv;refine⟨b,o,cs,h1,h3,?_,dv.mk_ h4⟩;rw[Rd.length _ h4];exact Ty.cg _ _
  .cases h
 | ptr id off =>
  simp only[pn] at h;split at h
  .rename_i cs hl;obtain⟨b,h1,h2,h3⟩:=hv;obtain⟨b',l,t,k1,k2,k3⟩:=jl _ _ (bO _ _ hl);rw[h1] at k1;simp only[b0M,a8r,b0f,a8T] at k1;subst k1;obtain⟨m1,m2,m3⟩:=Bd k3 h;refine⟨b,off,_,h2,?_,m2,m1⟩;have:=(bh.of_heap k2).part off τ.size;rwa [a9I] at this
  .cases h
 | dN id i off =>
  simp only[pn] at h;split at h
  .rename_i e aO xs hl;split at h
   .rename_i z hz;simp only[a8r] at h;subst h;obtain⟨b,n,cap,e1,Pa,O9,h1,h2,h3,h4⟩:=hv;have nm:=bO _ _ hl;rw[nm] at h2;simp only[a8r,au.row.injEq] at h2;obtain⟨rfl,rfl,h2⟩:=h2;have h2:=b1G h2;subst h2;obtain⟨cs,m1,m2,m3⟩:=Xu (jl _ _ nm) h1 h3;obtain⟨p1,p2,p3⟩:=Vm (v:=⟨aO,xs.getD i aO.zero⟩) hz m3;subst p1;exact⟨b,_,_,h4,m2.part off _,p2,dv.mk_ p3⟩
   .cases h
  .cases h
 | _=>cases h
end
theorem dE{k:IntKind}{n:Int}(h:cH k n):k.min<=n/\n<=k.max:=by
 cases k<;>first
  | exact h
  | (simp only[cH,ai] at h;simp only[IntKind.min,IntKind.max,IntKind.signed,IntKind.bits,b0k];exact⟨by omega,by omega⟩)
theorem pS{k:IntKind}{n:Int}(h:k.min<=n/\n<=k.max):k.wrap n=n:=by
 cases k<;>simp[IntKind.min,IntKind.max,IntKind.signed,IntKind.bits] at h<;>simp[IntKind.wrap,IntKind.signed,IntKind.bits]<;>(try split)<;>omega
theorem Oz(n:Int):IntKind.u64.min<=IntKind.u64.wrap n/\IntKind.u64.wrap n<=IntKind.u64.max:=by
 simp[IntKind.min,IntKind.max,IntKind.signed,IntKind.bits,IntKind.wrap];omega
theorem Ve{k:IntKind}{a:Int}(h0:0<=a)(h:k.min<=a/\a<=k.max):a.toNat<2 ^ k.bits:=by
 cases k<;>simp[IntKind.min,IntKind.max,IntKind.signed,IntKind.bits] at h ⊢<;>omega
theorem WA{k:IntKind}{a b:Int}(ha0:0<=a)(IJ:0<=b)(ha:k.min<=a/\a<=k.max)(hb:k.min<=b/\b<=k.max) :
  k.wrap ((BitVec.ofInt k.bits a &&& BitVec.ofInt k.bits b).toNat:Int)=((a.toNat &&& b.toNat:Nat):Int)/\k.min<=((a.toNat &&& b.toNat:Nat):Int)/\((a.toNat &&& b.toNat:Nat):Int)<=k.max:=by
 have h1:∀ x:Int,0<=x->k.min<=x/\x<=k.max->(BitVec.ofInt k.bits x).toNat=x.toNat:=λ x h0 hx=>by
  obtain⟨n,rfl⟩:=Int.eq_ofNat_of_zero_le h0;have:=Ve h0 hx;simp only[a9j] at this ⊢;rw[show BitVec.ofInt k.bits (n:Int)=BitVec.ofNat k.bits n from BitVec.ofInt_natCast ..,BitVec.toNat_ofNat];exact Nat.mod_eq_of_lt this
 have hle:((a.toNat &&& b.toNat:Nat):Int)<=a:=by
  have := @Nat.and_le_left a.toNat b.toNat;omega
 have hr:k.min<=((a.toNat &&& b.toNat:Nat):Int)/\((a.toNat &&& b.toNat:Nat):Int)<=k.max:=by
  refine⟨?_,by omega⟩;have:k.min<=0:=by cases k<;>decide
  omega
 rw[BitVec.toNat_and,h1 a ha0 ha,h1 b IJ hb];exact⟨pS hr,hr⟩
theorem L9{op:BinOp}{k yk:IntKind}{a b r:Int}{p:Vc}(h:arith op k a b=some (p,r))(hp:p.ok)(hk:op = .shl\/op = .shr\/yk=k)(P:Program)(t:TypeId)(w:World) :
  (binOp op t (.int k a) (.int yk b)).run P w = .ok (.int k r) w/\k.min<=r/\r<=k.max:=by
 cases op<;>simp only[arith] at h<;>try cases h
 case add =>
  have hk:yk=k:=by simpa using hk
  subst hk;split at h<;>simp only[a8r,a8u] at h<;>obtain⟨rfl,rfl⟩:=h
  .exact⟨by simp[binOp_add,Op.intArith],Oz _⟩
  .have:=dE hp;exact⟨by simp[binOp_add,Op.intArith,pS this],this⟩
 case sub =>
  have hk:yk=k:=by simpa using hk
  subst hk;have:=dE hp;exact⟨by simp[binOp_sub,Op.intArith,pS this],this⟩
 case mul =>
  have hk:yk=k:=by simpa using hk
  subst hk;split at h<;>simp only[a8r,a8u] at h<;>obtain⟨rfl,rfl⟩:=h
  .exact⟨by simp[binOp_mul,Op.intArith],Oz _⟩
  .have:=dE hp;exact⟨by simp[binOp_mul,Op.intArith,pS this],this⟩
 case quo =>
  have hk:yk=k:=by simpa using hk
  subst hk;have:=dE hp.2;exact⟨by simp[binOp_quo,Op.intDiv,hp.1,pS this],this⟩
 case rem =>
  have hk:yk=k:=by simpa using hk
  subst hk;have:=dE hp.2;exact⟨by simp[binOp_rem,Op.intDiv,hp.1],this⟩
 case and =>
  have hk:yk=k:=by simpa using hk
  subst hk;obtain⟨h1,h2⟩:=WA hp.1 hp.2.1 (dE hp.2.2.1) (dE hp.2.2.2);exact⟨by simp only[binOp_and,Op.intBits,a8O,h1],h2⟩
 case shl =>
  have SH:b<(k.bits:Int):=hp.2.1;have:=dE hp.2.2;have hb:min b.toNat k.bits=b.toNat:=by omega
  exact⟨by simp[binOp_shl,Op.shift,Int.not_lt.2 hp.1,hb,pS this],this⟩
 case shr =>
  have SH:b<(k.bits:Int):=hp.2.1;have:=dE hp.2.2;have hb:min b.toNat k.bits=b.toNat:=by omega
  exact⟨by simp[binOp_shr,Op.shift,Int.not_lt.2 hp.1,hb],this⟩
theorem RO(k:IntKind)(n:Int):k.min<=k.wrap n/\k.wrap n<=k.max:=by
 cases k<;>simp[IntKind.min,IntKind.max,IntKind.signed,IntKind.bits,IntKind.wrap]<;>omega
theorem RZ{wr:Bool}{op:BinOp}{k yk:IntKind}{a b r:Int}{p:Vc}(h:Qf wr op k a b=some (p,r))(hp:p.ok)(hk:op = .shl\/op = .shr\/yk=k)(P:Program)(t:TypeId)(w:World) :
  (binOp op t (.int k a) (.int yk b)).run P w = .ok (.int k r) w/\k.min<=r/\r<=k.max:=by
 unfold Qf at h;split at h
 .split at h
  .have hk:yk=k:=by simpa using hk
   subst hk;simp only[a8r,a8u] at h;obtain⟨rfl,rfl⟩:=h;exact⟨by simp[binOp_add,Op.intArith],RO _ _⟩
  .have hk:yk=k:=by simpa using hk
   subst hk;simp only[a8r,a8u] at h;obtain⟨rfl,rfl⟩:=h;exact⟨by simp[binOp_sub,Op.intArith],RO _ _⟩
  .have hk:yk=k:=by simpa using hk
   subst hk;simp only[a8r,a8u] at h;obtain⟨rfl,rfl⟩:=h;exact⟨by simp[binOp_mul,Op.intArith],RO _ _⟩
  .exact L9 h hp hk P t w
 .exact L9 h hp hk P t w
theorem Yq{op:BinOp}{k:IntKind}{a b:Int}{r:Bool}(h:cmp op a b=some r)(P:Program)(t:TypeId)(w:World) :
  (binOp op t (.int k a) (.int k b)).run P w = .ok (.bool r) w:=by
 cases op<;>simp only[cmp,a8r] at h<;>try cases h
 .simp only[binOp_eql,a8O];congr 2
 .simp only[binOp_neq,a8O];congr 2
 .simp[binOp_lss]
 .simp[binOp_leq]
 .simp[binOp_gtr]
 .simp[binOp_geq]
section
variable {c:Ctx} {G:Gh} {lk:Nat->Option au} {w:World}
theorem Pn(a b:ByteArray):(a.toList == b.toList)=decide (a.data.toList=b.data.toList):=by
 rw[b2y,b2y];rw[b1u];simp
theorem Ud(hE:bu c.P c.E){op:BinOp}{T:TypeId}{u v r:AV}{x y:Value}{p:Vc}{wr:Bool}(ox oy:Operand)
  (h:Uc (match af c.E.ty T with
   | some (.bool,_)=>true
   | _=>false) wr op u v=some (p,r)) (hp:p.ok) (hu:VR c G lk w u x) (hv:VR c G lk w v y) :
  ∃ z,(do eqGuard op T ox oy x y;binOp op T x y:Sem Value).run c.P w = .ok z w/\VR c G lk w r z:=by
 unfold Uc at h;split at h
 .rename_i k a k' b;obtain⟨h1,h2⟩:=hu;obtain⟨h3,h4⟩:=hv;simp only[a8x,a8T] at h1 h3;subst h1 h3;simp only[eqGuard_at_int,a8N,a8O,a8J];split at h
  .rename_i p' r' har;have key:(op = .shl\/op = .shr\/k'=k)->p'.ok->∃ z,(binOp op T (.int k a) (.int k' b)).run c.P w = .ok z w/\VR c G lk w (.aK ⟨.int k,r'⟩) z:=λ hk US=>by
    obtain⟨h5,h6⟩:=RZ har US hk c.P T w;exact⟨_,h5,rfl,h6⟩
   split at h
   .simp only[a8r,a8u] at h;obtain⟨rfl,rfl⟩:=h;exact key (.inl rfl) hp
   .simp only[a8r,a8u] at h;obtain⟨rfl,rfl⟩:=h;exact key (.inr (.inl rfl)) hp
   .split at h
    .rename_i hk;simp only[a8r,a8u] at h;obtain⟨rfl,rfl⟩:=h;exact key (.inr (.inr (a8U hk).symm)) hp
    .cases h
  .split at h
   .rename_i hk;have hk:=a8U hk;subst hk;split at h
    .rename_i cc hc;simp only[a8r,a8u] at h;obtain⟨rfl,rfl⟩:=h;exact⟨_,Yq hc c.P T w,rfl⟩
    .cases h
   .cases h
 .rename_i a b;have hu:[x]=[.bool a]:=hu;have hv:[y]=[.bool b]:=hv;simp only[a8x,a8T] at hu hv;subst hu hv;split at h
  .rename_i hT;split at hT
   .rename_i r' hl;have hb:=hE.bool hl;split at h
    .simp only[a8r,a8u] at h;obtain⟨rfl,rfl⟩:=h;exact⟨.bool (a == b),by simp[binOp,run_equal_bool w T a b hb,eqGuard_at_bool],rfl⟩
    .simp only[a8r,a8u] at h;obtain⟨rfl,rfl⟩:=h;exact⟨.bool !(a == b),by simp[binOp,run_equal_bool w T a b hb,eqGuard_at_bool],rfl⟩
    .cases h
   .cases hT
  .cases h
 .rename_i a b;obtain⟨s,h1,h2,h3⟩:=hu;obtain⟨s',h4,h5,h6⟩:=hv;simp only[a8x,a8T] at h1 h4;subst h1 h4;subst h2 h5;split at h
  .simp only[a8r,a8u] at h;obtain⟨rfl,rfl⟩:=h;exact⟨.bool (s.toList == s'.toList),by simp[binOp,Op.stringOp,b1N],by rw[Pn];rfl⟩
  .simp only[a8r,a8u] at h;obtain⟨rfl,rfl⟩:=h;exact⟨.bool (!(s.toList == s'.toList)),by simp[binOp,Op.stringOp,b1N],by rw[Pn];rfl⟩
  .simp only[a8r,a8u] at h;obtain⟨rfl,rfl⟩:=h;have bW:s.size+s'.size<=140737488355328:=by
    have:=hp;simp only[a9k] at this;exact this
   have hs2:(s++s').size=s.size+s'.size:=ByteArray.size_append;refine⟨.string (s++s'),?_,s++s',rfl,by simp,by rw[hs2];exact bW⟩;have:¬ (((s.size+s'.size:Nat):Int)>IntKind.i64.max):=by rw[IntKind.max_i64];omega
   simp only[b1N,a8N,a8O,a8J,binOp,Op.stringOp,a8v this]
  .cases h
 .cases h
theorem iJ(hE:bu c.P c.E){T:TypeId}{n:aJ}{b e:Nat}(h:af c.E.ty T=some (.st n,b,e)){bk o:Nat}{i:Nat}(hi:i<n.fI.length)(w:World) :
  (Instr.fieldAt T (.pointer (some ⟨bk,o,none⟩)) i).run c.P w = .ok (.pointer (some ⟨bk,o+n.eu i,none⟩)) w:=by
 obtain⟨fs,h1,h2,h3⟩:=hE.st h;have hf:fs[i]?=some fs[i]:=a9n (by omega);obtain⟨t,b',e',h4,h5,h6⟩:=h3 i _ hf;have bW:=hE.sizeOf h5 w;have h0:t.size≠0:=Nat.pos_iff_ne_zero.1 t.size_pos;simp[Instr.fieldAt,a9g h1,hf,Instr.sureAddr,fieldPlace,bW,h0,b0I,h6]
theorem N5(hE:bu c.P c.E){T:TypeId}{n:aJ}{b e:Nat}(h:af c.E.ty T=some (.st n,b,e)){l:List Value}{i:Nat}{t:Ty}(hi:n.fI[i]?=some t)
  (hl:n.eu i+t.size<=l.length) (w:World) :
  (Instr.field T (.agg l.toArray) i).run c.P w = .ok (Dy t ((l.drop (n.eu i)).take t.size)) w:=by
 obtain⟨fs,h1,h2,h3⟩:=hE.st h;have bm:i<fs.size:=by have:=(a8P.1 hi).1;omega
 have hf:fs[i]?=some fs[i]:=a9n bm;obtain⟨t',b',e',h4,h5,h6⟩:=h3 i _ hf;rw[hi] at h4;simp only[a8r] at h4;subst h4;have bW:=hE.sizeOf h5 w;have hag:=hE.isAgg h5 w;simp only[Instr.field,a8N,a9g h1,a8J,hf,asAgg,part,hag,a8O];cases gQ:t.agg with
 | true =>
  simp only[b0k,a8N,bW,a8J,a8O,h6];cases t<;>first|(cases gQ;done)|skip
  simp only[Dy,Result.ok.injEq,Value.agg.injEq,a8T];apply b1P;simp[List.take_drop]
 | false =>
  have h1:=Ty.ia gQ;simp only[a9m,b1q,h6];have hx:l.toArray[n.eu i]?=some (l[n.eu i]'(by omega)):=by rw[List.getElem?_toArray];exact a8H (by omega)
  rw[hx];simp only[a8O,h1];have he:(l.drop (n.eu i)).take 1=[l[n.eu i]'(by omega)]:=by
   rw[b1i (by omega),b2z,b0F]
  rw[he];cases t<;>first|rfl|cases gQ
end
section
variable {c:Ctx} {G:Gh} {lk:Nat->Option au} {w:World}
theorem VD(k:IntKind):k.min<=0/\0<=k.max:=by cases k<;>decide
theorem Cl{τ:Ty}{v:Value}(h:uo τ v=true):C1 c G lk w (zeroCell τ) v:=by
 unfold uo at h;split at h
 .simp only[a8I] at h;have h1:=a8U h.1;have h2:=a8U h.2;subst h1 h2;exact⟨rfl,rfl,VD _⟩
 .rename_i b;cases b
  .exact⟨rfl,rfl⟩
  .cases h
 .rename_i s;exact⟨rfl,s,rfl,List.isEmpty_iff.1 h,by simp[List.isEmpty_iff] at h;simp[ByteArray.size,h]⟩
 .rfl
 .exact⟨rfl,_,rfl⟩
 .cases h
theorem iR{τ:Ty}{z:Value}(h:wm τ z=true):aI (C1 c G lk w) (zeroCells τ) z.cells.toList:=by
 have key:∀ (ts:List Ty) (vs:List Value),Ic ts vs=true->aI (C1 c G lk w) (ts.map zeroCell) vs:=by
  intro ts;induction ts with
  | nil=>intro vs h;cases vs<;>first|trivial|cases h
  | cons t ts ih =>
   intro vs h;cases vs with
   | nil=>cases h
   | cons v vs =>
    simp only[Ic,a8I] at h;exact⟨Cl h.1,ih vs h.2⟩
 have one:∀ v,uo τ v=true->v.cells = #[v]:=by
  intro v hv;unfold uo at hv;split at hv<;>first|rfl|cases hv
 unfold wm at h;split at h
 .rename_i s cs;exact key _ _ h
 .cases h
 .rename_i aO v h1 h2;rw[one _ h];have:zeroCells τ=[zeroCell τ]:=by
   cases τ<;>first|rfl|(rename_i s;cases v<;>first|exact absurd rfl (h2 s rfl)|cases h)
  rw[this];exact⟨Cl h,ae⟩
theorem Ie{S:Nat->Prop}{τ:Ty}{z:Value}(h:wm τ z=true):Rd w S (τ.aD τ.zero) z.cells.toList:=by
 have h1:=iR (c:=⟨{ funcs := #[],goVersion := "",platform := "",initOrder := "",godebug := "",types := #[],rt:=default,cutTypes := #[],globals := #[],inits := #[],main:=0 },{ ty:=[],Rm:=[],Iw:=λ _ _=>none },w,λ _=>True,S,λ _=>none,λ _=>False,λ _=>none⟩) (G:=⟨S,λ _=>undef,λ _=>[]⟩) (lk:=λ _=>none) (w:=w) h;have cell:∀ t x,C1 ⟨{ funcs := #[],goVersion := "",platform := "",initOrder := "",godebug := "",types := #[],rt:=default,cutTypes := #[],globals := #[],inits := #[],main:=0 },{ ty:=[],Rm:=[],Iw:=λ _ _=>none },w,λ _=>True,S,λ _=>none,λ _=>False,λ _=>none⟩ ⟨S,λ _=>undef,λ _=>[]⟩ (λ _=>none) w (zeroCell t) x->Rd w S (t.aD t.zero) [x]:=by
  intro t x hx;cases t with
  | slice t'=>exact LB (τ := .slice t') (v := .nil) rfl hx
  | _=>exact hx.2
 cases τ with
 | st s =>
  simp only[zeroCells] at h1;show Rd w S (s.aD s.zero) _;rw[aJ.bT];have hz:(s.cells s.zero).map TV.aD=s.pG.map λ t=>t.aD t.zero:=by cases s<;>rfl
  rw[hz];have h2:=aI.of_map _ h1;have:∀ (ts:List Ty) (vs:List Value),aI (λ t x=>Rd w S (t.aD t.zero) [x]) ts vs->cR w S (ts.map λ t=>t.aD t.zero) vs:=by
   intro ts;induction ts with
   | nil=>intro vs h;cases vs<;>first|rfl|cases h
   | cons t ts ih =>
    intro vs h;cases vs with
    | nil=>cases h
    | cons v vs=>exact⟨v,vs,rfl,h.1,ih vs h.2⟩
  exact this _ _ (h2.imp λ t x _ hx=>cell t x hx)
 | _ =>
  simp only[zeroCells] at h1;match hc:z.cells.toList,h1 with
  | [x],h1=>exact cell _ _ h1.1
theorem MI(off:Nat):∀ (xs:List Value) (k:Nat) (l:List Value),off+k+xs.length<=l.length ->
  (xs.zipIdx k).foldl (λ cs p=>cs.setIfInBounds (off+p.2) p.1) l.toArray=(l.take (off+k)++xs++l.drop (off+k+xs.length)).toArray
 | [],k,l,_=>by simp
 | x::xs,k,l,h=>by
  simp only[List.length_cons] at h;simp only[List.zipIdx_cons,List.foldl_cons];have:=MI off xs (k+1) (l.set (off+k) x) (by simp;omega);rw[List.setIfInBounds_toArray,this];congr 1;have e:=list_seg_step l (off+k) x xs (by omega);simpa [Nat.add_assoc] using e
theorem IA(place:Nat->Option (Nat×Nat))(i off size:Nat)(v:Value)(rest:List (Nat×Value))(l:List Value)(hp:place i=some (off,size))(hs:v.cells.size=size)(hl:off+size<=l.length) :
  Instr.fill place l.toArray ((i,v)::rest)=Instr.fill place (l.take off++v.cells.toList++l.drop (off+size)).toArray rest:=by
 have hn:(decide (v.cells.size≠size)||decide (off+v.cells.size>l.toArray.size))=false:=by
  simp[hs];omega
 simp only[Instr.fill,hp,hn,a9m,b1q];congr 1;rw[<-Array.foldl_toList,Array.toList_zipIdx];have:=MI off v.cells.toList 0 l (by simp[hs];omega);simp only[b0m,a9k,hs] at this;exact this
theorem D7{E:Env}{s:aJ}{place:Nat->Option (Nat×Nat)}(hp:∀ i t,s.fI[i]?=some t->place i=some (s.eu i,t.size)) :
  ∀ {ps:List (Nat×AV)} {vs:List (Nat×Value)} {cs dm:List AV} {l:List Value},partsOf E s cs ps=some dm->aI (λ p q=>p.1=q.1/\VR c G lk w p.2 q.2) ps vs->aI (C1 c G lk w) cs l ->
   ∃ l',Instr.fill place l.toArray vs=some l'.toArray/\aI (C1 c G lk w) dm l'
 | [],[],cs,dm,l,h,_,hl=>by
  simp only[partsOf,a8r] at h;subst h;exact⟨l,rfl,hl⟩
 | (i,v)::ps,(j,x)::vs,cs,dm,l,h,hv,hl=>by
  obtain⟨⟨nQ,hx⟩,M4⟩:=hv;have nQ:i=j:=nQ;subst nQ;simp only[partsOf] at h;split at h
  .rename_i τ gQ;split at h
   .rename_i new nV;split at h
    .rename_i cs1 xB;obtain⟨h1,_,h3⟩:=wv nV hx;have hlen:=h1.length;have WZ:=hl.length;unfold putCells at xB;split at xB
     .rename_i hb;have hb:=a9w hb;simp only[a8r] at xB;subst xB;have bW:x.cells.size=τ.size:=by rw[<-h3,hlen];simp
      have Bn:s.eu i+τ.size<=l.length:=by omega
      rw[IA place i _ _ x vs l (hp i τ gQ) bW Bn];refine D7 hp h M4 ?_;rw[a8Y,<-h3];exact (hl.take _).append (h1.append (hl.drop _))
     .cases xB
    .cases h
   .cases h
  .cases h
 | [],_::_,_,_,_,_,hv,_=>hv.elim
 | _::_,[],_,_,_,_,hv,_=>hv.elim
theorem DL{τ:Ty}{place:Nat->Option (Nat×Nat)}(hp:∀ i,place i=some (i * τ.size,τ.size)) :
  ∀ {ps:List (Nat×AV)} {vs:List (Nat×Value)} {n:Nat} {xs:List τ.den} {l:List Value},pH τ n ps=some xs->aI (λ p q=>p.1=q.1/\VR c G lk w p.2 q.2) ps vs ->
   (n+ps.length) * τ.size=l.length->∃ r,Instr.fill place l.toArray vs=some (l.take (n * τ.size)++r).toArray/\cP w G.S (xs.map τ.aD) r
 | [],[],n,xs,l,h,_,hl=>by
  simp only[pH,a8r] at h;subst h;refine⟨[],?_,rfl⟩;simp only[a8R,b0m] at hl;rw[hl,List.take_length,a9B];rfl
 | (i,v)::ps,(j,x)::vs,n,xs,l,h,hv,hl=>by
  obtain⟨⟨nQ,hx⟩,M4⟩:=hv;have nQ:i=j:=nQ;subst nQ;simp only[pH] at h;split at h
  .rename_i ep;have ep:=a8s ep;subst ep;split at h
   .rename_i y hy;split at h
    .rename_i ys Ds;simp only[a8r] at h;subst h;have hr:=(F5 hy hx).cells;have bW:x.cells.size=τ.size:=by
      have:=Rd.length _ hr;rw[show TV.aD ⟨τ,y⟩=τ.aD y from rfl,Ty.cg] at this;simpa using this
     simp only[a8F] at hl;have Hf:=τ.size_pos;have e1:(i+(ps.length+1)) * τ.size=i * τ.size+τ.size+ps.length * τ.size:=by
      rw[a9u,a9u];omega
     rw[IA place i _ _ x vs l (hp i) bW (by omega)];obtain⟨r,h1,h2⟩:=DL hp (l:=l.take (i * τ.size)++x.cells.toList++l.drop (i * τ.size+τ.size)) Ds M4 (by
      simp[bW];rw[show (i+1+ps.length) * τ.size=i * τ.size+τ.size+ps.length * τ.size by rw[a9u,a9u];omega];omega)
     refine⟨x.cells.toList++r,?_,_,_,rfl,hr,h2⟩;rw[h1];congr 2;rw[show (i+1) * τ.size=i * τ.size+τ.size by rw[a9u];omega];have ht:(l.take (i * τ.size)++x.cells.toList).length=i * τ.size+τ.size:=by simp[bW];omega
     rw[<-ht,b0X,a8Y]
    .cases h
   .cases h
  .cases h
 | [],_::_,_,_,_,_,hv,_=>hv.elim
 | _::_,[],_,_,_,_,hv,_=>hv.elim
theorem zu{τ:Ty}:∀ {ps:List (Nat×AV)} {n:Nat} {xs:List τ.den},pH τ n ps=some xs->xs.length=ps.length
 | [],n,xs,h=>by
  simp only[pH,a8r] at h;subst h;rfl
 | (i,v)::ps,n,xs,h=>by
  simp only[pH] at h;split at h
  .split at h
   .split at h
    .rename_i ys Ds;simp only[a8r] at h;subst h;simp[zu Ds]
    .cases h
   .cases h
  .cases h
theorem zQ(z:Array Value)(k:Nat):(madeCells z ((k+1) * z.size)).toList=(madeCells z (k * z.size)).toList++z.toList:=by
 apply b1L;intro j;have e:(k+1) * z.size=k * z.size+z.size:=by rw[a9u];omega
 by_cases h1:j<k * z.size
 .rw[a9K (by simp[madeCells];exact h1)];have h2:j<(k+1) * z.size:=by omega
  simp[madeCells,h1,h2]
 .by_cases h2:j<(k+1) * z.size
  .rw[b0h (by simp[madeCells];omega)];have h3:j - k * z.size<z.size:=by omega
   have hm:j % z.size=j - k * z.size:=by
    have h4:(j - k * z.size+z.size * k) % z.size=j - k * z.size:=by rw[Nat.add_mul_mod_self_left,Nat.mod_eq_of_lt h3]
    rwa [Nat.mul_comm z.size k,Nat.sub_add_cancel (Nat.le_of_not_lt h1)] at h4
   simp[madeCells,h2,hm,h3]
  .rw[b0h (by simp[madeCells];omega)];have h3:¬ j - k * z.size<z.size:=by omega
   simp[madeCells,h2];omega
theorem DX{S:Nat->Prop}{d:D}{z:Array Value}(h:Rd w S d z.toList):∀ k:Nat,cP w S (List.replicate k d) (madeCells z (k * z.size)).toList
 | 0=>by simp[madeCells,cP,Array.range_zero']
 | k+1=>by
  rw[zQ,b2q];exact cP.append _ _ (DX h k) ⟨z.toList,[],by simp,h,rfl⟩
theorem zR(z:Array Value)(n m:Nat)(h:n<=m):(madeCells z m).toList.take n=(madeCells z n).toList:=by
 apply b1L;intro j;rw[a9L];by_cases hj:j<n
 .have:j<m:=by omega
  simp[madeCells,hj,this]
 .simp[madeCells,hj]
end
def LV(d:Option Nat)(v:AV):au->Prop
 | .box _=>∃ i,d=some i/\v = .ptr i 0
 | .row .. => ∃ i,d=some i/\v = .row i
 | .aA .. => False
 | .map .. => ∃ i,d=some i/\v = .mp i
def VH(c:Ctx)(G:Gh)(lk:Nat->Option au)(w:World)(x:Value):au->Prop
 | .box cs=>∃ b l t,x = .pointer (some ⟨b,0,none⟩)/\w.heap[b]?=some (.cells l.toArray t (0,0))/\aI (C1 c G lk w) cs l
 | .row e τ xs=>∃ l,w.ownsRow 0 e τ.size x xs.length l/\cP w G.S (xs.map τ.aD) l/\xs.length<=140737488355328
 | .aA .. => False
 | .map m=>∃ b es clock,x = .map (some b)/\w.heap[b]?=some (.map es clock)/\uF m es
def uE(c:Ctx)(G:Gh)(sl:Nat->AV)(n:Nat)(lk:Nat->Option au)(d:Option Nat)(a:Act)(w:World)(v:AV)(ob:Option au)(a':Act)(w':World):Prop :=
 ∃ x S',a'=a.put d x/\aV c ⟨S',G.η,G.φ⟩ sl n lk a w' /\
  match ob with
  | none=>VR c ⟨S',G.η,G.φ⟩ lk w' v x
  | some o=>LV d v o/\VH c ⟨S',G.η,G.φ⟩ lk w' x o/\∀ b,dt x=some b->w.heap.size<=b/\b<w'.heap.size/\¬ S' b
section
variable {c:Ctx} {G:Gh} {sl:Nat->AV} {n:Nat} {lk:Nat->Option au} {a:Act} {w w':World}
theorem aV.grow(h:aV c G sl n lk a w)(hk:bH (λ _=>False) w w'){S':Nat->Prop}(hS:∀ b,b<w.heap.size->(S' b↔G.S b))(hLt:∀ b,S' b->b<w'.heap.size):aV c ⟨S',G.η,G.φ⟩ sl n lk a w':=by
 refine h.world ⟨hk.os,hk.tape,hk.output,hk.size,λ b hb _=>hk.block b hb (λ h=>h)⟩ (λ b hb=>(hS b (h.dH b hb)).2 hb) hS (λ b hb=>?_) hLt (λ b hb=>?_) (λ id o b ho hb=>?_) (λ id τ xs b ht hb=>hk.block b (h.aM.pl id τ xs b ht hb).2.2.1 (λ h=>h))
 .have h1:=h.sX b hb;exact (hS b (h.dH b h1)).2 h1
 .refine hk.block b ?_ (λ h=>h);rcases hb with hb|hb
  .exact h.dH b hb
  .exact a8B hb.1 h.aE.size
 .exact hk.block b (h.place id o b ho hb).2.2 (λ h=>h)
theorem fg(w:World)(o:Obj):bH (λ _=>False) w (w.alloc o):=⟨rfl,rfl,rfl,by simp,λ b hb _=>RowKit.Below.heap_alloc w o b hb⟩
theorem aV.alloc(h:aV c G sl n lk a w)(o:Obj):aV c G sl n lk a (w.alloc o) :=
 h.grow (S':=G.S) (fg w o) (λ _ _=>b0G) (λ b hb=>by have:=h.dH b hb;simp;omega)
theorem aV.RD(h:aV c G sl n lk a w)(hk:bH (λ _=>False) w w')(b:Nat)(hb:St c G.S b):w'.heap[b]?=w.heap[b]?:=by
 refine hk.block b ?_ (λ h=>h);rcases hb with hb|hb
 .exact h.dH b hb
 .exact a8B hb.1 h.aE.size
theorem aV.a3L(h:aV c G sl n lk a w)(hk:bH (λ _=>False) w w'){v:AV}{x:Value}(hv:C1 c G lk w v x):C1 c G lk w' v x :=
 hv.mono (λ _ _=>⟨dX.refl _,rfl⟩) (λ _ h=>h) (h.RD hk)
theorem bS{o:Oper}{v:AV}{x:Value}{Q:Exit->Act->World->Prop}(hI:aV c G sl n lk a w)(hr:(execOp a.eval o).run c.P w = .ok (.value x) w)(hv:VR c G lk w v x) :
  o.wp c.P a w (uE c G sl n lk o.dst a w v none) Q:=by
 unfold Oper.wp;rw[hr];exact⟨x,G.S,rfl,hI,hv⟩
theorem sd{o:Oper}{v:AV}{ob:au}{x:Value}{Q:Exit->Act->World->Prop}(YL:aV c G sl n lk a w)(hr:(execOp a.eval o).run c.P w = .ok (.value x) w')(hI:aV c G sl n lk a w')
  (hL:LV o.dst v ob) (hN:VH c G lk w' x ob) (hb:∀ b,dt x=some b->w.heap.size<=b/\b<w'.heap.size) :
  o.wp c.P a w (uE c G sl n lk o.dst a w v (some ob)) Q:=by
 unfold Oper.wp;rw[hr];exact⟨x,G.S,rfl,hI,hL,hN,λ b h=>⟨(hb b h).1,(hb b h).2,λ hs=>by have:=YL.dH b hs;have:=(hb b h).1;omega⟩⟩
theorem PU{e:TypeId}{τ:Ty}{xs:List τ.den}{x:Value}{l:List Value}{S S':Nat->Prop}(h1:w.ownsRow 0 e τ.size x xs.length l)(h2:cP w S (xs.map τ.aD) l)(h3:xs.length<=140737488355328)(hS:∀ b,S b->S' b)(hb:∀ b,dt x=some b->S' b) :
  Rd w S' (Ty.aD (.slice τ) xs) [x]:=by
 rcases h1.2 with ⟨hv,hn⟩|⟨g,cap,cur,hv,_,hh,OK,UI,iY,U0⟩
 .have hx:xs=[]:=a9s hn;subst hx;exact⟨none,0,by simp[hv],by simp,by simp[maxLen],by simp, .inl rfl⟩
 .refine⟨some ⟨g,0,none⟩,cap,by simp[hv],by simpa using OK,UI,by simpa using h3,?_⟩;refine .inr ⟨g,0,rfl,hb g (by rw[hv];rfl),?_⟩;refine cP.row _ g 0 (h2.aE hS (λ _ _=>rfl)) λ j v hj=>?_;have:=h1.cells (g:=g) (by rw[hv];rfl) j v hj;rw[Addr.add_lit] at this;exact this
theorem WG{o:Oper}{τ:Ty}{xs:List τ.den}{e:TypeId}{x:Value}{l:List Value}{Q:Exit->Act->World->Prop}(hI:aV c G sl n lk a w)(hr:(execOp a.eval o).run c.P w = .ok (.value x) w')(hk:bH (λ _=>False) w w')
  (h1:w'.ownsRow 0 e τ.size x xs.length l) (h2:cP w' G.S (xs.map τ.aD) l) (h3:xs.length<=140737488355328) (hb:∀ b,dt x=some b->w.heap.size<=b/\b<w'.heap.size) :
  o.wp c.P a w (uE c G sl n lk o.dst a w (.aK ⟨.slice τ,xs⟩) none) Q:=by
 unfold Oper.wp;rw[hr];refine⟨x,λ b=>G.S b\/dt x=some b,rfl,hI.grow hk (λ b cq=>⟨λ q=>q.elim id λ q=>absurd (hb b q).1 (by omega), .inl⟩) λ b q=>q.elim (λ q=>Nat.lt_of_lt_of_le (hI.dH b q) hk.size) λ q=>(hb b q).2,?_⟩;exact PU h1 h2 h3 (λ _ q => .inl q) (λ _ q => .inr q)
theorem Ka{v:TV}(h:v.flat=true){S S':Nat->Prop}{w w':World}{cs:List Value}(hr:Rd w S v.aD cs):Rd w' S' v.aD cs:=by
 have one:∀ u:TV,u.τ.agg=false->(match u.τ with | .slice _=>false | .mv _=>false|_=>true)=true->∀ cs,Rd w S u.aD cs->Rd w' S' u.aD cs:=by
  intro u h1 h2 cs h3;obtain⟨τ,y⟩:=u;cases τ<;>first|exact h3|(cases h1;done)|(simp at h2;done)
 obtain⟨τ,y⟩:=v;cases τ with
 | st s =>
  rw[show TV.aD ⟨.st s,y⟩=s.aD y from rfl,aJ.bT] at hr ⊢;refine cR.uG.2 ((cR.uG.1 hr).imp λ u x hu hx=>?_);refine one u ?_ (a9c.1 h u hu) _ hx;have:=aJ.mJ s y u hu;obtain⟨aO,z⟩:=u;cases aO with
  | st s'=>simp[TV.aD,Ty.aD,aJ.bT,D.leaf] at this
  | _=>rfl
 | slice t=>simp[TV.flat,TV.cells] at h
 | mv t=>simp[TV.flat,TV.cells] at h
 | ptr=>exact hr
 | int k=>exact hr
 | bool=>exact hr
 | str=>exact hr
theorem MH{v:TV}(h:v.flat=true){S S':Nat->Prop}{w w':World}{x:Value}(hr:dv w S v x):dv w' S' v x:=by
 obtain⟨τ,y⟩:=v;cases τ with
 | st s =>
  obtain⟨cs,h1,h2⟩:=hr;exact⟨cs,h1,Ka (v:=⟨.st s,y⟩) h h2⟩
 | _=>exact Ka (v:=⟨_,y⟩) (w:=w) (w':=w') (S:=S) (S':=S') h hr
theorem yT{lk':Nat->Option au}(bO:∀ id o,lk' id=some o->lk id=some o):∀ id o,pq lk' id=some o->lk id=some o:=by
 intro id o h;unfold pq at h;split at h
 .rename_i cs hc;simp only[a8r] at h;subst h;exact bO _ _ hc
 .cases h
theorem yU{lk':Nat->Option au}:∀ id e τ xs,pq lk' id≠some (.row e τ xs):=by
 intro id e τ xs h;unfold pq at h;split at h<;>simp at h
theorem vY{lk':Nat->Option au}:∀ id τ xs,pq lk' id≠some (.aA τ xs):=by
 intro id τ xs h;unfold pq at h;split at h<;>simp at h
theorem Va{τ:Ty}{cs:List Value}{x:τ.den}{S:Nat->Prop}(h:dv w S ⟨τ,x⟩ (Dy τ cs))(hl:cs.length=τ.size):Rd w S (τ.aD x) cs:=by
 cases τ with
 | st s =>
  obtain⟨dm,h1,h2⟩:=h;simp only[Dy,Value.agg.injEq] at h1;have:cs=dm:=by have:=congrArg Array.toList h1;simpa using this
  subst this;exact h2
 | _ =>
  match cs,hl with
  | [v],_=>exact h
theorem CR.eS{v:AV}{x:Value}(h:CR c G lk w v x):VR c G lk w v x:=by
 cases v with
 | aK v=>exact h
 | agg cs=>exact h
 | any=>trivial
 | dG=>exact h
 | fO _=>exact h.elim
 | cM _ _=>exact h.elim
 | nil=>exact h
 | cO v=>exact h
 | ptr i o=>exact h
 | row i=>exact h
 | dN i k o=>exact h
 | fn f=>exact h
 | aA i=>exact h
 | sub i k o z=>exact h
 | dW i k o z=>exact h
 | fV v=>exact h
 | mp i=>exact h
theorem C1.TT{v:AV}{x:Value}(h:C1 c G lk w v x):CR c G lk w v x:=by
 cases v with
 | aK v=>exact C1.eS (v := .aK v) h
 | agg cs=>exact h.elim
 | fO cs=>exact h.elim
 | cM f cs=>exact h.elim
 | _=>exact h
theorem CR.inv{v:AV}{x:Value}(h:CR c G lk w v x):(∃ u,v = .aK u/\dv w G.S u x)\/(∃ cs l,v = .agg cs/\x = .agg l.toArray/\aI (C1 c G lk w) cs l)\/C1 c G lk w v x:=by
 cases v with
 | aK v=>exact .inl ⟨v,rfl,h⟩
 | agg cs =>
  obtain⟨l,h1,h2⟩:=h;exact .inr (.inl ⟨cs,l,rfl,h1,h2⟩)
 | _=>exact .inr (.inr h)
theorem VR.TT{v:AV}{x:Value}(h:VR c G lk w v x)(hc:v.Yl=true):CR c G lk w v x:=by
 cases v with
 | fO _=>cases hc
 | cM _ _=>cases hc
 | dG=>cases hc
 | fV _=>cases hc
 | _=>exact h
theorem AW{S:Nat->Prop}{lk':Nat->Option au}(hI:aV c G sl n lk a w)(bO:∀ id o,lk' id=some o->lk id=some o)
  (eO:∀ (τ:Ty) v x (y:τ.den),ur lk' τ v=some y->VR c G lk w v x->dv w S ⟨τ,y⟩ x) {τ:Ty} {v:AV} {x:Value} {y:τ.den} (hy:deref lk' τ v=some y) (hx:VR c G lk w v x):Ee w S (.ref ⟨τ,y⟩) x:=by
 unfold deref at hy;split at hy
 .rename_i u hu;obtain⟨b,o,cs,h1,h2,h3,h4⟩:=nC hI.aC bO hu hx;have h5:=Va (eO _ _ _ _ hy h4) h3;have Hf:=τ.size_pos;have hc0:=h2 0 (cs[0]'(by omega)) (a8H (by omega));exact⟨b,o,cs,h1,World.block_lt_of_cell? w _ hc0,h2,h5⟩
 .cases hy
theorem yq{S:Nat->Prop}{lk':Nat->Option au}(hI:aV c G sl n lk a w)(bO:∀ id o,lk' id=some o->lk id=some o)
  (eO:∀ (τ:Ty) v x (y:τ.den),ur lk' τ v=some y->VR c G lk w v x->dv w S ⟨τ,y⟩ x) :
  ∀ {ks:List (Bool×Ty)} {vs:List AV} {Z9:List Arg} {xs:List Value},mX lk' ks vs=some Z9->aI (CR c G lk w) vs xs->aI (Ee w S) Z9 xs
 | [],[],Z9,xs,h,hv=>by
  simp only[mX,a8r] at h;subst h;match xs,hv with
  | [],_=>trivial
 | (true,τ)::ks,v::vs,Z9,xs,h,hv=>by
  simp only[mX] at h;split at h
  .rename_i y hy;split at h
   .rename_i r hr;simp only[a8r] at h;subst h;match xs,hv with
    | x::xs,hv=>exact⟨AW hI bO eO hy hv.1.eS,yq hI bO eO hr hv.2⟩
   .cases h
  .cases h
 | (false,τ)::ks,v::vs,Z9,xs,h,hv=>by
  simp only[mX] at h;split at h
  .rename_i y hy;split at h
   .rename_i r hr;simp only[a8r] at h;subst h;match xs,hv with
    | x::xs,hv=>exact⟨eO _ _ _ _ hy hv.1.eS,yq hI bO eO hr hv.2⟩
   .cases h
  .cases h
 | [],_::_,_,_,h,_=>by cases h
 | (true,_)::_,[],_,_,h,_=>by cases h
 | (false,_)::_,[],_,_,h,_=>by cases h
theorem sO(hE:bu c.P c.E){f:FuncId}{eb:List Arg}:∀ (ps:List Ty) (r:Ty) (acc:List Arg),ye c.P f eb ps r (Mo c.E f eb ps r acc) acc
 | [],r,acc=>by
  show (Mo c.E f eb [] r acc).1->_;intro hp;generalize hF:Mo c.E f eb [] r acc=F at hp ⊢;rw[Mo] at hF;split at hF
  .rename_i pre v hc;split at hF
   .rename_i y hy;subst hF;have:=TV.aS hy;subst this;obtain⟨h1,h2⟩:=hE.Iw f _ _ _ hc hp;exact⟨h1,h2.ok0⟩
   .subst hF;exact hp.elim
  .subst hF;exact hp.elim
 | t::ts,r,acc=>λ x=>sO hE ts r (acc++[.val ⟨t,x⟩])
theorem JS{P:Program}{f:FuncId}{eb:List Arg}:∀ {ps:List Ty} {r:Ty} {F:FN ps r} {acc Z9:List Arg} {p:Prop} {y:r.den},ye P f eb ps r F acc->pV ps r F Z9=some (p,y)->p ->
  (kI P f/\FO P f (acc++Z9++eb) (·=[⟨r,y⟩]))/\∀ z∈Z9,∃ v,z = .val v
 | [],r,F,acc,[],p,y,h,e,hp=>by
  simp only[pV,Option.some.injEq] at e;have h':F.1->kI P f/\FO P f (acc++eb) (·=[⟨r,F.2⟩]):=h;rw[e] at h';refine⟨by simpa using h' hp,by simp⟩
 | t::ts,r,F,acc, .val z::zs,p,y,h,e,hp=>by
  simp only[pV] at e;split at e
  .rename_i x hx;have h':∀ x,ye P f eb ts r (F x) (acc++[.val ⟨t,x⟩]):=h;obtain⟨h1,h2⟩:=JS (h' x) e hp;have:=TV.aS hx;subst this;refine⟨by simpa using h1,λ z hz=>?_⟩;rcases List.mem_cons.1 hz with rfl|hz
   .exact⟨_,rfl⟩
   .exact h2 z hz
  .cases e
 | [],_,_,_,_::_,_,_,_,e,_=>by simp[pV] at e
 | _::_,_,_,_,[],_,_,_,e,_=>by simp[pV] at e
 | _::_,_,_,_, .ref _::_,_,_,_,e,_=>by simp[pV] at e
 | _::_,_,_,_, .fn _::_,_,_,_,e,_=>by simp[pV] at e
 | _::_,_,_,_, .cM _::_,_,_,_,e,_=>by simp[pV] at e
theorem yw(hE:bu c.P c.E){S:Nat->Prop}{lk':Nat->Option au}(hI:aV c G sl n lk a w)(bO:∀ id o,lk' id=some o->lk id=some o)(KK:∀ b,G.S b->S b)
  (eO:∀ (τ:Ty) v x (y:τ.den),ur lk' τ v=some y->VR c G lk w v x->dv w S ⟨τ,y⟩ x) {g:AV} {x:Value} {q:FV} (h:yv c.E lk' g=some q) (hx:VR c G lk w g x):uD c.P w S (.cM q) x:=by
 unfold yv at h;split at h
 .rename_i f cs;split at h
  .rename_i k _;split at h
   .rename_i Z9 has;simp only[a8r] at h;subst h;obtain⟨l,h1,h2⟩:=hx;exact⟨f,Z9,l,h1,sO hE _ _ _,yq hI bO eO has h2⟩
   .cases h
  .cases h
 .simp only[a8r] at h;subst h;obtain⟨f,eb,l,h1,h2,h3⟩:=hx;refine⟨f,eb,l,h1,h2,h3.imp λ u y _ hy=>?_⟩;cases u with
  | val v=>exact dv.mono (G:=G) (G':=⟨S,G.η,G.φ⟩) hy KK (λ _ _=>rfl)
  | ref v =>
   obtain⟨b,o,cs,k1,k2,k3,k4⟩:=hy;refine⟨b,o,cs,k1,?_,k3,Rd.aE KK (λ _ _=>rfl) _ k4⟩;exact k2.elim (hI.dH b) λ k=>a8B k.1 hI.aE.size
  | fn f=>exact hy
  | cM v=>exact hy.elim
  | own v=>exact hy.elim
  | box k=>exact hy.elim
 .rename_i f;split at h
  .rename_i k _;split at h
   .simp only[a8r] at h;subst h;exact⟨f,[],[],hx,sO hE _ _ _,ae⟩
   .cases h
  .cases h
 .cases h
theorem fR(hE:bu c.P c.E){S:Nat->Prop}{lk':Nat->Option au}(hI:aV c G sl n lk a w)(bO:∀ id o,lk' id=some o->lk id=some o)(KK:∀ b,G.S b->S b)
  (eO:∀ (τ:Ty) v x (y:τ.den),ur lk' τ v=some y->VR c G lk w v x->dv w S ⟨τ,y⟩ x) :
  ∀ {Ts:List TypeId} {vs:List AV} {Z9:List Arg} {xs:List Value},jP c.E lk' Ts vs=some Z9->aI (VR c G lk w) vs xs->aI (uD c.P w S) Z9 xs
 | [],[],Z9,xs,h,hv=>by
  simp only[jP,a8r] at h;subst h;match xs,hv with
  | [],_=>trivial
 | T::Ts,v::vs,Z9,xs,h,hv=>by
  simp only[jP] at h;split at h
  .rename_i p hp;split at h
   .rename_i r hr;simp only[a8r] at h;subst h;match xs,hv with
    | x::xs,hv =>
     refine⟨?_,fR hE hI bO KK eO hr hv.2⟩;have hx:=hv.1;unfold L8 at hp;split at hp
     .split at hp
      .rename_i y hy;simp only[a8r] at hp;subst hp;exact eO _ _ _ _ hy hx
      .cases hp
     .split at hp
      .rename_i τ _;split at hp
       .rename_i y hy;simp only[a8r] at hp;subst hp;exact AW hI bO eO hy hx
       .cases hp
      .split at hp
       .rename_i q hq;simp only[a8r] at hp;subst hp;exact yw hE hI bO KK eO hq hx
       .split at hp
        .simp only[a8r] at hp;subst hp;exact hx
        .cases hp
   .cases h
  .cases h
 | [],_::_,_,_,h,_=>by cases h
 | _::_,[],_,_,h,_=>by cases h
theorem wa{S:Nat->Prop}{res:List TV}{x:Value}(h:DB w S res x){η:Nat->Value}{φ:Nat->List Nat}:VR c ⟨S,η,φ⟩ lk w (y7 res) x:=by
 match res,h with
 | [v],h=>exact h
 | [],h =>
  obtain⟨l,h1,h2⟩:=h;exact⟨l,h1,aI.dR _ h2⟩
 | v::u::r,h =>
  obtain⟨l,h1,h2⟩:=h;exact⟨l,h1,aI.dR _ h2⟩
theorem Py{S S':Nat->Prop}{res:List TV}{x:Value}(hf:res.all TV.flat=true)(h:DB w S res x):DB w S' res x:=by
 have jF:∀ v∈res,v.flat=true:=a9c.1 hf;match res,h,jF with
 | [v],h,jF=>exact MH (jF v (by simp)) h
 | [],h,jF =>
  obtain⟨l,h1,h2⟩:=h;exact⟨l,h1,h2.imp λ v y hv hy=>MH (jF v hv) hy⟩
 | v::u::r,h,jF =>
  obtain⟨l,h1,h2⟩:=h;exact⟨l,h1,h2.imp λ v y hv hy=>MH (jF v hv) hy⟩
theorem J4(hE:bu c.P c.E)(hI:aV c G sl n lk a w){lk':Nat->Option au}(bO:∀ id o,lk' id=some o->lk id=some o){o:Oper}{f:FuncId}{Ts:List TypeId}{vs:List AV}{xs:List Value}
  {vc:Vc} {v:AV} {ob:Option au} (hq:Cq c.E lk' f Ts vs=some (vc,v,ob)) (dO:vc.ok) (jG:aI (VR c G lk w) vs xs)
  (cz:kI c.P f->(execOp a.eval o).run c.P w = .ok (.enter f xs.toArray) w) {Q:Exit->Act->World->Prop}:o.wp c.P a w (uE c G sl n lk o.dst a w v ob) Q:=by
 have fin:∀ (S:Nat->Prop) (Z9:List Arg) (pre:Vc) (res:List TV),c.E.Iw f Z9=some (pre,res)->pre.ok->aI (uD c.P w S) Z9 xs->iX w S ->
   (∀ S' w' x,bH (λ _=>False) w w'->(∀ b,b<w.heap.size->(S' b↔S b))->(∀ b,S' b->b<w'.heap.size)->DB w' S' res x->uE c G sl n lk o.dst a w (y7 res) none (a.put o.dst x) w') ->
   o.wp c.P a w (uE c G sl n lk o.dst a w (y7 res) none) Q:=by
  intro S Z9 pre res hc M3 has bm E8;obtain⟨qB,kZ⟩:=hE.Iw f Z9 pre res hc M3;unfold Oper.wp;rw[cz qB];simp only[Oper.upon];refine (kZ w S xs bm has).mono ?_;rintro e w' ⟨x,S',a6P,rfl,rfl,h1,h2,h3,h4⟩;exact E8 S' w' x h1 h2 h3 h4
 unfold Cq at hq;split at hq
 .rename_i Z9 has;split at hq
  .rename_i pre res hc;simp only[a8r,a8u] at hq;obtain⟨rfl,rfl,rfl⟩:=hq;refine fin G.S Z9 _ _ hc dO (fR hE hI (yT bO) (λ _ h=>h) (λ τ v x y h1 h2=>AI yU vY h1 h2) has jG) hI.Xw ?_;intro S' w' x h1 h2 h3 h4;exact⟨x,S',rfl,hI.grow h1 h2 h3,wa h4⟩
  .cases hq
 .split at hq
  .rename_i Z9 has;split at hq
   .rename_i pre res hc;split at hq
    .rename_i OH;simp only[a8r,a8u] at hq;obtain⟨rfl,rfl,rfl⟩:=hq;refine fin (SX G lk) Z9 _ _ hc dO (fR hE hI bO (λ _ h => .inl h) (λ τ v x y h1 h2=>uI hI.aM hI.aC bO h1 h2) has jG) ?_ ?_
     .exact hI.TM
     .intro S' w' x h1 h2 h3 h4;exact⟨x,G.S,rfl,hI.grow (S':=G.S) h1 (λ _ _=>b0G) (λ b hb=>a8B (hI.dH b hb) h1.size),wa (Py OH h4)⟩
    .cases hq
   .cases hq
  .cases hq
theorem O3{o:Oper}{cl:Call}{fo:Operand}{f:FuncId}{l:List Value}(ho:o.op = .call cl)(hc:cl.callee = .value fo)(hf:a.eval fo = .func (.func f) #[] l.toArray)(qB:kI c.P f) :
  (execOp a.eval o).run c.P w = .ok (.enter f (cl.args.toList.map a.eval++l).toArray) w:=by
 obtain⟨fn,h1,h2,h3⟩:=qB;have YJ:(fn.name = "runtime.NumGoroutine")=False:=by simpa using h3
 have xx:fn.body≠none:=by intro e;simp[e] at h2
 simp[execOp,ho,resolve,hc,Deferred.ofValue,hf,invoke,callFunc,h1,xx,YJ]
theorem AQ(hE:bu c.P c.E)(hI:aV c G sl n lk a w){lk':Nat->Option au}(bO:∀ id o,lk' id=some o->lk id=some o){o:Oper}{cl:Call}{fo:Operand}{g:AV}{Ts:List TypeId}{vs:List AV}
  {vc:Vc} {v:AV} {ob:Option au} (hq:xj c.E lk' g Ts vs=some (vc,v,ob)) (dO:vc.ok) (jG:aI (VR c G lk w) vs (cl.args.toList.map a.eval)) (aW:o.op = .call cl) (fJ:cl.callee = .value fo) (hg:VR c G lk w g (a.eval fo))
  {Q:Exit->Act->World->Prop}:o.wp c.P a w (uE c G sl n lk o.dst a w v ob) Q:=by
 have fin:∀ (S:Nat->Prop) (Z9:List Arg) (q:FV) (pre:Prop) (y:q.r.den),pV q.ps q.r q.F Z9=some (pre,y)->pre->aI (uD c.P w S) Z9 (cl.args.toList.map a.eval)->uD c.P w S (.cM q) (a.eval fo)->iX w S ->
   (∀ S' w' x,bH (λ _=>False) w w'->(∀ b,b<w.heap.size->(S' b↔S b))->(∀ b,S' b->b<w'.heap.size)->DB w' S' [⟨q.r,y⟩] x->uE c G sl n lk o.dst a w (y7 [⟨q.r,y⟩]) none (a.put o.dst x) w') ->
   o.wp c.P a w (uE c G sl n lk o.dst a w (y7 [⟨q.r,y⟩]) none) Q:=by
  intro S Z9 q pre y QH M3 has a6o bm E8;obtain⟨f,eb,l,h1,h2,h3⟩:=a6o;obtain⟨⟨qB,kZ⟩,SM⟩:=JS h2 QH M3;unfold Oper.wp;rw[O3 aW fJ h1 qB];simp only[Oper.upon];simp only[List.nil_append] at kZ;have a6f:aI (Ee w S) Z9 (cl.args.toList.map a.eval):=has.imp λ u z hu hz=>by
   obtain⟨v,rfl⟩:=SM u hu;exact hz
  refine (kZ w S _ bm (a6f.append h3)).mono ?_;rintro e w' ⟨x,S',a6P,rfl,rfl,h1,h2,h3,h4⟩;exact E8 S' w' x h1 h2 h3 h4
 unfold xj at hq;split at hq
 .rename_i r0 SJ;split at SJ
  .rename_i Z9 has;split at SJ
   .rename_i q hqq;split at SJ
    .rename_i pre y QH;simp only[a8r] at SJ hq;subst SJ;simp only[a8u] at hq;obtain⟨rfl,rfl,rfl⟩:=hq;refine fin G.S Z9 q pre y QH dO (fR hE hI (yT bO) (λ _ h=>h) (λ τ v x y h1 h2=>AI yU vY h1 h2) has jG) (yw hE hI (yT bO) (λ _ h=>h) (λ τ v x y h1 h2=>AI yU vY h1 h2) hqq hg) hI.Xw ?_;intro S' w' x h1 h2 h3 h4;exact⟨x,S',rfl,hI.grow h1 h2 h3,wa h4⟩
    .cases SJ
   .cases SJ
  .cases SJ
 .split at hq
  .rename_i Z9 has;split at hq
   .rename_i q hqq;split at hq
    .rename_i pre y QH;split at hq
     .rename_i OH;simp only[a8r,a8u] at hq;obtain⟨rfl,rfl,rfl⟩:=hq;refine fin (SX G lk) Z9 q pre y QH dO (fR hE hI bO (λ _ h => .inl h) (λ τ v x y h1 h2=>uI hI.aM hI.aC bO h1 h2) has jG) (yw hE hI bO (λ _ h => .inl h) (λ τ v x y h1 h2=>uI hI.aM hI.aC bO h1 h2) hqq hg) ?_ ?_
      .exact hI.TM
      .intro S' w' x h1 h2 h3 h4;exact⟨x,G.S,rfl,hI.grow (S':=G.S) h1 (λ _ _=>Iff.rfl) (λ b hb=>Nat.lt_of_lt_of_le (hI.dH b hb) h1.size),wa (Py (res:=[⟨q.r,y⟩]) (by simpa using OH) h4)⟩
     .cases hq
    .cases hq
   .cases hq
  .cases hq
theorem hJ{o:Oper}{cl:Call}{fo:Operand}{f:FuncId}(ho:o.op = .call cl)(hc:cl.callee = .value fo)(hf:a.eval fo = .func (.func f) #[] #[])(qB:kI c.P f) :
  (execOp a.eval o).run c.P w = .ok (.enter f (cl.args.toList.map a.eval).toArray) w:=by
 obtain⟨fn,h1,h2,h3⟩:=qB;have YJ:(fn.name = "runtime.NumGoroutine")=False:=by simpa using h3
 have xx:fn.body≠none:=by intro e;simp[e] at h2
 simp[execOp,ho,resolve,hc,Deferred.ofValue,hf,invoke,callFunc,h1,xx,YJ];apply b1P;simp
theorem aI.jr{ev:Operand->AV}(cE:∀ x,VR c G lk w (ev x) (a.eval x)):∀ l:List Operand,aI (VR c G lk w) (l.map ev) (l.map a.eval)
 | []=>trivial
 | x::r=>⟨cE x,aI.jr cE r⟩
theorem aI.CE{ev:Operand->AV}(cE:∀ x,VR c G lk w (ev x) (a.eval x)):∀ l:List (Nat×Operand),
  aI (λ p q=>p.1=q.1/\VR c G lk w p.2 q.2) (l.map λ p=>(p.1,ev p.2)) (l.map λ p=>(p.1,a.eval p.2))
 | []=>trivial
 | x::r=>⟨⟨rfl,cE x.2⟩,aI.CE cE r⟩
theorem iq{S:Nat->Prop}{t:Ty}{xs:List t.den}{x:Value}(h:dv w S ⟨.slice t,xs⟩ x):∃ ad cap,x = .slice ad xs.length cap/\xs.length<=cap/\xs.length<=140737488355328 /\
  (xs=[]\/∃ b o,ad=some ⟨b,o,none⟩/\S b/\cv w S (xs.map t.aD) b o):=by
 obtain⟨ad,cap,h1,h2,h3,h4,h5⟩:=h;simp only[List.cons.injEq,and_true,List.length_map] at h1;exact⟨ad,cap,h1,by simpa using h2,by simpa using h4,h5.imp (λ h=>by simpa using h) id⟩
theorem a1R(lo hi m n:Int)(h1:lo<=m/\m<=hi)(h2:lo<=n/\n<=hi):lo<=max m n/\max m n<=hi:=by omega
theorem a1Q(m n:Int):(if n>m then n else m)=max m n:=by
 rw[Int.max_def];split<;>split<;>omega
theorem Tc(hE:bu c.P c.E){op:BinOp}{T:TypeId}{u v r:AV}{x y:Value}{p:Vc}(ox oy:Operand)
  (h:Rg c.E op T u v=some (p,r)) (hp:p.ok) (hu:VR c G lk w u x) (hv:VR c G lk w v y) :
  ∃ z,(do eqGuard op T ox oy x y;binOp op T x y:Sem Value).run c.P w = .ok z w/\VR c G lk w r z:=by
 unfold Rg at h;split at h
 .rename_i t r1 τ xs hl;have hy:y = .slice none 0 0:=hv;subst hy;obtain⟨r1,r2⟩:=r1;obtain⟨hT,_⟩:=hE.slice hl;obtain⟨a,cap,h1,_,h3⟩:=iq hu;subst h1;have heq:(Op.equal T (.slice a xs.length cap) (.slice none 0 0)).run c.P w = .ok a.isNone w:=by
   have h9:∀ d:Nat,(Op.equalIn (d+1) T (.slice a xs.length cap) (.slice none 0 0)).run c.P w = .ok a.isNone w:=λ d=>by
    cases a<;>simp[Op.equalIn,a9g hT]
   exact h9 9999
  have key:1<=xs.length->a.isNone=false:=λ hx=>by
   rcases h3.2 with h|⟨b,o,h,_⟩
   .subst h;simp at hx
   .subst h;rfl
  split at h
  .simp only[a8r,a8u] at h;obtain⟨rfl,rfl⟩:=h;refine⟨.bool false,?_,rfl⟩;simp only[eqGuard_at_slice,a8N,a8O,a8J,binOp,heq,key hp]
  .simp only[a8r,a8u] at h;obtain⟨rfl,rfl⟩:=h;refine⟨.bool true,?_,rfl⟩;simp only[eqGuard_at_slice,a8N,a8O,a8J,binOp,heq,key hp];rfl
  .cases h
 .cases h
theorem XB{S:Nat->Prop}{t:Ty}{ys:List t.den}{ad:Option Addr}{m cap:Nat}(h1:ys.length=m)(h2:m<=cap)(h3:cap<=maxLen)(h4:m<=140737488355328)
  (h5:ys=[]\/∃ b o,ad=some ⟨b,o,none⟩/\S b/\cv w S (ys.map t.aD) b o):dv w S ⟨.slice t,ys⟩ (.slice ad m cap):=by
 subst h1;exact⟨ad,cap,by simp,by simpa using h2,h3,by simpa using h4,h5.imp (λ h=>by simp[h]) id⟩
theorem nI(hE:bu c.P c.E){T:TypeId}{t:Ty}{b e:Nat}(h:af c.E.ty T=some (.slice t,b,e)){bk o len cap:Nat}{k:IntKind}{i:Int}(h0:0<=i)(h1:i<len)(w:World) :
  (Instr.indexAt T (.slice (some ⟨bk,o,none⟩) len cap) (.int k i)).run c.P w = .ok (.pointer (some ⟨bk,o+i.toNat * t.size,none⟩)) w:=by
 obtain⟨h2,⟨b',e',h3⟩,_⟩:=hE.slice h;simp[Instr.indexAt,a9g h2,asIntOf,h0,h1,hE.sizeOf h3 w,b0I]
theorem DM(s:aJ)(y:s.den)(i:Nat){f:TV}(hf:(s.fields y)[i]?=some f):((s.cells y).drop (s.eu i)).take f.τ.size=f.cells/\s.eu i+f.τ.size<=s.size:=by
 have Ar:∀ v:TV,v.cells.length=v.τ.size:=by
  rintro⟨τ,x⟩;cases τ<;>first|rfl|exact aJ.gf _ _
 have key:∀ (l:List TV) (i:Nat) (f:TV),l[i]?=some f->((l.flatMap TV.cells).drop ((l.map TV.τ).take i |>.map Ty.size).sum).take f.τ.size=f.cells/\(((l.map TV.τ).take i).map Ty.size).sum+f.τ.size<=(l.flatMap TV.cells).length:=by
  intro l;induction l with
  | nil=>intro i f h;simp at h
  | cons g l ih =>
   intro i f h;cases i with
   | zero =>
    simp at h;subst h;have:=Ar g;simp only[b0F,b0s,List.sum_nil,b1C,b0a,a8E,a9I];exact⟨by rw[<-this,b0X],by omega⟩
   | succ i =>
    obtain⟨h1,h2⟩:=ih i f (by simpa using h);simp only[List.map_cons,List.take_succ_cons,List.sum_cons,List.flatMap_cons,List.length_append,<-Ar g];refine⟨?_,by omega⟩;rw[<-List.drop_drop,List.drop_left];exact h1
 have:=key _ i f hf;rw[<-aJ.DI,aJ.uU,aJ.gf] at this;exact this
theorem A6{S:Nat->Prop}{s:aJ}{y:s.den}{i:Nat}{f:TV}(hf:(s.fields y)[i]?=some f){cs:List Value}(h:Rd w S (TV.aD ⟨.st s,y⟩) cs):Rd w S f.aD ((cs.drop (s.eu i)).take f.τ.size):=by
 obtain⟨h1,_⟩:=DM s y i hf;rw[show TV.aD ⟨.st s,y⟩=s.aD y from rfl,aJ.bT] at h;have h2:=((cR.uG.1 h).drop (s.eu i)).take f.τ.size;rw[h1] at h2;obtain⟨τ,x⟩:=f;cases τ with
 | st s' =>
  show Rd w S (s'.aD x) _;rw[aJ.bT];exact cR.uG.2 h2
 | _ =>
  simp only[TV.cells] at h2;match hc:(cs.drop (s.eu i)).take (Ty.size _),h2 with
  | [v],h2=>exact h2.1
theorem Sg{S:Nat->Prop}{s:aJ}{y:s.den}{i:Nat}{f:TV}(hf:(s.fields y)[i]?=some f){cs:List Value}(h:Rd w S (s.aD y) cs):s.eu i+f.τ.size<=cs.length/\True:=by
 obtain⟨_,h1⟩:=DM s y i hf;have:=Rd.length _ h;rw[aJ.bT] at this;simp only[D.size,a8W,aJ.gf] at this;exact⟨by omega,ae⟩
theorem Ty.size_le(τ:Ty):τ.size<=100:=by
 have:∀ s:aJ,s.size<=100:=by intro s;cases s<;>decide
 cases τ<;>first|exact this _|(simp[Ty.size];done)
theorem Rd.gX{S:Nat->Prop}{τ:Ty}{x:τ.den}{cs:List Value}(h:Rd w S (τ.aD x) cs):∀ u∈cs,u.oneCell'=true:=by
 cases τ with
 | st s =>
  rw[show Ty.aD (.st s) x=s.aD x from rfl,aJ.bT] at h;have ha:=cR.uG.1 h;intro u hu;obtain⟨i,hi,Y8⟩:=b0L hu;have hlen:=ha.length;obtain⟨b,hb,hr⟩:=ha.at_ i (s.cells x)[i] (a8H (by omega));have hbu:b=u:=by
   have:cs[i]?=some u:=by rw[a8H hi,Y8]
   rw[this] at hb;exact (a9A hb).symm
  subst hbu;obtain⟨z,h1,h2⟩:=Rd.qQ (aJ.mJ s x _ (b0o _)) hr;simp only[a8x,a8T] at h1;subst h1;exact vR h2
 | _ =>
  obtain⟨z,rfl,h2⟩:=Rd.qQ (gS (v:=⟨_,x⟩) rfl) h;intro u hu;simp only[a8L] at hu;subst hu;exact vR h2
theorem cP.gX{S:Nat->Prop}{τ:Ty}:∀ {xs:List τ.den} {l:List Value},cP w S (xs.map τ.aD) l->∀ u∈l,u.oneCell'=true
 | [],l,h=>by rw[show l=[] from h];simp
 | x::xs,l,h=>by
  obtain⟨c1,r,rfl,h2,h3⟩:=h;intro u hu;rcases a8t.1 hu with hu|hu
  .exact Rd.gX h2 u hu
  .exact cP.gX h3 u hu
def Src(w:World)(S:Nat->Prop)(τ:Ty)(ys:List τ.den)(z:Value):Prop :=
 ∃ ad cap,z = .slice ad ys.length cap/\(ys=[]\/∃ b o news,ad=some ⟨b,o,none⟩/\bh w b o news/\cP w S (ys.map τ.aD) news)
theorem BU{lk lk':Nat->Option au}(bO:∀ id o,lk' id=some o->lk id=some o)(id:Nat)(o:au)(h:HC lk' id=some o):lk id=some o:=by
 unfold HC at h;split at h
 .cases h
 .exact bO id o h
theorem Td{lk:Nat->Option au}(id:Nat)(τ:Ty)(xs:List τ.den):HC lk id≠some (.aA τ xs):=by
 unfold HC;split
 .simp
 .rename_i gP;exact gP _ _
theorem VJ(jl:∀ id o,lk id=some o->OR c G lk w id o){lk':Nat->Option au}(bO:∀ id o,lk' id=some o->lk id=some o)(KQ:∀ id τ xs,lk' id≠some (.aA τ xs)){τ:Ty}{v:AV}{z:Value}{ys:List τ.den}(h:ic lk' (.slice τ) v=some ys)
  (hv:C1 c G lk w v z):Src w G.S τ ys z:=by
 cases v with
 | aK u =>
  have e:=TV.aS h;subst e;obtain⟨ad,cap,h1,h2,h3,h4⟩:=iq (show dv w G.S ⟨.slice τ,ys⟩ z from hv.2);refine⟨ad,cap,h1,h4.imp id ?_⟩;rintro⟨b,o,h5,h6,h7⟩;obtain⟨news,h8,h9⟩:=cv.cells _ b o h7;exact⟨b,o,news,h5,h9,h8⟩
 | nil =>
  simp only[ic,a8r] at h;subst h;exact⟨none,0,hv, .inl rfl⟩
 | row id =>
  simp only[ic] at h;split at h
  .rename_i e aO xs hl;have e1:=TV.aS h;cases e1;have nm:=bO _ _ hl;obtain⟨l,h1,h2,h3⟩:=jl _ _ nm;rcases h1.2 with ⟨QX,hn⟩|⟨g,cap,cur,QX,_⟩
   .exact⟨none,0,by rw[hv.1,QX,hn], .inl (a9s hn)⟩
   .refine⟨some ⟨g,0,none⟩,cap,by rw[hv.1,QX], .inr ⟨g,0,l,rfl,?_,h2⟩⟩;intro j u hj;have:=h1.cells (g:=g) (by rw[QX];rfl) j u hj;rw[b0I] at this;exact this
  .cases h
 | aA id =>
  simp only[ic] at h;split at h
  .rename_i hl;exact absurd hl (KQ _ _ _)
  .cases h
 | _=>cases h
theorem JT{S:Nat->Prop}{base:Nat}(hE:bu c.P c.E){T:TypeId}{τ:Ty}{b e n:Nat}{v z:Value}{l:List Value}{ys:List τ.den}(hT:af c.E.ty T=some (.slice τ,b,e))(dk:w.ownsRow base e τ.size v n l)
  (IK:base<=w.heap.size) (eO:Src w S τ ys z) (yM:aX (n+ys.length) b) (ty:TypeId) :
  ∃ v' w' news,(Builtin.append_ #[T,T] ty #[v,z]).run c.P w = .ok v' w'/\w'.ownsRow base e τ.size v' (n+ys.length) (l++news)/\w.grownBy w' v.ownBlock/\(v'.ownBlock=v.ownBlock\/v'.ownBlock=some w.heap.size) /\
   cP w S (ys.map τ.aD) news/\n+ys.length<=140737488355328:=by
 obtain⟨k1,⟨b',e',k2⟩,i,zv,k3,k4,k5,k6,k7⟩:=hE.slice hT;have IS:zv.cells.size=τ.size:=by
  have:=Rd.length _ (Ie (w:=w) (S:=S) k7);rwa [Ty.cg,a9k] at this
 have Hf:=τ.size_pos;have OL:(n+ys.length) * b<=140737488355328/\n+ys.length<=140737488355328:=by
  unfold aX at yM;rw[Nat.mul_add,Nat.mul_one] at yM;omega
 have He:n+ys.length<=maxLen:=by simp only[maxLen];omega
 obtain⟨ad,cap,h1,h4⟩:=eO;subst h1;by_cases hy:ys=[]
 .subst hy;simp only[a8R,b0m] at *
  cases ad with
  | none =>
   refine⟨v,w,[],?_,by simpa using dk,⟨rfl,rfl,rfl,Nat.le_refl _,λ _ _ _=>rfl⟩, .inl rfl,rfl,OL.2⟩;rcases dk.2 with ⟨rfl,rfl⟩|⟨g,Mm,cur,rfl,_,_,OK,_⟩
   .simp[Builtin.append_,a9g k1,sizeOf,typeInfo,k3,Builtin.lenOf,Builtin.firstCells]
   .simp[Builtin.append_,a9g k1,sizeOf,typeInfo,k3,Builtin.lenOf,Builtin.firstCells,OK,storeCells]
  | some ad =>
   obtain⟨v',w',m1,m2,m3,_,m5⟩:=run_append_own_at (P:=c.P) w base T ty e i zv τ.size b k1 k3 k6 k4 k5 IS Hf v n l dk ad 0 cap [] (by simp) (by simp) (by simp) He OL.1 IK;exact⟨v',w',[],m1,m2,m3,m5,rfl,OL.2⟩
 .rcases h4 with h4|⟨bk,o',news,rfl,h8,h7⟩
  .exact absurd h4 hy
  .skip;have hlen:news.length=ys.length * τ.size:=by
    have:=cP.length (n:=τ.size) _ h7 (by
     intro d hd;obtain⟨y,_,rfl⟩:=a8w.1 hd;exact Ty.cg τ y)
    simpa using this
   obtain⟨v',w',m1,m2,m3,_,m5⟩:=run_append_own_at (P:=c.P) w base T ty e i zv τ.size b k1 k3 k6 k4 k5 IS Hf v n l dk ⟨bk,o',none⟩ ys.length cap news hlen (λ j u hj=>by rw[b0I];exact h8 j u hj) (cP.gX h7) He OL.1 IK;exact⟨v',w',news,m1,m2,m3,m5,h7,OL.2⟩
theorem Mj{ev:Operand->AV}(cE:∀ x,VR c G lk w (ev x) (a.eval x)){d l:Int}{lo:Option Operand}(h:mW d (lo.map ev)=some l):(lo=none/\l=d)\/∃ k,lo.map a.eval=some (.int k l):=by
 cases lo with
 | none =>
  simp only[b1v,mW,a8r] at h;exact .inl ⟨rfl,h.symm⟩
 | some x =>
  simp only[b0N,mW] at h;split at h
  .rename_i hn;cases hn
  .rename_i k n hn;simp only[a8r] at h hn;subst h;have hx:=cE x;rw[hn] at hx;obtain⟨hx,_⟩:=hx;simp only[a8x,a8T] at hx;exact .inr ⟨k,by simp[hx]⟩
  .cases h
theorem J2{ev:Operand->AV}(cE:∀ x,VR c G lk w (ev x) (a.eval x)){l h:Int}{len cap:Nat}{lo hi:Option Operand}(sl:Bool)(hl:mW 0 (lo.map ev)=some l)(hh:mW (len:Int) (hi.map ev)=some h)
  (hc:iy l h len) (Bl:len<=cap) (P:Program) (w':World):(Instr.sliceBounds sl len cap (lo.map a.eval) (hi.map a.eval) none).run P w' = .ok (l.toNat,h.toNat,cap) w':=by
 obtain⟨h0,h1,h2⟩:=hc;have e1:(h.toNat:Int)=h:=b2A (by omega);rcases Mj cE hl with ⟨rfl,rfl⟩|⟨k,hk⟩<;>rcases Mj cE hh with ⟨rfl,rfl⟩|⟨k',fe⟩
 .simp[Instr.sliceBounds]
 .simp[Instr.sliceBounds,fe,b2j,show 0<=h from by omega,show h<=(cap:Int) from by omega]
 .simp[Instr.sliceBounds,hk,b2j,h0,h1]
 .simp[Instr.sliceBounds,hk,fe,b2j,h0,h1,show 0<=h from by omega,show h<=(cap:Int) from by omega,e1]
theorem Km{n m:Int}{b:Nat}(h:cB n m b):0<=n/\n<=m/\m<=140737488355328/\(b:Int) * m<=140737488355328:=by
 obtain⟨h1,h2,h3⟩:=h;have e:m * ((b:Int)+1)=m * b+m:=by rw[Int.mul_add,Int.mul_one]
 have p:0<=m * (b:Int):=Int.mul_nonneg (by omega) (by omega);have q:(b:Int) * m=m * b:=Int.mul_comm _ _;exact⟨h1,h2,by omega,by omega⟩
theorem Xl(hE:bu c.P c.E){T:TypeId}{τ:Ty}{b e:Nat}(hT:af c.E.ty T=some (.slice τ,b,e)){n m:Int}(h:cB n m b)(w:World)
  (bQ:∀ w',bH (λ _=>False) w w'->∀ b,G.S b->w'.heap[b]?=w.heap[b]?) :
  ∃ cap cs,(Instr.makeSlice T (.int .i64 n) (.int .i64 m)).run c.P w = .ok (.slice (some ⟨w.heap.size,0,none⟩) n.toNat cap) (w.alloc (.cells cs e)) /\
   VH c G lk (w.alloc (.cells cs e)) (.slice (some ⟨w.heap.size,0,none⟩) n.toNat cap) (.row e τ (List.replicate n.toNat τ.zero)):=by
 obtain⟨v1,v2,v3,v4⟩:=Km h;obtain⟨h1,_,i,z,h3,h4,h5,h6,h7⟩:=hE.slice hT;have Xb:=Ie (w:=w) (S:=G.S) h7;have Xa:=Rd.length _ Xb;rw[Ty.cg,a9k] at Xa;have hr:=run_make (P:=c.P) w T e i z h1 h3 h6 .i64 .i64 n m v1 v2 (by rw[h5];omega) (by omega);refine⟨m.toNat,madeCells z.cells (m.toNat * i.size),hr,(madeCells z.cells (n.toNat * z.cells.size)).toList,?_,?_,by simp;omega⟩
 .refine⟨by simp[madeCells,Xa], .inr ⟨w.heap.size,m.toNat,madeCells z.cells (m.toNat * i.size),by simp,a9l _,a9N w _,by simp;omega,by simp only[maxLen];omega,by simp[size_madeCells,h4],?_⟩⟩;rw[h4,Xa,b2k];exact zR _ _ _ (a9X _ (by omega))
 .rw[b2G];exact cP.aE (λ _ h=>h) (bQ _ (fg w _)) _ (DX Xb n.toNat)
theorem bu.map(hE:bu c.P c.E){T:TypeId}{κ ε:Ty}(h:af c.E.Jg T=some (κ,ε))(w:World) :
  ∃ kT eT,c.P.underlying T=some (.map kT eT)/\c.P.underlying kT=some (descOf κ)/\κ.key=true/\ε.key=true/\∃ z,(zeroValue eT).run c.P w = .ok z w/\nN ε ε.zero z:=by
 have:=hE.Jg T κ ε h;unfold NA at this;split at this
 .rename_i k e hu;split at this
  .rename_i κ' r ε' r' hk he;simp only[a8I,a8z] at this;obtain⟨rfl,rfl,h3,h4⟩:=this;obtain⟨i,z,k1,k2,k3,k4⟩:=(hE.info he).ex;have hz:=Ie (w:=w) (S:=λ _=>False) k4;refine⟨k,e,hu,?_,h3,h4,z,by simp[zeroValue,typeInfo,k1,k3],?_⟩
   .obtain⟨b,e'⟩:=r;cases κ' with
    | int q=>exact hE.int hk
    | bool=>exact hE.bool hk
    | str=>exact hE.str hk
    | _=>cases h3
   .have hc:z.cells.toList=[z]:=by
     cases ε'<;>cases z<;>first|rfl|(cases h4;done)|(simp[wm,uo] at k4;done)
    rw[hc] at hz;exact nN.of h4 hz
  .cases this
 .cases this
theorem Fw(hE:bu c.P c.E)(hI:aV c G sl n lk a w){lk':Nat->Option au}(bO:∀ id o,lk' id=some o->lk id=some o){ev:Operand->AV}(cE:∀ x,VR c G lk w (ev x) (a.eval x))
  {o:Oper} {vc:Vc} {v:AV} {ob:Option au} (hq:Fv c.E lk' ev o=some (vc,v,ob)) (dO:vc.ok) {Q:Exit->Act->World->Prop} :
  o.wp c.P a w (uE c G sl n lk o.dst a w v ob) Q:=by
 unfold Fv at hq;split at hq;case h_1 x aW =>
  simp only[a8r,a8u] at hq;obtain⟨rfl,rfl,rfl⟩:=hq;exact bS hI (by simp[execOp,aW]) (cE x)
 case h_2 x aW =>
  simp only[a8r,a8u] at hq;obtain⟨rfl,rfl,rfl⟩:=hq;exact bS hI (by simp[execOp,aW]) (cE x)
 case h_3 cc x y aW =>
  split at hq
  .rename_i hc;simp only[a8r,a8u] at hq;obtain⟨rfl,rfl,rfl⟩:=hq;have h1:=cE cc;rw[hc] at h1;have h1:[a.eval cc]=[.bool true]:=h1;simp only[a8x,a8T] at h1;exact bS hI (by simp[execOp,aW,h1,asBool]) (cE x)
  .rename_i hc;simp only[a8r,a8u] at hq;obtain⟨rfl,rfl,rfl⟩:=hq;have h1:=cE cc;rw[hc] at h1;have h1:[a.eval cc]=[.bool false]:=h1;simp only[a8x,a8T] at h1;exact bS hI (by simp[execOp,aW,h1,asBool]) (cE y)
  .cases hq
 case h_4 T aW =>
  split at hq
  .rename_i d τ r hd hT;simp only[a8r,a8u] at hq;obtain⟨rfl,rfl,rfl⟩:=hq;obtain⟨i,z,h1,h2,h3,h4⟩:=(hE.info hT).ex;refine sd hI (x := .pointer (some ⟨w.heap.size,0,none⟩)) (w':=w.alloc (.cells z.cells T)) ?_ (hI.alloc _) ⟨d,hd,rfl⟩ ?_ ?_
   .simp[execOp,aW,Instr.alloc,zeroValue,typeInfo,h1,h3,newVar,newRow]
   .exact⟨_,z.cells.toList,T,rfl,by simpa using heap_alloc_new w _,iR h4⟩
   .intro b hb;simp only[dt,a8r] at hb;subst hb;simp
  .cases hq
 case h_5 T x aW =>
  split at hq
  .rename_i d τ r hd hT;split at hq
   .split at hq
    .rename_i y hy;simp only[a8r,a8u] at hq;obtain⟨rfl,rfl,rfl⟩:=hq;have eO:=dv.cells (F5 (c:=c) (G:=G) (lk:=lk) hy (cE x));have hk:=fg w (.cells (a.eval x).cells T);have bW:(w.alloc (.cells (a.eval x).cells T)).heap.size=w.heap.size+1:=by simp
     have rP:=hI.grow (S':=λ b=>G.S b\/b=w.heap.size) hk (λ b hb=>⟨λ h=>h.elim id λ e=>by omega, .inl⟩) (λ b hb=>by
      rcases hb with hb|hb
      .have:=hI.dH b hb;omega
      .omega)
     have cz:(execOp a.eval o).run c.P w = .ok (.value (.pointer (some ⟨w.heap.size,0,none⟩))) (w.alloc (.cells (a.eval x).cells T)):=by
      simp[execOp,aW,Instr.box,newVar,newRow]
     unfold Oper.wp;rw[cz];refine⟨_,_,rfl,rP,?_⟩;refine⟨w.heap.size,0,(a.eval x).cells.toList,rfl, .inl (.inr rfl),?_,Rd.aE (λ _ h => .inl h) (λ b hb=>hk.block b (hI.dH b hb) λ h=>h) _ eO⟩;have:=heap_alloc_new w (.cells (a.eval x).cells T);exact AS (p:=[]) (c:=(a.eval x).cells.toList) (r:=[]) (by simpa using this)
    .cases hq
   .split at hq
    .rename_i cs iY;simp only[a8r,a8u] at hq;obtain⟨rfl,rfl,rfl⟩:=hq;obtain⟨h1,_,_⟩:=wv iY (cE x);refine sd hI (x := .pointer (some ⟨w.heap.size,0,none⟩)) (w':=w.alloc (.cells (a.eval x).cells T)) ?_ (hI.alloc _) ⟨d,hd,rfl⟩ ?_ ?_
     .simp[execOp,aW,Instr.box,newVar,newRow]
     .exact⟨_,(a.eval x).cells.toList,T,rfl,by simpa using heap_alloc_new w _,h1.imp λ u y _ hy=>hI.a3L (fg w _) hy⟩
     .intro b hb;simp only[dt,a8r] at hb;subst hb;simp
    .cases hq
  .cases hq
 case h_6 T parts aW =>
  split at hq
  .rename_i s r hT;split at hq
   .rename_i cs iY;simp only[a8r,a8u] at hq;obtain⟨rfl,rfl,rfl⟩:=hq;obtain⟨i,z,h1,h2,h3,h4⟩:=(hE.info hT).ex;obtain⟨fs,h5,h6,h7⟩:=hE.st hT;have W3:fs.toList.mapM (λ f=>(c.P.info? f.type).map λ i=>(f.offset,i.size))=some (fs.toList.map λ f=>(f.offset,c.P.cellsOf f.type)):=by
     have:∀ l:List Field,(∀ f∈l,∃ i,c.P.info? f.type=some i)->l.mapM (λ f=>(c.P.info? f.type).map λ i=>(f.offset,i.size))=some (l.map λ f=>(f.offset,c.P.cellsOf f.type)):=by
      intro l;induction l with
      | nil=>intro _;rfl
      | cons f l ih =>
       intro hl;obtain⟨i,hi⟩:=hl f (by simp);simp[b0H,hi,ih λ f hf=>hl f (by simp[hf]),Program.cellsOf]
     refine this _ λ f hf=>?_;obtain⟨j,hj,hjf⟩:=List.getElem_of_mem hf;obtain⟨t,b,e,_,k2,_⟩:=h7 j f (by rw[Array.getElem?_eq_getElem (by simpa using hj)];simpa using hjf);obtain⟨i,_,hi,_⟩:=(hE.info k2).ex;exact⟨i,hi⟩
    have a1H:∀ i t,s.fI[i]?=some t->(fs.toList.map λ f=>(f.offset,c.P.cellsOf f.type)).toArray[i]?=some (s.eu i,t.size):=by
     intro i t hi;have bm:i<fs.size:=by have:=(a8P.1 hi).1;omega
     obtain⟨t',b,e,k1,k2,k3⟩:=h7 i fs[i] (a9n bm);rw[hi] at k1;simp only[a8r] at k1;subst k1;obtain⟨i',_,mn,bW,_⟩:=(hE.info k2).ex;simp[bm,k3,Program.cellsOf,mn,bW]
    obtain⟨l',h8,h9⟩:=D7 (c:=c) (G:=G) (lk:=lk) (w:=w) a1H iY (aI.CE cE _) (iR h4);have hb:c.P.built T ((parts.map λ (i,x)=>(i,a.eval x)).toList)=some l'.toArray:=by
     unfold Program.built;rw[h1,h5];simp only[h3,W3];rw[<-h8];congr 1;simp
    refine bS hI (x := .agg l'.toArray) ?_ ⟨l',rfl,h9⟩;simp[execOp,aW,run_build w T _ _ hb]
   .cases hq
  .cases hq
 case h_7 T len parts aW =>
  split at hq
  .rename_i d τ b e hd hT;split at hq
   .rename_i hlen;split at hq
    .rename_i xs jG;simp only[a8I] at hlen;have QQ:=a8s hlen.1;have Zc:=a9w hlen.2;subst QQ;obtain⟨h1,⟨b',e',h2⟩,i,z,h3,h4,h5,h6,h7⟩:=hE.slice hT;have Hf:=τ.size_pos;have He:τ.size<=100:=Ty.size_le τ;have Sv:parts.size * τ.size<=16777216:=a9v (b2l Zc He) (by decide);obtain⟨r,h8,h9⟩:=DL (c:=c) (G:=G) (lk:=lk) (w:=w) (τ:=τ) (place:=λ i=>some (i * τ.size,τ.size)) (λ _=>rfl) (l:=((Array.range (parts.size * τ.size)).map (λ j=>((if parts.size * τ.size=0 then #[] else z.cells:Array Value)[j % (if parts.size * τ.size=0 then #[] else z.cells:Array Value).size]!))).toList) jG (aI.CE cE _) (by simp);have ns:=zu jG;simp only[a8W,a9k] at ns;have bW:∀ d∈xs.map τ.aD,d.size=τ.size:=by
      intro d hd;obtain⟨y,_,rfl⟩:=a8w.1 hd;exact Ty.cg τ y
     have Zp:=cP.length _ h9 bW;simp only[a8W,ns] at Zp;simp only[b1s,b0F,a9e,a9o] at h8;have cz:(execOp a.eval o).run c.P w = .ok (.value (.slice (some ⟨w.heap.size,0,none⟩) parts.size parts.size)) (w.alloc (.cells r.toArray e)):=by
      have e2:(parts.map λ (i,x)=>(i,a.eval x)).toList=parts.toList.map λ p=>(p.1,a.eval p.2):=by simp
      have gP:¬ (parts.size * τ.size>2 ^ 24):=by omega
      simp only[execOp,aW,Instr.buildSlice,a8N,a9g h1,a8J,hE.sizeOf h2,a8v gP,a8O];by_cases h0:parts.size * τ.size=0
      .simp only[h0,b0k,a8N,a8O,a8J,e2] at h8 ⊢;rw[h8];simp[newRow]
      .simp only[h0,b1q,a8N,zeroValue,typeInfo,run_program,a8J,h3,h6,a8O,e2] at h8 ⊢;rw[h8];simp[newRow]
     have ho:(w.alloc (.cells r.toArray e)).ownsRow 0 e τ.size (.slice (some ⟨w.heap.size,0,none⟩) parts.size parts.size) xs.length r:=by
      rw[ns];have:=World.ownsRow_lit (base:=0) (e:=e) (size:=τ.size) w r.toArray parts.size (Nat.zero_le _) (by simp only[maxLen];omega) (by simpa using Zp);simpa using this
     have eO:=cP.aE (λ _ h=>h) (λ b hb=>hI.RD (fg w (.cells r.toArray e)) b (.inl hb)) _ h9;have fW:∀ b,dt (.slice (some ⟨w.heap.size,0,none⟩) parts.size parts.size)=some b->w.heap.size<=b/\b<(w.alloc (.cells r.toArray e)).heap.size:=by
      intro b hb;simp only[dt,a8r] at hb;subst hb;simp
     split at hq
     .simp only[a8r,a8u] at hq;obtain⟨rfl,rfl,rfl⟩:=hq;exact WG hI cz (fg w _) ho eO (by omega) fW
     .simp only[a8r,a8u] at hq;obtain⟨rfl,rfl,rfl⟩:=hq;exact sd hI cz (hI.alloc _) ⟨d,hd,rfl⟩ ⟨r,ho,eO,by omega⟩ fW
    .cases hq
   .cases hq
  .cases hq
 case h_8 T ad aW =>
  split at hq
  .rename_i τ r hT;split at hq
   .rename_i u hu;simp only[a8r,a8u] at hq;obtain⟨rfl,rfl,rfl⟩:=hq;obtain⟨b,o',cs,h1,h2,h3,h4⟩:=nC hI.aC bO hu (cE ad);refine bS hI ?_ h4;simp only[execOp,aW,h1,a8N,ga hE hT h2 h3,a8J,a8O]
   .cases hq
  .cases hq
 case h_9 x aW =>
  have key:∀ u,ev x=u->(∃ b o,a.eval x = .pointer (some ⟨b,o,none⟩))->vc = .none->v=u->ob=none->o.wp c.P a w (uE c G sl n lk o.dst a w v ob) Q:=by
   rintro u hu ⟨b,o',hx⟩ _ rfl rfl;refine bS hI (x:=a.eval x) ?_ (hu ▸ cE x);simp only[execOp,aW,hx,a8O]
  have hx:=cE x;split at hq
  .rename_i u hu;simp only[a8r,a8u] at hq;rw[hu] at hx;obtain⟨b,o',cs,h1,_⟩:=hx;exact key _ hu ⟨b,o',h1⟩ hq.1.symm hq.2.1.symm hq.2.2.symm
  .rename_i id off hu;simp only[a8r,a8u] at hq;rw[hu] at hx;obtain⟨b,_,h1,_⟩:=hx;exact key _ hu ⟨b,off,h1⟩ hq.1.symm hq.2.1.symm hq.2.2.symm
  .rename_i id i off hu;simp only[a8r,a8u] at hq;rw[hu] at hx;obtain⟨b,_,_,_,_,_,_,_,_,h1⟩:=hx;exact key _ hu ⟨b,_,h1⟩ hq.1.symm hq.2.1.symm hq.2.2.symm
  .cases hq
 case h_10 T x i aW =>
  split at hq
  .rename_i s r hT;have hx:=cE x;split at hq
   .rename_i u hu;rw[hu] at hx;split at hq
    .rename_i y hy;have e:=TV.aS hy;subst e;split at hq
     .rename_i f hf;simp only[a8r,a8u] at hq;obtain⟨rfl,rfl,rfl⟩:=hq;obtain⟨b,o',cs,h1,h2,h3,h4⟩:=hx;have bm:i<s.fI.length:=by
       have:=(a8P.1 hf).1;rw[<-aJ.uU s y,a8W];exact this
      refine bS hI (x := .pointer (some ⟨b,o'+s.eu i,none⟩)) ?_ ?_
      .simp only[execOp,aW,h1,a8N,iJ hE hT bm,a8J,a8O]
      .refine⟨b,o'+s.eu i,(cs.drop (s.eu i)).take f.τ.size,rfl,h2,h3.part _ _,?_⟩;exact A6 hf h4
     .cases hq
    .cases hq
   .rename_i id off hu;rw[hu] at hx;split at hq
    .rename_i bm;simp only[Option.some.injEq,Prod.mk.injEq] at hq;obtain⟨rfl,rfl,rfl⟩:=hq;have bm:i<s.fI.length:=by simpa [Nat.blt_eq] using bm
     obtain⟨b,h1,h2,h3⟩:=hx;refine bS hI (x := .pointer (some ⟨b,off+s.eu i,none⟩)) ?_ ⟨b,h1,rfl,h3⟩;simp only[execOp,aW,h2,a8N,iJ hE hT bm,a8J,a8O]
    .cases hq
   .rename_i id k off hu;rw[hu] at hx;split at hq
    .rename_i bm;simp only[Option.some.injEq,Prod.mk.injEq] at hq;obtain⟨rfl,rfl,rfl⟩:=hq;have bm:i<s.fI.length:=by simpa [Nat.blt_eq] using bm
     obtain⟨b,m,cap,e,τ,xs,h1,h2,h3,h4⟩:=hx;refine bS hI (x := .pointer (some ⟨b,k * τ.size+(off+s.eu i),none⟩)) ?_ ⟨b,m,cap,e,τ,xs,h1,h2,h3,rfl⟩;simp only[execOp,aW,h4,a8N,iJ hE hT bm,a8J,a8O,b0z]
    .cases hq
   .cases hq
  .cases hq
 case h_11 T x i aW =>
  split at hq
  .rename_i s r hT;have hx:=cE x;split at hq
   .rename_i u hu;rw[hu] at hx;split at hq
    .rename_i y hy;have e:=TV.aS hy;subst e;split at hq
     .rename_i f hf;simp only[a8r,a8u] at hq;obtain⟨rfl,rfl,rfl⟩:=hq;obtain⟨cs,h1,h2⟩:=hx;have hty:s.fI[i]?=some f.τ:=by rw[<-aJ.uU s y,a9R,hf];rfl
      obtain⟨h3,h4⟩:=Sg hf h2;refine bS hI (x:=Dy f.τ ((cs.drop (s.eu i)).take f.τ.size)) ?_ (dv.mk_ (A6 hf h2));simp only[execOp,aW,h1,a8N,N5 hE hT hty h3,a8J,a8O]
     .cases hq
    .cases hq
   .rename_i cs hu;rw[hu] at hx;split at hq
    .rename_i τ gQ;split at hq
     .rename_i u hg;simp only[a8r,a8u] at hq;obtain⟨rfl,rfl,rfl⟩:=hq;obtain⟨l,h1,h2⟩:=hx;obtain⟨h3,h4,h5⟩:=Bd h2 hg;refine bS hI (x:=Dy τ ((l.drop (s.eu i)).take τ.size)) ?_ h3;simp only[execOp,aW,h1,a8N,N5 hE hT gQ h5,a8J,a8O]
     .cases hq
    .cases hq
   .cases hq
  .cases hq
 case h_12 T x ix aW =>
  split at hq
  .rename_i τ r hT;split at hq
   .rename_i k i hi;have oI:=cE ix;rw[hi] at oI;obtain⟨oI,_⟩:=oI;simp only[a8x,a8T] at oI;have hx:=cE x;split at hq
    .rename_i u hu;rw[hu] at hx;split at hq
     .rename_i xs jG;have e:=TV.aS jG;subst e;simp only[a8r,a8u] at hq;obtain⟨rfl,rfl,rfl⟩:=hq;obtain⟨h0,h1⟩:=dO;obtain⟨ad,cap,h2,h3,h4,h5⟩:=iq hx;rcases h5 with h5|⟨b,o',h5,h6,h7⟩
      .subst h5;simp only[a8R] at h1;omega
      .subst h5;have bm:i.toNat<xs.length:=by omega
       obtain⟨cs,m1,m2,m3⟩:=cv.at_ (n:=τ.size) _ b o' h7 (by
        intro d hd;obtain⟨y,_,rfl⟩:=a8w.1 hd;exact Ty.cg τ y) i.toNat (τ.aD (xs.getD i.toNat τ.zero)) (by simp[List.getD,bm])
       refine bS hI (x := .pointer (some ⟨b,o'+i.toNat * τ.size,none⟩)) ?_ ⟨b,_,cs,rfl, .inl h6,m3,m2⟩;simp only[execOp,aW,h2,oI,a8N,nI hE hT h0 h1,a8J,a8O]
     .cases hq
    .rename_i id hu;rw[hu] at hx;split at hq
     .rename_i e' aO xs hl;split at hq
      .rename_i gQ;have gQ:=a8U gQ;subst gQ;simp only[a8r,a8u] at hq;obtain⟨rfl,rfl,rfl⟩:=hq;obtain⟨h0,h1⟩:=dO;obtain⟨h2,_,_⟩:=hx;have nm:=bO _ _ hl;obtain⟨l,m1,_,_⟩:=hI.aC _ _ nm;have bm:i.toNat<xs.length:=by omega
       rcases m1.2 with ⟨_,hn⟩|⟨g,cap,cur,hv,_⟩
       .omega
       .refine bS hI (x := .pointer (some ⟨g,0+i.toNat * aO.size,none⟩)) ?_ ⟨g,_,cap,e',aO,xs,hv,nm,bm,by simp⟩;simp only[execOp,aW,h2,hv,oI,a8N,nI hE hT h0 h1,a8J,a8O]
      .cases hq
     .cases hq
    .cases hq
   .cases hq
  .cases hq
 case h_13 T x ix aW =>
  split at hq
  .rename_i r hT;split at hq
   .rename_i k i hi;have oI:=cE ix;rw[hi] at oI;obtain⟨oI,_⟩:=oI;simp only[a8x,a8T] at oI;have hx:=cE x;split at hq
    .rename_i xs hu;rw[hu] at hx;simp only[Option.some.injEq,Prod.mk.injEq] at hq;obtain⟨rfl,rfl,rfl⟩:=hq;obtain⟨s,h1,h2,h3⟩:=hx;simp only[List.cons.injEq,and_true] at h1;subst h2;have bW:s.data.toList.length=s.size:=Array.length_toList;have dO:av i s.data.toList.length:=dO;unfold av at dO;rw[bW] at dO;have bm:Int.toNat i<s.size:=by omega
     have he:s.data.toList.getD (Int.toNat i) 0=s[Int.toNat i]'bm:=by
      have h5:Int.toNat i<s.data.size:=bm;rw[List.getD_eq_getElem?_getD,List.getElem?_eq_getElem (by simpa using h5)];rfl
     have hr:(execOp a.eval o).run c.P w = .ok (.value (.int .u8 (s[Int.toNat i]'bm).toNat)) w:=by
      simp only[execOp,aW,h1,oI,a8N,run_index_string w T s k i (hE.str hT)];rw[dif_pos dO];rfl
     refine bS hI hr ⟨by rw[he],?_⟩;have:=(s.data.toList.getD (Int.toNat i) 0).toNat_lt;exact⟨Int.natCast_nonneg _,by simp only[IntKind.max,IntKind.signed,IntKind.bits,a9m,b1q];omega⟩
    .cases hq
   .cases hq
  .cases hq
 case h_14 op T x y yt aW =>
  split at hq
  .rename_i p u hu;simp only[a8r,a8u] at hq;obtain⟨rfl,rfl,rfl⟩:=hq;obtain⟨z,h1,h2⟩:=Tc hE x y hu dO (cE x) (cE y);refine bS hI ?_ h2;simp only[execOp,aW];rw[a8N,h1];rfl
  .split at hq
   .rename_i p u hu;simp only[a8r,a8u] at hq;obtain⟨rfl,rfl,rfl⟩:=hq;obtain⟨z,h1,h2⟩:=Ud hE x y hu dO (cE x) (cE y);refine bS hI ?_ h2;simp only[execOp,aW];rw[a8N,h1];rfl
   .cases hq
 case h_15 op xt x aW =>
  split at hq
  .rename_i b hb;simp only[a8r,a8u] at hq;obtain⟨rfl,rfl,rfl⟩:=hq;have hx:=cE x;rw[hb] at hx;have hx:[a.eval x]=[.bool b]:=hx;simp only[a8x,a8T] at hx;exact bS hI (x := .bool !b) (by simp[execOp,aW,hx,Op.unary]) rfl
  .rename_i k i hb;simp only[a8r,a8u] at hq;obtain⟨rfl,rfl,rfl⟩:=hq;have hx:=cE x;rw[hb] at hx;obtain⟨hx,_⟩:=hx;simp only[a8x,a8T] at hx;have hr:=dE dO;have h0:(0:Int) - i = -i:=Int.zero_sub _;exact bS hI (x := .int k (-i)) (by simp[execOp,aW,hx,Op.unary,Op.intArith,h0,pS hr]) ⟨rfl,hr⟩
  .cases hq
 case h_16 src dst x aW =>
  split at hq
  .rename_i k1 r1 k2 r2 hs hd;split at hq
   .rename_i k3 i mo;simp only[a8r,a8u] at hq;obtain⟨rfl,rfl,rfl⟩:=hq;have hx:=cE x;rw[mo] at hx;obtain⟨hx,_⟩:=hx;simp only[a8x,a8T] at hx;have hr:=dE dO;refine bS hI (x := .int k2 i) ?_ ⟨rfl,hr⟩;simp[execOp,aW,hx,convert,a9g (hE.int hs),a9g (hE.int hd),Conv.intToInt,pS hr]
   .cases hq
  .cases hq
 case h_18 t i aW =>
  split at hq
  .rename_i vs ht;split at hq
   .rename_i u hu;simp only[a8r,a8u] at hq;obtain⟨rfl,rfl,rfl⟩:=hq;have hx:=cE t;rw[ht] at hx;obtain⟨l,h1,h2⟩:=hx;obtain⟨z,h3,h4⟩:=h2.at_ i u hu;refine bS hI (x:=z) ?_ ?_
    .simp[execOp,aW,Instr.extract,h1,h3]
    .cases u<;>first|exact h4|exact h4.elim|trivial
   .cases hq
  .cases hq
 case h_19 T l cc aW =>
  split at hq
  .rename_i d τ b e hd hT;split at hq
   .rename_i m m' hm hm';simp only[a8r,a8u] at hq;obtain⟨rfl,rfl,rfl⟩:=hq;have hl:=cE l;have hc:=cE cc;rw[hm] at hl;rw[hm'] at hc;obtain⟨hl,_⟩:=hl;obtain⟨hc,_⟩:=hc;simp only[a8x,a8T] at hl hc;obtain⟨cap,cs,h1,h2⟩:=Xl (c:=c) (G:=G) (lk:=lk) hE hT dO w (λ w' hk b hb=>hI.RD hk b (.inl hb));refine sd hI ?_ (hI.alloc _) ⟨d,hd,rfl⟩ h2 ?_
    .simp only[execOp,aW,hl,hc,a8N,h1,a8J,a8O]
    .intro b hb;simp only[dt,a8r] at hb;subst hb;simp
   .cases hq
  .cases hq
 case h_17 T x lo hi mx aW =>
  split at hq
  .rename_i τ r hT;have hx:=cE x;split at hq
   .rename_i u hu;rw[hu] at hx;split at hq
    .rename_i xs jG;have e:=TV.aS jG;subst e;split at hq
     .rename_i l h hl hh;simp only[a8r,a8u] at hq;obtain⟨rfl,rfl,rfl⟩:=hq;obtain⟨ad,cap,h2,h3,h4,h5⟩:=iq hx;obtain⟨k1,⟨b',e',k2⟩,_⟩:=hE.slice hT;have hb:=J2 cE true hl hh dO h3 c.P w;obtain⟨v0,v1,v2⟩:=dO;have cz:(execOp a.eval o).run c.P w = .ok (.value (.slice (if cap=l.toNat then ad else ad.map (·.add (l.toNat * τ.size))) (h.toNat - l.toNat) (cap - l.toNat))) w:=by
       simp only[execOp,aW,h2,Instr.sliceAt,a8N,a9g k1,a8J,Instr.slice,b1v,hb,hE.sizeOf k2,a8O]
      refine bS hI cz ?_;have hlen:((xs.take h.toNat).drop l.toNat).length=h.toNat - l.toNat:=by
       rw[a9C,a9t];omega
      refine XB hlen (by omega) ?_ (by omega) ?_
      .have:=hx;obtain⟨ad',Mm,m1,m2,m3,_⟩:=this;rw[h2] at m1;simp only[a8x,b0b,a8T] at m1;obtain⟨_,_,rfl⟩:=m1;omega
      .rcases a8Q l.toNat h.toNat with bm|E9
       .right;rcases h5 with h5|⟨b,o',rfl,h6,h7⟩
        .subst h5;simp only[a8R] at v2;omega
        .refine⟨b,o'+l.toNat * τ.size,?_,h6,?_⟩
         .rw[a8v (by omega)];simp[b0I]
         .rw[List.map_drop,List.map_take];refine cv.Yw _ _ _ _ (cv.a0Z _ _ _ _ h7) ?_;intro d hd;obtain⟨y,_,rfl⟩:=a8w.1 (List.mem_of_mem_take hd);exact Ty.cg τ y
       .left;exact a9s (by omega)
     .cases hq
    .cases hq
   .cases hq
  .rename_i r hT;have hx:=cE x;split at hq
   .rename_i xs hu;rw[hu] at hx;split at hq
    .rename_i l h hl hh;simp only[a8r,a8u] at hq;obtain⟨rfl,rfl,rfl⟩:=hq;obtain⟨s,h1,h2,h3⟩:=hx;simp only[a8x,a8T] at h1;subst h2;have bW:s.data.toList.length=s.size:=a9k;rw[bW] at dO hh;have hb:=J2 cE false hl hh dO (a8C _) c.P w;obtain⟨v0,v1,v2⟩:=dO;refine bS hI (x := .string (s.extract l.toNat h.toNat)) ?_ ⟨_,rfl,?_,?_⟩
     .have gP:¬ ((none:Option Value).isSome=true):=by simp
      simp only[execOp,aW,h1,Instr.sliceAt,a8N,a9g (hE.str hT),a8J,Instr.slice,b1v,a8v gP,hb,a8O]
     .rw[Lib.extract_data,List.drop_take]
     .have:(s.extract l.toNat h.toNat).size<=s.size:=by
       rw[ByteArray.size_extract];omega
      omega
    .cases hq
   .cases hq
  .cases hq
 case h_20 cl aW =>
  have dJ:=aI.jr cE cl.args.toList;split at hq
  .rename_i fJ;split at hq
   .rename_i T v1 MQ Br;rw[Br] at dJ;match jG:cl.args.toList.map a.eval,dJ with
    | [x],dJ =>
     have hx:=dJ.1;have G5:cl.argTypes = #[T]:=by rw[<-a9o (xs:=cl.argTypes),MQ]
     have Bs:cl.args.map a.eval = #[x]:=by rw[<-a9o (xs:=cl.args.map a.eval),b0i,jG]
     have MW:(execOp a.eval o)=(do let d <-resolve a.eval cl o.type;invoke d.target d.args):=by simp[execOp,aW]
     have Ha:(execOp a.eval o).run c.P w=((Builtin.len_ #[T] o.type #[x]).run c.P w).andThen λ v w => .ok (.value v) w:=by
      rw[MW];simp[resolve,fJ,invoke,builtin,G5,Bs]
     split at hq
     .rename_i t r hT;obtain⟨k1,_,_⟩:=hE.slice hT;have OG:c.P.elem T=r.2:=by simp[Program.elem,k1]
      have cz:∀ ad len cap,x = .slice ad len cap->(execOp a.eval o).run c.P w = .ok (.value (.int .i64 len)) w:=by
       intro ad len cap hxx;rw[Ha,hxx,run_len_slice w T o.type ad len cap (by rw[OG];exact k1)];rfl
      have ep:∀ m:Nat,m<=140737488355328->IntKind.i64.min<=(m:Int)/\(m:Int)<=IntKind.i64.max:=λ m hm=>dE (k := .i64) ⟨by omega,by omega⟩;split at hq
      .simp only[a8r,a8u] at hq;obtain⟨rfl,rfl,rfl⟩:=hq;exact bS hI (cz _ _ _ hx) ⟨rfl,ep 0 (by omega)⟩
      .rename_i t' xs;simp only[a8r,a8u] at hq;obtain⟨rfl,rfl,rfl⟩:=hq;obtain⟨ad,cap,h2,h3,h4,h5⟩:=iq hx;exact bS hI (cz _ _ _ h2) ⟨rfl,ep _ h4⟩
      .rename_i id;split at hq
       .rename_i e' aO xs hl;simp only[a8r,a8u] at hq;obtain⟨rfl,rfl,rfl⟩:=hq;obtain⟨h2,_,_⟩:=hx;have nm:=bO _ _ hl;obtain⟨ad,cap,h3,_,h4,_⟩:=iq (t:=aO) (Wi (hI.aC _ _ nm) nm);exact bS hI (cz _ _ _ (h2.trans h3)) ⟨rfl,ep _ h4⟩
       .cases hq
      .cases hq
     .rename_i r hT;split at hq
      .rename_i xs;simp only[a8r,a8u] at hq;obtain⟨rfl,rfl,rfl⟩:=hq;obtain⟨s,h1,h2,h3⟩:=hx;simp only[a8x,a8T] at h1;subst h2;have bW:s.data.toList.length=s.size:=a9k;have ep:cH .i64 (s.size:Int):=⟨by omega,by omega⟩;refine bS hI (x := .int .i64 s.size) ?_ ⟨by rw[bW],by rw[bW];exact dE ep⟩;rw[Ha,h1,run_len_string w T o.type s (hE.str hT)];rfl
      .cases hq
     .rename_i hT;split at hq
      .rename_i id a3x hm _;split at hq
       .rename_i m hl;simp only[a8r,a8u] at hq;obtain⟨rfl,rfl,rfl⟩:=hq;obtain⟨b,es,clock,k1,k2,k3⟩:=hI.aC _ _ (bO _ _ hl);obtain⟨kT,eT,u1,_⟩:=hE.map (κ:=a3x.1) (ε:=a3x.2) hm w;have OG:c.P.underlying T=some (.map (c.P.mapKeyOf T) (c.P.mapElemOf T)):=by simp[Program.mapKeyOf,Program.mapElemOf,u1]
        have hsm:=k3.small;have ep:cH .i64 (m.n:Int):=⟨by omega,by omega⟩;refine bS hI (x := .int .i64 m.n) ?_ ⟨rfl,dE ep⟩;rw[Ha,hx.1,k1,run_len_map w T o.type b es clock OG k2,k3.len];rfl
       .cases hq
      .cases hq
     .cases hq
   .cases hq
  .rename_i fJ;split at hq
   .rename_i d T T' hd MQ;split at hq
    .rename_i τ b e MP hT;split at hq
     .rename_i y Br;split at hq
      .rename_i ys Ds;simp only[a8r,a8u] at hq;obtain⟨rfl,rfl,rfl⟩:=hq;have MP:=a8s MP;subst MP;rw[Br] at dJ;match jG:cl.args.toList.map a.eval,dJ with
       | [x,z],dJ =>
        obtain⟨hx,hz,_⟩:=dJ;have hx:x = .slice none 0 0:=hx;subst hx;have G5:cl.argTypes = #[T,T]:=by rw[<-a9o (xs:=cl.argTypes),MQ]
        have Bs:cl.args.map a.eval = #[.slice none 0 0,z]:=by rw[<-a9o (xs:=cl.args.map a.eval),b0i,jG]
        have Ha:(execOp a.eval o).run c.P w=((Builtin.append_ #[T,T] o.type #[.slice none 0 0,z]).run c.P w).andThen λ v w => .ok (.value v) w:=by
         simp[execOp,aW,resolve,fJ,invoke,builtin,G5,Bs]
        have hzc:C1 c G lk w y z:=by
         refine hz.P4 ?_;cases y with
         | aK u =>
          have e:=TV.aS Ds;subst e;rfl
         | nil=>rfl
         | row i=>rfl
         | aA i=>rfl
         | _=>cases Ds
        have eO:=VJ hI.aC (BU bO) Td Ds hzc;obtain⟨v',w',news,m1,m2,m3,m4,m5,m6⟩:=JT (w:=w) (base:=w.heap.size) hE hT (World.ownsRow_nil w _ e τ.size) (Nat.le_refl _) eO (n:=0) (by rw[Nat.zero_add];exact dO) o.type;have hk:bH (λ _=>False) w w':=⟨m3.os,m3.tape,m3.output,m3.size,λ b hb _=>m3.block b hb (by simp[Value.ownBlock])⟩;simp only[Nat.zero_add,List.nil_append] at m2;refine sd hI (x:=v') (w':=w') ?_ (hI.grow (S':=G.S) hk (λ _ _=>Iff.rfl) (λ b hb=>Nat.lt_of_lt_of_le (hI.dH b hb) hk.size)) ⟨d,hd,rfl⟩ ⟨news,?_,?_,by simpa using m6⟩ ?_
        .rw[Ha,m1];rfl
        .exact⟨m2.1,m2.2.imp id λ ⟨g,cap,cur,q1,q2,q3⟩=>⟨g,cap,cur,q1,a9l _,q3⟩⟩
        .exact cP.aE (λ _ h=>h) (λ b hb=>hI.RD hk b (.inl hb)) _ m5
        .intro b hb;have Au:=(o7 (w:=w') (v:=v') (e:=e) ⟨m2.1,m2.2.imp id λ ⟨g,cap,cur,q1,q2,q3⟩=>⟨g,cap,cur,q1,a9l _,q3⟩⟩);have cq:v'.ownBlock=some b:=Au.trans hb;exact m2.lt b cq
      .cases hq
     .cases hq
    .cases hq
   .cases hq
  .rename_i fJ;split at hq
   .rename_i k m k' n Br;split at hq
    .rename_i hk;have hk:=a8U hk;subst hk;simp only[a8r,a8u] at hq;obtain⟨rfl,rfl,rfl⟩:=hq;rw[Br] at dJ;match jG:cl.args.toList.map a.eval,dJ with
     | [x,z],dJ =>
      obtain⟨⟨hx,hx2⟩,⟨hz,Hi⟩,_⟩:=dJ;simp only[a8x,a8T] at hx hz;subst hx hz;have Bs:cl.args.map a.eval = #[.int k' m, .int k' n]:=by rw[<-a9o (xs:=cl.args.map a.eval),b0i,jG]
      refine bS hI (x := .int k' (max m n)) ?_ ⟨rfl,?_⟩
      .have hm:=a1Q m n;simp[execOp,aW,resolve,fJ,invoke,builtin,Bs,Builtin.max_,Builtin.max2];exact hm
      .exact a1R _ _ _ _ hx2 Hi
    .cases hq
   .cases hq
  .rename_i f fJ;exact J4 hE hI bO hq dO dJ (λ qB=>hJ aW fJ rfl qB)
  .rename_i t fJ;split at hq
   .rename_i f hf;have hx:=cE (.tmp t);rw[hf] at hx;exact J4 hE hI bO hq dO dJ (λ qB=>hJ aW fJ hx qB)
   .rename_i f cs hf;have hx:=cE (.tmp t);rw[hf] at hx;exact AQ hE hI bO hq dO dJ aW fJ hx
   .rename_i v hf;have hx:=cE (.tmp t);rw[hf] at hx;exact AQ hE hI bO hq dO dJ aW fJ hx
   .cases hq
  .cases hq
 case h_21 T aW =>
  split at hq
  .rename_i d κ ε hd hT;simp only[a8r,a8u] at hq;obtain⟨rfl,rfl,rfl⟩:=hq;obtain⟨kT,eT,u1,u2,u3,u4,_⟩:=hE.map hT w;refine sd hI (x := .map (some w.heap.size)) (w':=w.alloc (.map #[] 0)) ?_ (hI.alloc _) ⟨d,hd,rfl⟩ ⟨_,_,_,rfl,(b2H w _).1,uF.empty u3 u4⟩ ?_
   .simp[execOp,aW,Instr.makeMap]
   .intro b hb;simp only[dt,a8r] at hb;subst hb;simp
  .cases hq
 case h_22 T x ix ok aW =>
  split at hq
  .rename_i κ ε hT;split at hq
   .rename_i id u hx oI;split at hq
    .rename_i m k hl hk;split at hq
     .rename_i f n hm;have e1:=MV.aS hm;subst e1;have e2:=TV.aS hk;subst e2;obtain⟨kT,eT,u1,u2,u3,u4,z,hz,Xb⟩:=hE.map hT w;have mo:=cE x;rw[hx] at mo;have SA:=cE ix;rw[oI] at SA;obtain⟨b,es,clock,k1,k2,k3⟩:=hI.aC _ _ (bO _ _ hl);have hkr:nN κ k (a.eval ix):=by
       refine nN.of (w:=w) (S:=G.S) u3 ?_;have:=dv.cells SA;cases κ with
       | int q=>exact SA
       | bool=>exact SA
       | str=>exact SA
       | _=>cases u3
      obtain⟨y,y1,y2⟩:=k3.af (P:=c.P) u1 u2 k2 hz Xb hkr ok;have cz:(execOp a.eval o).run c.P w = .ok (.value (if ok then .tuple #[y, .bool (f k).isSome] else y)) w:=by
       have hxx:a.eval x = .map (some b):=mo.1.trans k1;have:(execOp a.eval o)=(do let r <-Instr.lookup T (a.eval x) (a.eval ix) ok;pure (.value r)):=by simp[execOp,aW]
       rw[this,hxx];simp[y2,Result.andThen]
      have hyv:dv w G.S ⟨ε,(f k).getD ε.zero⟩ y:=by
       have:=y1 w G.S;cases ε with
       | int q=>exact this
       | bool=>exact this
       | str=>exact this
       | _=>cases u4
      cases ok with
      | true =>
       simp only[a8r,a8u] at hq;obtain⟨rfl,rfl,rfl⟩:=hq;exact bS hI cz ⟨[y, .bool (f k).isSome],rfl,hyv,rfl,ae⟩
      | false =>
       simp only[a8r,a8u] at hq;obtain⟨rfl,rfl,rfl⟩:=hq;exact bS hI cz hyv
     .cases hq
    .cases hq
   .cases hq
  .cases hq
 case h_23 fn first captured aW =>
  split at hq
  .rename_i f a1D Bl;have iY:=aI.jr cE captured.toList;have cz:(execOp a.eval o).run c.P w = .ok (.value (.func (.func f) #[] (captured.toList.map a.eval).toArray)) w:=by
    have hf:first = #[]:=by rw[<-a9o (xs:=first),a1D]
    simp[execOp,aW,Instr.makeFunc,hf];apply b1P;simp
   split at hq
   .rename_i gO;simp only[a8r,a8u] at hq;obtain⟨rfl,rfl,rfl⟩:=hq;rw[gO] at iY;match hl:captured.toList.map a.eval,iY with
    | [],_ =>
     rw[hl] at cz;exact bS hI cz rfl
   .simp only[a8r,a8u] at hq;obtain⟨rfl,rfl,rfl⟩:=hq;exact bS hI cz ⟨_,rfl,iY.imp λ u y hu hy=>hy.TT (a9c.1 Bl u hu)⟩
  .cases hq
 case h_24=>cases hq
end
theorem CA(f:au->au):∀ (l:List (Nat×au)) (j:Nat),af (l.map λ p=>(p.1,f p.2)) j=(af l j).map f
 | [],_=>rfl
 | (k,o)::r,j=>by
  simp only[a9a,af];split
  .rfl
  .exact CA f r j
theorem dP(id:Nat):∀ (l:List (Nat×au)) (j:Nat),af (bA id l) j=if j=id then none else af l j
 | [],_=>by simp[bA,af]
 | (k,o)::r,j=>by
  simp only[bA];split
  .rename_i h;have h:=a8s h;subst h;rw[dP k r j];by_cases hj:j=k
   .simp[hj]
   .rw[a8v hj,a8v hj];simp only[af];split
    .rename_i h;exact absurd (a8s h).symm hj
    .rfl
  .rename_i h;have hk:k≠id:=λ e=>by subst e;simp at h
   simp only[af];split
   .rename_i h';have h':=a8s h';subst h';rw[a8v hk]
   .exact dP id r j
theorem de(k:Nat)(o:au)(l:List (Nat×au))(j:Nat):af ((k,o)::l) j=if j=k then some o else af l j:=by
 simp only[af];split
 .rename_i h;rw[a8A (a8s h).symm]
 .rename_i h;have:j≠k:=λ e=>by subst e;simp at h
  rw[a8v this]
theorem nJ(l:List AV)(d:Nat)(v:AV)(o:List (Nat×au)):ag.sl ⟨l.set d v,o⟩=iu l.length (ag.sl ⟨l,o⟩) (some d) v:=by
 funext i;simp only[ag.sl,iu,a8D,b1M,a8r];by_cases h:d=i
 .subst h;by_cases hl:d<l.length
  .simp[hl]
  .simp[hl]
 .simp[h]
theorem Wm(s:ag)(d:Option Nat)(v:AV):(s.put d v).sl=iu s.aw.length s.sl d v:=by
 cases d with
 | none=>funext i;simp[ag.put,iu]
 | some d=>exact nJ s.aw d v s.aC
theorem PQ(s:ag)(d:Option Nat)(v:AV):(s.put d v).af=s.af:=by cases d<;>rfl
theorem Kk(s:ag)(d:Option Nat)(v:AV):(s.put d v).aw.length=s.aw.length:=by cases d<;>simp[ag.put]
theorem P1(s:ag)(id:Nat):(s.bM id).sl=λ i=>(s.sl i).kill id:=by
 funext i;simp only[ag.sl,ag.bM,a8D,a9R];cases s.aw[i]?<;>simp[AV.kill,AV.refs]
theorem dF(s:ag)(id:Nat):(s.bM id).af=λ i=>(s.af i).map (au.kill id):=by
 funext i;exact CA _ _ _
section
variable {c:Ctx} {G:Gh} {s:ag} {a:Act} {w w':World}
theorem Inv.put(h:Inv c G s a w){d:Option Nat}{v:AV}{x:Value}(hv:VR c G s.af w v x):Inv c G (s.put d v) (a.put d x) w:=by
 unfold Inv;rw[Wm,PQ,Kk];exact aV.put h hv
theorem Inv.clear(h:Inv c G s a w)(id:Nat):aV c G (s.bM id).sl s.aw.length (λ i=>if i=id then none else (s.bM id).af i) a w /\
  (∀ i,((s.bM id).sl i).refs id=false)/\∀ i o,(s.bM id).af i=some o->o.refs id=false:=by
 have h1:=aV.bM h id;have hs:∀ i,((s.bM id).sl i).refs id=false:=λ i=>by rw[P1];exact yP id _
 have ho:∀ i o,(s.bM id).af i=some o->o.refs id=false:=λ i o bV=>by
  rw[dF] at bV;simp only[a8Z] at bV;obtain⟨o',_,rfl⟩:=bV;cases o' with
  | box cs=>exact B7 id cs
  | row e τ xs=>rfl
  | aA τ xs=>rfl
  | map m=>rfl
 refine⟨?_,hs,ho⟩;rw[P1,dF];exact aV.a1s h1 id (λ i=>yP id _) (λ i o bV _=>by
  have:=ho i o (by rw[dF];exact bV);exact this)
theorem OP(id:Nat)(o:au):(o.kill id).refs id=false:=by
 cases o with
 | box cs=>exact B7 id cs
 | row e τ xs=>rfl
 | aA τ xs=>rfl
 | map m=>rfl
theorem Inv.V9(h:Inv c G s a w){id:Nat}{v:AV}{o:au}{x:Value}(bm:id<400000)(hN:VH c G s.af w x o)(hL:LV (some id) v o)
  (hblk:∀ b,dt x=some b->(c.w0.heap.size<=b\/c.X b)/\¬ G.S b/\b<w.heap.size/\(∀ i o',i≠id->s.af i=some o'->dt (G.η i)≠some b)/\∀ j τ xs,s.af j=some (.aA τ xs)->b∉G.φ j) :
  Inv c ⟨G.S,λ i=>if i=id then x else G.η i,G.φ⟩ (s.lay (some id) v (some o)) (a.put (some id) x) w:=by
 obtain⟨h1,h2,h3⟩:=h.clear id;have bO:(s.lay (some id) v (some o)).af=λ i=>if i=id then some (o.kill id) else (if i=id then none else (s.bM id).af i):=by
  funext i;show af ((id,o.kill id)::bA id (s.bM id).aC) i=_;rw[de,dP];rfl
 have Aw:(s.lay (some id) v (some o)).sl=iu s.aw.length (s.bM id).sl (some id) v:=by
  have:=nJ (s.bM id).aw id v ((id,o.kill id)::bA id (s.bM id).aC);rw[show (s.bM id).aw.length=s.aw.length from by simp[ag.bM]] at this;exact this
 have hlen:(s.lay (some id) v (some o)).aw.length=s.aw.length:=by simp[ag.lay,ag.bM]
 have nV:OR c ⟨G.S,λ i=>if i=id then x else G.η i,G.φ⟩ (λ i=>if i=id then some (o.kill id) else (if i=id then none else (s.bM id).af i)) w id (o.kill id):=by
  cases o with
  | box cs =>
   obtain⟨b,l,t,k1,k2,k3⟩:=hN;refine⟨b,l,t,by simp[k1],k2,aI.dR _ (k3.imp λ u y _ hy=>?_)⟩;refine (hy.kill id).mono (λ j hj=>?_) (λ _ h=>h) (λ _ _=>rfl);have dh:j≠id:=λ e=>by subst e;rw[yP] at hj;cases hj
   simp only[a8v dh];exact⟨by rw[dF];exact Fy id _,ae⟩
  | row e τ xs =>
   obtain⟨l,k1,k2,k3⟩:=hN;exact⟨l,by simpa using k1,k2,k3⟩
  | aA τ xs=>exact hN.elim
  | map m =>
   obtain⟨b,es,clock,k1,k2,k3⟩:=hN;exact⟨b,es,clock,by simp[k1],k2,k3⟩
 have SG:cS (some (o.kill id))=false:=by
  cases o with
  | aA τ xs=>exact hN.elim
  | _=>rfl
 have h4:=aV.newObj h1 id (o.kill id) x (by simp) h2 (λ i p rQ=>by
  by_cases hi:i=id
  .simp[hi] at rQ
  .rw[a8v hi] at rQ;exact h3 i p rQ) (OP id o) nV SG (.inr bm) (λ b hb=>by
  obtain⟨q1,q2,q3,q4,q5⟩:=hblk b hb;refine⟨q1,q2,q3,λ i p rQ=>?_,λ j τ xs hj=>?_⟩
  .by_cases hi:i=id
   .simp[hi] at rQ
   .rw[a8v hi,dF] at rQ;simp only[a8Z] at rQ;obtain⟨p',US,_⟩:=rQ;exact q4 i p' hi US
  .by_cases hi:j=id
   .simp[hi] at hj
   .rw[a8v hi,dF] at hj;exact q5 j τ xs (gT hj))
 unfold Inv;rw[Aw,bO,hlen];refine aV.put h4 ?_;cases o with
 | box cs =>
  obtain⟨i,hi,rfl⟩:=hL;simp only[a8r] at hi;subst hi;obtain⟨b,l,t,k1,k2,k3⟩:=hN;exact⟨b,by simp[k1],k1,by simp[au.kill,gm]⟩
 | row e τ xs =>
  obtain⟨i,hi,rfl⟩:=hL;simp only[a8r] at hi;subst hi;obtain⟨l,k1,k2,k3⟩:=hN;refine⟨by simp,by simp[au.kill,isRow],?_⟩;rcases k1.2 with ⟨rfl,_⟩|⟨g,cap,cur,rfl,_⟩
  .exact⟨_,_,_,rfl⟩
  .exact⟨_,_,_,rfl⟩
 | aA τ xs=>exact hN.elim
 | map m =>
  obtain⟨i,hi,rfl⟩:=hL;simp only[a8r] at hi;subst hi;obtain⟨b,es,clock,k1,k2,k3⟩:=hN;exact⟨by simp,by simp[au.kill,Fh],b,k1⟩
theorem Nu(h0:Inv c G s a w){d:Option Nat}(E7:pY d=true){v:AV}{ob:Option au}{a':Act}(h:uE c G s.sl s.aw.length s.af d a w v ob a' w'):∃ G',Inv c G' (s.lay d v ob) a' w':=by
 obtain⟨x,S',rfl,hI,hx⟩:=h;cases ob with
 | none=>exact⟨_,by cases d<;>exact Inv.put (s:=s) hI hx⟩
 | some o =>
  obtain⟨hL,hN,hb⟩:=hx;have hd:∃ i,d=some i:=by cases o<;>first|exact⟨_,hL.choose_spec.1⟩|exact hL.elim
  obtain⟨i,rfl⟩:=hd;refine⟨_,Inv.V9 (s:=s) hI (a9w E7) hN hL λ b QK=>?_⟩;obtain⟨h1,h2,h3⟩:=hb b QK;have hle:=h0.aE.size;refine⟨by omega,h3,h2,λ j o' _ hj KN=>?_,λ j τ xs hj KN=>?_⟩
  .have:=(h0.place j o' b hj KN).2.2;omega
  .have:=(h0.aM.pl j τ xs b hj KN).2.2.1;omega
theorem R9{k:IntKind}{n:Int}(h:Mq k n=true):k.min<=n/\n<=k.max:=by
 unfold Mq at h;split at h
 .rename_i m;split at h<;>have h:=a9w h<;>try (simp[IntKind.min,IntKind.max,IntKind.signed,IntKind.bits];omega)
  cases k<;>simp_all [IntKind.min,IntKind.max,IntKind.signed,IntKind.bits]<;>omega
 .rename_i m;split at h
  .have h:=a9w h;simp[IntKind.min,IntKind.max,IntKind.signed,IntKind.bits];omega
  .cases h
theorem DH(lk:Nat->Option au)(v:Value):C1 c G lk w (Gp v) v:=by
 unfold Gp;split
 .split
  .rename_i h;exact⟨rfl,rfl,R9 h⟩
  .trivial
 .exact⟨rfl,rfl⟩
 .split
  .rename_i sv _ h;have h:=a9w h;exact⟨rfl,sv,rfl,rfl,by have:sv.size=sv.data.size:=rfl;omega⟩
  .trivial
 .rfl
 .trivial
theorem aR(h:Inv c G s a w)(x:Operand):VR c G s.af w (s.eval x) (a.eval x):=by
 cases x with
 | tmp t=>exact h.aw t
 | const v =>
  simp only[ag.eval,Act.eval];unfold R8;split
  .rename_i cs;refine⟨cs.toList,rfl,aI.dR _ ?_⟩;have:∀ l:List Value,aI (λ u y=>C1 c G s.af w (Gp u) y) l l:=by
    intro l;induction l with
    | nil=>trivial
    | cons u r ih=>exact⟨DH _ u,ih⟩
   exact this _
  .rename_i cs;split
   .rename_i hz;have:cs = #[]:=b0O (a8s hz);subst this;exact rfl
   .trivial
  .exact (DH _ v).eS
 | global g=>trivial
 | func f=>rfl
theorem kc{g:Nat}{Xm cs:Array Value}{t:TypeId}{fr:Nat×Nat}(w:World)(hg:w.heap[g]?=some (.cells Xm t fr))(k:Nat)(hk:k≠g):(w.setRow g cs).heap[k]?=w.heap[k]?:=setRow_other w g k cs hk
theorem y8(hE:bu c.P c.E){T:TypeId}{τ:Ty}{b e:Nat}(hT:af c.E.ty T=some (τ,b,e)){g o:Nat}{l:List Value}{t:TypeId}{x:Value}(hg:w.heap[g]?=some (.cells l.toArray t (0,0)))
  (hx:x.cells.toList.length=τ.size) (h1:∀ u∈x.cells.toList,u.oneCell'=true) (Bn:o+τ.size<=l.length) :
  (Instr.storeAt T (.pointer (some ⟨g,o,none⟩)) x).run c.P w = .ok () (w.setRow g (l.take o++x.cells.toList++l.drop (o+τ.size)).toArray):=by
 have hn:¬ (x.cells.size≠τ.size):=by simpa using hx
 simp only[Instr.storeAt,Instr.sureAddr,storeVar,Sem.run_bind,Sem.run_pure,Result.andThen_ok,hE.sizeOf hT,if_neg hn];have:=run_storeCells_at c.P g o t x.cells.toList 0 l.toArray w hg (by simp at hx ⊢;omega) h1;simpa [hx] using this
theorem O1{cs new dm:List AV}{off:Nat}(h:putCells cs off new=some dm):off+new.length<=cs.length/\dm=cs.take off++(new++cs.drop (off+new.length)):=by
 unfold putCells at h;split at h
 .rename_i hb;simp only[a8r] at h;exact⟨a9w hb,h.symm⟩
 .cases h
theorem Inv.store(hE:bu c.P c.E)(h:Inv c G s a w){T:TypeId}{τ:Ty}{bt e:Nat}(hT:af c.E.ty T=some (τ,bt,e)){id off:Nat}{cs new dm:List AV}{x p:Value}(aL:s.af id=some (.box cs))(hp:VR c G s.af w (.ptr id off) p)
  (nV:∃ v,cellsOf τ v=some new/\VR c G s.af w v x) (xB:putCells cs off new=some dm) :
  ∃ w',(Instr.storeAt T p x).run c.P w = .ok () w'/\Inv c G { s with aC:=(id, .box dm)::bA id s.aC } a w':=by
 obtain⟨v,hv,hx⟩:=nV;obtain⟨h1,h2,h3⟩:=wv hv hx;obtain⟨h4,rfl⟩:=O1 xB;obtain⟨b,k1,rfl,_⟩:=hp;obtain⟨b',l,t,k2,k3,k4⟩:=h.aC id _ aL;rw[k1] at k2;simp only[b0M,a8r,b0f,a8T] at k2;subst k2;have hlen:=h1.length;have WZ:=k4.length;have cz:=y8 (c:=c) hE hT (o:=off) (x:=x) k3 (by omega) h2 (by omega);refine⟨_,cz,?_⟩;have Aw:ag.sl { s with aC:=(id, .box (cs.take off++(new++cs.drop (off+new.length))))::bA id s.aC }=s.sl:=rfl;have bO:ag.af { s with aC:=(id, .box (cs.take off++(new++cs.drop (off+new.length))))::bA id s.aC }=λ i=>if i=id then some (.box (cs.take off++(new++cs.drop (off+new.length)))) else s.af i:=by
  funext i;show af (_::bA id s.aC) i=_;rw[de,dP];by_cases hi:i=id
  .simp[hi]
  .simp[hi];rfl
 unfold Inv;rw[Aw,bO];have bQ:∀ k,St c G.S k->(w.setRow b (l.take off++x.cells.toList++l.drop (off+τ.size)).toArray).heap[k]?=w.heap[k]?:=λ k hk=>kc w k3 k λ e=>by
  subst e;obtain⟨q1,q2,q3⟩:=h.place id _ k aL (by rw[k1];rfl);rcases hk with hk|hk
  .exact q2 hk
  .exact q1.elim (λ q=>by omega) hk.2.1
 have ff:∀ j,dX (s.af j) ((λ i=>if i=id then some (au.box (cs.take off++(new++cs.drop (off+new.length)))) else s.af i) j):=λ j=>by
  by_cases hj:j=id
  .subst hj;simp only[b0k];exact⟨λ _=>rfl,(λ e τ xs hh=>by rw[aL] at hh;cases hh),(λ hh=>by rw[aL] at hh;cases hh),λ hh=>by rw[aL] at hh;cases hh⟩
  .simp only[a8v hj];exact dX.refl _
 refine aV.Re h id _ _ b aL (by rw[k1];rfl) ⟨λ _=>rfl,(λ e τ xs hh=>by cases hh),(λ hh=>by cases hh),λ hh=>by cases hh⟩ rfl (λ k hk=>kc w k3 k hk) rfl rfl rfl (by simp[World.setRow]) ?_;refine⟨b,_,t,k1,b2K w b _ _ t _ k3,?_⟩;have key:aI (C1 c G s.af w) (cs.take off++(new++cs.drop (off+new.length))) (l.take off++x.cells.toList++l.drop (off+τ.size)):=by
  rw[a8Y,<-h3];exact aI.append (k4.take off) (aI.append h1 (k4.drop _))
 exact key.imp λ u y _ hy=>hy.mono (λ j _=>⟨ff j,rfl⟩) (λ _ h=>h) bQ
theorem Nw(cur cC:List Value)(o sz N:Nat)(hv:cC.length=sz)(hN:o+sz<=N)(hc:N<=cur.length) :
  (cur.take o++cC++cur.drop (o+sz)).take N=(cur.take N).take o++cC++(cur.take N).drop (o+sz):=by
 have h1:(cur.take o++cC).length=o+sz:=by simp[hv];omega
 rw[b1R,h1,a9f (by omega),List.take_take,b2f (by omega),List.drop_take]
theorem cP.a3o{S:Nat->Prop}{n:Nat}{d':D}{c':List Value}(hd:Rd w S d' c')(rS:c'.length=n):∀ (ds:List D) {l:List Value} (i:Nat),cP w S ds l->(∀ d∈ds,d.size=n)->i<ds.length->cP w S (ds.set i d') (l.take (i * n)++c'++l.drop (i * n+n))
 | [],l,i,_,_,hi=>by simp at hi
 | e::ds,l,0,h,hn,_=>by
  obtain⟨c1,r,rfl,h2,h3⟩:=h;have hc:c1.length=n:=by rw[Rd.length _ h2];exact hn _ (by simp)
  refine⟨c',r,?_,hd,h3⟩;simp only[b1s,b0F,a9e,a9I];rw[<-hc,b1m]
 | e::ds,l,i+1,h,hn,hi=>by
  obtain⟨c1,r,rfl,h2,h3⟩:=h;have hc:c1.length=n:=by rw[Rd.length _ h2];exact hn _ (by simp)
  refine⟨c1,r.take (i * n)++c'++r.drop (i * n+n),?_,h2,cP.a3o hd rS ds i h3 (λ d hd=>hn d (by simp[hd])) (by simpa using hi)⟩;have e1:(i+1) * n=c1.length+i * n:=by rw[Nat.add_mul,hc];omega
  rw[e1,b1R,a9f (by omega),show c1.length+i * n - c1.length=i * n by omega,b0z,List.drop_append,b0p (by omega),a9e,
   show c1.length+(i * n+n) - c1.length=i * n+n by omega]
  simp
theorem Inv.XH(hE:bu c.P c.E)(h:Inv c G s a w){T:TypeId}{τ:Ty}{bt e:Nat}(hT:af c.E.ty T=some (τ,bt,e)){id i:Nat}{e':TypeId}{xs:List τ.den}{v:AV}{y:τ.den}{x p:Value}(aL:s.af id=some (.row e' τ xs))
  (hp:VR c G s.af w (.dN id i 0) p) (hx:VR c G s.af w v x) (hy:ur (λ _=>none) τ v=some y) :
  ∃ w',(Instr.storeAt T p x).run c.P w = .ok () w'/\Inv c G { s with aC:=(id, .row e' τ (xs.set i y))::bA id s.aC } a w':=by
 obtain⟨b,n,cap,e1,Pa,O9,k1,k2,k3,rfl⟩:=hp;rw[aL] at k2;simp only[a8r,au.row.injEq] at k2;obtain⟨rfl,rfl,k2⟩:=k2;have k2:=b1G k2;subst k2;have hr:=(F5 hy hx).cells;have ns:x.cells.toList.length=τ.size:=by
  have:=Rd.length _ hr;rwa [show TV.aD ⟨τ,y⟩=τ.aD y from rfl,Ty.cg] at this
 have tD:∀ u∈x.cells.toList,u.oneCell'=true:=Rd.gX (x:=y) hr;obtain⟨l,m1,m2,m3⟩:=h.aC id _ aL;have bW:∀ d∈xs.map τ.aD,d.size=τ.size:=by
  intro d hd;obtain⟨z,_,rfl⟩:=a8w.1 hd;exact Ty.cg τ z
 have WZ:=cP.length _ m2 bW;simp only[a8W] at WZ;have Bn:i * τ.size+τ.size<=xs.length * τ.size:=by
  have:=a9X τ.size (show i+1<=xs.length by omega);rw[a9u] at this;omega
 rcases m1.2 with ⟨hv,_⟩|⟨g,Mm,cur,hv,_,hh,OK,UI,iY,U0⟩
 .rw[k1] at hv;cases hv
 .rw[k1] at hv;simp only[b0b,a8r,b0f,a8T] at hv;obtain⟨rfl,rfl,rfl⟩:=hv;have Ar:xs.length * τ.size<=cur.toList.length:=by
   rw[a9k (xs:=cur),iY];exact a9X _ OK
  have cz:=y8 (c:=c) (l:=cur.toList) hE hT (o:=i * τ.size+0) (x:=x) (by simpa using hh) ns tD (by omega);refine⟨_,cz,?_⟩;have bO:ag.af { s with aC:=(id, .row e' τ (xs.set i y))::bA id s.aC }=λ j=>if j=id then some (.row e' τ (xs.set i y)) else s.af j:=by
   funext j;show af (_::bA id s.aC) j=_;rw[de,dP];by_cases hj:j=id
   .simp[hj]
   .simp[hj];rfl
  unfold Inv;rw[bO];refine aV.Re h id _ _ b aL (by rw[k1];rfl) ⟨λ hh=>(by cases hh),λ e2 iS kG hh=>?_,(λ hh=>by cases hh),λ hh=>by cases hh⟩ rfl (λ k hk=>kc w hh k hk) rfl rfl rfl (by simp[World.setRow]) ?_
  .simp only[a8r,au.row.injEq] at hh;obtain⟨rfl,rfl,hh⟩:=hh;have hh:=b1G hh;subst hh;exact⟨_,_,rfl,by simp⟩
  .refine⟨(l.take (i * τ.size)++x.cells.toList++l.drop (i * τ.size+τ.size)),⟨?_, .inr ⟨b,cap,_,by simpa using k1,Nat.zero_le _,setRow_heap w b cur _ e' _ hh,by simpa using OK,UI,?_,?_⟩⟩,?_,by simpa using m3⟩
   .rw[a9q,a8E,a8E,a9t,a9C,ns,WZ];omega
   .rw[b1O,a8E,a8E,a9t,a9C,ns,<-iY,<-a9k (xs:=cur)];omega
   .simp only[b0m,a9q];rw[Nw _ _ _ _ _ ns Bn Ar,U0]
   .rw[List.map_set];have:=cP.a3o hr (by rw[ns]) _ i m2 bW (by simpa using k3);refine cP.aE (λ _ h=>h) (λ k hk=>kc w hh k λ e=>?_) _ this;subst e;exact (h.place id _ k aL (by rw[k1];rfl)).2.1 hk
theorem Inv.CC(hE:bu c.P c.E)(h:Inv c G s a w){T:TypeId}{κ ε:Ty}(hT:af c.E.Jg T=some (κ,ε)){id:Nat}{f:κ.den->Option ε.den}{n:Nat}(aL:s.af id=some (.map ⟨κ,ε,f,n⟩))
  {k:κ.den} {x:ε.den} {p y z:Value} (hp:VR c G s.af w (.mp id) p) (hy:dv w G.S ⟨κ,k⟩ y) (hz:dv w G.S ⟨ε,x⟩ z) (hn:n<1000000000) :
  ∃ w',(Instr.mapUpdate T p y z).run c.P w = .ok () w'/\Inv c G { s with aC:=(id, .map ⟨κ,ε,fK f k x,gB (f k) n⟩)::bA id s.aC } a w':=by
 obtain⟨kT,eT,u1,u2,u3,u4,_⟩:=hE.map hT w;obtain⟨b,es,clock,k1,k2,k3⟩:=h.aC id _ aL;have sc:∀ {τ:Ty} {q:τ.den} {v:Value},τ.key=true->dv w G.S ⟨τ,q⟩ v->nN τ q v:=λ {τ q v} hs hv=>by
  refine nN.of (w:=w) (S:=G.S) hs ?_;cases τ with
  | int _=>exact hv
  | bool=>exact hv
  | str=>exact hv
  | _=>cases hs
 obtain⟨Sf,LC,m1,m2⟩:=k3.store (P:=c.P) u1 u2 k2 (sc u3 hy) (sc u4 hz) hn;obtain⟨SH,_⟩:=hp;refine⟨_,by rw[SH,k1];exact m1,?_⟩;have bO:ag.af { s with aC:=(id, .map ⟨κ,ε,fK f k x,gB (f k) n⟩)::bA id s.aC }=λ i=>if i=id then some (.map ⟨κ,ε,fK f k x,gB (f k) n⟩) else s.af i:=by
  funext i;show af ((id,_)::bA id s.aC) i=_;rw[de,dP];by_cases hi:i=id
  .simp[hi]
  .simp[hi];rfl
 unfold Inv;rw[bO];obtain⟨q1,q2⟩:=MapKept.heap_set (o' := .map Sf LC) k2;refine aV.Re h id _ _ b aL (by rw[k1];rfl) ⟨λ hh=>(by cases hh),(λ e τ xs hh=>by cases hh),(λ hh=>by cases hh),λ _=>rfl⟩ rfl q2 rfl rfl rfl (by simp) ?_;exact⟨b,Sf,LC,k1,q1,m2⟩
theorem Inv.append(hE:bu c.P c.E)(h:Inv c G s a w){T:TypeId}{τ:Ty}{bt e id d:Nat}(hT:af c.E.ty T=some (.slice τ,bt,e)){xs ys:List τ.den}{y:AV}{v z:Value}(aL:s.af id=some (.row e τ xs))
  (hv:VR c G s.af w (.row id) v) (hz:VR c G s.af w y z) (hy:ic (HC s.af) (.slice τ) y=some ys) (yM:aX (xs.length+ys.length) bt) (ty:TypeId) :
  ∃ v' w' G',(Builtin.append_ #[T,T] ty #[v,z]).run c.P w = .ok v' w' /\
   Inv c G' { aw:=(s.bM id).aw.set d (.row id),aC:=(id, .row e τ (xs++ys))::bA id (s.bM id).aC } (a.put (some d) v') w':=by
 obtain⟨rfl,_,_⟩:=hv;have hzc:C1 c G s.af w y z:=by
  refine hz.P4 ?_;cases y with
  | aK u =>
   have e:=TV.aS hy;subst e;rfl
  | nil=>rfl
  | row i=>rfl
  | aA i=>rfl
  | _=>cases hy
 obtain⟨l,m1,m2,m3⟩:=h.aC id _ aL;obtain⟨v',w',news,k1,k2,k3,k4,k5,k6⟩:=JT (w:=w) (base:=0) hE hT m1 (a9l _) (VJ h.aC (BU λ _ _ h=>h) Td hy hzc) yM ty;have Au:=o7 m1;have a2W:=o7 k2;obtain⟨h1,h2,h3⟩:=h.clear id;have eG:∀ b,dt (G.η id)=some b->(c.w0.heap.size<=b\/c.X b)/\¬ G.S b/\b<w.heap.size:=λ b hb=>h.place id _ b aL hb;have hw:∀ b,b<w.heap.size->dt (G.η id)≠some b->w'.heap[b]?=w.heap[b]?:=λ b hb dh=>k3.block b hb (by rw[Au];exact λ e=>dh e.symm);have bQ:∀ b,St c G.S b->w'.heap[b]?=w.heap[b]?:=λ b hb=>by
  refine hw b ?_ λ e=>?_
  .rcases hb with hb|hb
   .exact h.dH b hb
   .exact a8B hb.1 h.aE.size
  .obtain⟨q1,q2,q3⟩:=eG b e;rcases hb with hb|hb
   .exact q2 hb
   .exact q1.elim (λ q=>by omega) hb.2.1
 have a6G:∀ j τ xs b,s.af j=some (.aA τ xs)->b∈G.φ j->w'.heap[b]?=w.heap[b]?:=λ j τ xs b hj hb =>
  hw b (h.aM.pl j τ xs b hj hb).2.2.1 ((h.aM.pl j τ xs b hj hb).2.2.2 id _ aL)
 have xA:∀ j o b,j≠id->s.af j=some o->dt (G.η j)=some b->w'.heap[b]?=w.heap[b]?:=λ j o b hj ho hb=>by
  refine hw b (h.place j o b ho hb).2.2 λ e=>?_;exact hj (h.apart j id o _ b ho aL hb e)
 have h4:aV c ⟨G.S,G.η,G.φ⟩ (s.bM id).sl s.aw.length (λ i=>if i=id then none else (s.bM id).af i) a w':=by
  refine h1.world (S':=G.S) ⟨k3.os,k3.tape,k3.output,k3.size,λ b hb hx=>hw b hb λ e=>hx (eG b e).1⟩ (λ _ h=>h) (λ _ _=>b0G) h1.sX (λ b hb=>a8B (h1.dH b hb) k3.size) bQ ?_ (λ j τ xs b hj hb=>by
   by_cases qD:j=id
   .simp[qD] at hj
   .rw[a8v qD,dF] at hj;exact a6G j τ xs b (gT hj) hb)
  intro j o b hj hb;by_cases qD:j=id
  .simp[qD] at hj
  .rw[a8v qD,dF] at hj;simp only[a8Z] at hj;obtain⟨o',cF,_⟩:=hj;exact xA j o' b qD cF hb
 have a4l:((xs++ys).length)=xs.length+ys.length:=by simp
 have h5:=aV.newObj h4 id (.row e τ (xs++ys)) v' (by simp) h2 (λ i p rQ=>by
  by_cases hi:i=id
  .simp[hi] at rQ
  .rw[if_neg hi] at rQ;exact h3 i p rQ) rfl ⟨l++news,by simpa using k2,by
    rw[a9F];exact cP.append _ _ (cP.aE (λ _ h=>h) (λ b hb=>bQ b (.inl hb)) _ m2) (cP.aE (λ _ h=>h) (λ b hb=>bQ b (.inl hb)) _ k5),by rw[a4l];exact k6⟩ rfl (.inl rfl) (λ b hb=>by
  have bm:=(k2.lt b (a2W.trans hb)).2;have QM:dt (G.η id)=some b\/b=w.heap.size:=by
   rw[<-a2W,] at hb;rcases k4 with q|q
   .left;rw[<-Au,<-q];exact hb
   .right;rw[q] at hb;exact (a9A hb).symm
  refine⟨?_,?_,bm,λ j p WW KN=>?_,λ j iS kG Hd KN=>?_⟩
  .rcases QM with q|q
   .exact (eG b q).1
   .have:=h.aE.size;omega
  .rcases QM with q|q
   .exact (eG b q).2.1
   .intro hs;have:=h.dH b hs;omega
  .by_cases qD:j=id
   .simp[qD] at WW
   .rw[a8v qD,dF] at WW;simp only[a8Z] at WW;obtain⟨o',cF,_⟩:=WW;rcases QM with q|q
    .exact qD (h.apart j id o' _ b cF aL KN q)
    .have:=(h.place j o' b cF KN).2.2;omega
  .by_cases qD:j=id
   .simp[qD] at Hd
   .rw[a8v qD,dF] at Hd;obtain⟨_,_,q3,q4⟩:=h.aM.pl j iS kG b (gT Hd) KN;rcases QM with q|q
    .exact q4 id _ aL q
    .omega)
 refine⟨v',w',⟨G.S,λ i=>if i=id then v' else G.η i,G.φ⟩,k1,?_⟩;unfold Inv;have bO:ag.af { aw:=(s.bM id).aw.set d (.row id),aC:=(id, .row e τ (xs++ys))::bA id (s.bM id).aC }=λ i=>if i=id then some (.row e τ (xs++ys)) else (if i=id then none else (s.bM id).af i):=by
  funext i;show af (_::bA id (s.bM id).aC) i=_;rw[de,dP];rfl
 have Aw:ag.sl { aw:=(s.bM id).aw.set d (.row id),aC:=(id, .row e τ (xs++ys))::bA id (s.bM id).aC }=iu s.aw.length (s.bM id).sl (some d) (.row id):=by
  have:=nJ (s.bM id).aw d (.row id) ((id, .row e τ (xs++ys))::bA id (s.bM id).aC);rw[show (s.bM id).aw.length=s.aw.length from by simp[ag.bM]] at this;exact this
 rw[Aw,bO,show ({ aw:=(s.bM id).aw.set d (.row id),aC:=(id, .row e τ (xs++ys))::bA id (s.bM id).aC }:ag).aw.length=s.aw.length from by simp[ag.bM]];refine aV.put h5 ⟨by simp,by simp[isRow],?_⟩;rcases k2.2 with ⟨rfl,_⟩|⟨g,cap,cur,rfl,_⟩
 .exact⟨_,_,_,rfl⟩
 .exact⟨_,_,_,rfl⟩
end
end Go.Proofs.YtncejbehidimmaaGreatDoor

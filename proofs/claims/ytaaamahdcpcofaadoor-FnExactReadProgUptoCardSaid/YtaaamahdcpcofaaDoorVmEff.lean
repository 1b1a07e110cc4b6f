/- VmTypes, VmCore, VmRead, VmOwn, VmMap, VmInv, VmEnv, VmVals, VmRuns, VmMake, VmOps, VmEff. -/
import Derived.KernelRfl
import GoSem.Claim
import Derived.Orders
import Derived.Laws.AppendOwn
import Derived.Laws.OwnMore
import Derived.Below
import Derived.MapKept
import Derived.Calls
import Derived.Laws.Cells
import Derived.Laws.Slices
import Derived.Laws.Strings
import Derived.Maps.AppendAt
import Derived.IntWalk
import Derived.Laws.Small
import Derived.Laws.CopyRow
import Derived.Lib.Strings
set_option linter.all false
namespace Go.Proofs.YtaaamahdcpcofaaDoor
def a2W:=@Option.bind_eq_some_iff
def a1w:=@Option.some.injEq
def a2p:=@List.map_cons
def a3K:=@List.map_nil
def a1C:=@List.cons.injEq
def a1H:=@and_true
def a4e:=@Go.World.cell?_of_block
def a2C:=@Nat.add_mul
def a1T:=@List.length_append
def a1M:=@List.length_cons
def a2M:=@List.getElem?_append_left
def a2a:=@List.getElem?_eq_some_iff
def a4o:=@Nat.add_assoc
def a2B:=@Nat.lt_or_ge
def a3x:=@List.getElem?_append_right
def a3u:=@List.drop_eq_nil_of_le
def a2K:=@List.nil_append
def a3T:=@Nat.add_sub_cancel_left
def a1z:=@Bool.and_eq_true
def a3n:=@List.drop_drop
def a3E:=@List.drop_left
def a4V:=@List.take_append
def a2F:=@List.take_of_length_le
def a4E:=@Nat.zero_mul
def a3Q:=@List.drop_zero
def a3F:=@List.take_left
def a3R:=@List.take_zero
def a3j:=@Nat.zero_add
def a5z:=@List.set_cons_zero
def a2A:=@List.mem_of_getElem?
def a2w:=@Go.run_underlying
def a3Z:=@Go.MapKept.run_getObj_map
def a4y:=@List.getElem?_cons_zero
def a4u:=@List.pairwise_cons
def a4P:=@Array.toList_push
def a2g:=@List.mem_singleton
def a1A:=@List.mem_append
def a4z:=@List.ext_getElem?
def a4Q:=@List.getElem?_set
def a1S:=@if_pos
def a3C:=@List.getElem_of_mem
def a4f:=@List.getElem_mem
def a2u:=@Nat.le_refl
def a4a:=@Nat.le_trans
def a2c:=@Nat.lt_of_lt_of_le
def a1N:=@List.mem_cons
def a3G:=@Iff.rfl
def a2f:=@Array.getD_eq_getD_getElem?
def a4I:=@Array.getElem?_setIfInBounds
def a2r:=@Option.map_eq_some_iff
def a1B:=@if_neg
def a3z:=@if_true
def a1x:=@Nat.eq_of_beq_eq_true
def a2d:=@of_decide_eq_true
def a3v:=@Go.Addr.add_lit
def a2h:=@Go.Sem.run_bind
def a2i:=@Go.Sem.run_pure
def a1U:=@Go.Result.andThen_ok
def a3w:=@Nat.add_zero
def a2D:=@List.eq_nil_of_length_eq_zero
def a2X:=@Go.Value.tuple.injEq
def a4g:=@List.toArray_inj
def a2m:=@List.getElem?_eq_getElem
def a3M:=@Option.some.inj
def a2e:=@List.all_eq_true
def a3h:=@List.drop_eq_getElem_cons
def a2n:=@Nat.le_of_ble_eq_true
def a3f:=@List.length_take
def a2H:=@List.length_drop
def a2Z:=@List.getElem?_take
def a3V:=@List.getElem?_drop
def a1D:=@List.mem_map
def a4p:=@Go.Value.pointer.injEq
def a3y:=@Go.Addr.mk.injEq
def a5c:=@eq_of_heq
def a1E:=@Int.toNat_natCast
def a1y:=@Prod.mk.injEq
def a5v:=@Go.ByteArray.toList_eq
def a4r:=@Bool.eq_iff_iff
def a4R:=@Go.eqGuard_at_string
def a2y:=@Array.length_toList
def a2x:=@Array.getElem?_eq_getElem
def a5d:=@Go.Value.agg.injEq
def a5m:=@Array.ext'
def a1G:=@Bool.false_eq_true
def a4J:=@if_false
def a3t:=@List.take_succ_cons
def a4s:=@List.foldl_cons
def a2t:=@List.append_assoc
def a2b:=@List.length_nil
def a4W:=@List.take_length
def a2O:=@List.append_nil
def a4h:=@List.replicate_succ'
def a2J:=@List.length_map
def a4S:=@List.flatMap_cons
def a5s:=@List.sum_cons
def a4F:=@Option.map_none
def a5e:=@Option.map_some
def a5i:=@Go.run_sliceBound
def a3g:=@Nat.zero_le
def a4b:=@Go.heap_alloc_new
def a3A:=@Nat.mul_le_mul_right
def a5A:=@List.map_replicate
def a1F:=@decide_eq_true_eq
def a4x:=@List.mapM_cons
def a2G:=@Array.toArray_toList
def a3d:=@List.getElem?_map
def a3o:=@Go.Value.slice.injEq
def a4K:=@List.drop_take
def a3H:=@Array.toList_map
def a2j:=@List.getD_eq_getElem?_getD
def a3W:=@Array.eq_empty_of_size_eq_zero
def a5B:=@Go.setRow_heap
def a3r:=@List.length_set
def a4v:=@List.map_set
def a3s:=@List.map_append
def R1:List Nat:=[]
inductive D where
 | int (k:IntKind) (n:Int)
 | bool (b:Bool)
 | str (s:List UInt8)
 | slice (n:Nat) (xs:List D)
 | agg (xs:List D)
 | hole
 | ptr
def XA{α:Type}(n:Nat)(f:α->D):Option (List α)->D
 | none => .hole
 | some l => .slice n (l.map f)
inductive aM where
 | sig
 | expr
 | oExpr
 | prog
 | reader
 | l01Reader
 deriving DecidableEq
inductive Ty where
 | int (k:IntKind)
 | bool
 | str
 | slice (t:Ty)
 | st (s:aM)
 | mv (t:Ty)
 | ptr
 deriving DecidableEq
structure bb where
 bw:Int
 aO:Int
structure M where
 af:Int
 al:Int
 J:List (M)
structure po where
 af:Int
 al:Int
 J:Option (List (M))
structure ai where
 af:Int
 al:Int
 cond:M
 J:List (ai)
structure nm where
 text:List UInt8
 PJ:Int
structure gP where
 text:List UInt8
 PJ:Int
 Bw:Int
 bad:Bool
@[reducible] def aM.den:aM->Type
 | .sig=>bb
 | .expr=>M
 | .oExpr=>po
 | .prog=>ai
 | .reader=>nm
 | .l01Reader=>gP
@[reducible] def Ty.den:Ty->Type
 | .int _=>Int
 | .bool=>Bool
 | .str=>List UInt8
 | .slice t=>List t.den
 | .st s=>s.den
 | .mv t=>Option (List t.den)
 | .ptr=>Unit
structure TV where
 τ:Ty
 x:τ.den
def TV.Z9(τ:Ty)(v:TV):Option τ.den:=if h:v.τ=τ then some (h ▸ v.x) else none
theorem TV.aX{τ:Ty}{v:TV}{x:τ.den}(h:v.Z9 τ=some x):v=⟨τ,x⟩:=by
 unfold TV.Z9 at h
 split at h
 .rename_i e
  subst e
  cases v
  simp at h
  subst h
  rfl
 .cases h
@[simp] theorem TV.RK(τ:Ty)(x:τ.den):TV.Z9 τ ⟨τ,x⟩=some x:=by simp[TV.Z9]
def aM.fields:(s:aM)->s.den->List TV
 | .sig,x=>[⟨.int .i64,x.bw⟩,⟨.int .i64,x.aO⟩]
 | .expr,x=>[⟨.int .i64,x.af⟩,⟨.int .i64,x.al⟩,⟨.slice (.st .expr),x.J⟩]
 | .oExpr,x=>[⟨.int .i64,x.af⟩,⟨.int .i64,x.al⟩,⟨.mv (.st .expr),x.J⟩]
 | .prog,x=>[⟨.int .i64,x.af⟩,⟨.int .i64,x.al⟩,⟨.st .expr,x.cond⟩,⟨.slice (.st .prog),x.J⟩]
 | .reader,x=>[⟨.str,x.text⟩,⟨.int .i64,x.PJ⟩]
 | .l01Reader,x=>[⟨.str,x.text⟩,⟨.int .i64,x.PJ⟩,⟨.int .i64,x.Bw⟩,⟨.bool,x.bad⟩]
def aM.cells:(s:aM)->s.den->List TV
 | .sig,x=>[⟨.int .i64,x.bw⟩,⟨.int .i64,x.aO⟩]
 | .expr,x=>[⟨.int .i64,x.af⟩,⟨.int .i64,x.al⟩,⟨.slice (.st .expr),x.J⟩]
 | .oExpr,x=>[⟨.int .i64,x.af⟩,⟨.int .i64,x.al⟩,⟨.mv (.st .expr),x.J⟩]
 | .prog,x=>[⟨.int .i64,x.af⟩,⟨.int .i64,x.al⟩,⟨.int .i64,x.cond.af⟩,⟨.int .i64,x.cond.al⟩,⟨.slice (.st .expr),x.cond.J⟩,⟨.slice (.st .prog),x.J⟩]
 | .reader,x=>[⟨.str,x.text⟩,⟨.int .i64,x.PJ⟩]
 | .l01Reader,x=>[⟨.str,x.text⟩,⟨.int .i64,x.PJ⟩,⟨.int .i64,x.Bw⟩,⟨.bool,x.bad⟩]
def aM.size:aM->Nat
 | .sig=>2
 | .expr=>3
 | .oExpr=>3
 | .prog=>6
 | .reader=>2
 | .l01Reader=>4
def aM.uF:aM->List Ty
 | .sig=>[.int .i64, .int .i64]
 | .expr=>[.int .i64, .int .i64, .slice (.st .expr)]
 | .oExpr=>[.int .i64, .int .i64, .mv (.st .expr)]
 | .prog=>[.int .i64, .int .i64, .int .i64, .int .i64, .slice (.st .expr), .slice (.st .prog)]
 | .reader=>[.str, .int .i64]
 | .l01Reader=>[.str, .int .i64, .int .i64, .bool]
def aM.jd:aM->List Ty
 | .sig=>[.int .i64, .int .i64]
 | .expr=>[.int .i64, .int .i64, .slice (.st .expr)]
 | .oExpr=>[.int .i64, .int .i64, .mv (.st .expr)]
 | .prog=>[.int .i64, .int .i64, .st .expr, .slice (.st .prog)]
 | .reader=>[.str, .int .i64]
 | .l01Reader=>[.str, .int .i64, .int .i64, .bool]
def aM.ka:(s:aM)->List TV->Option s.den
 | .sig,[a0,a1]=>(a0.Z9 (.int .i64)).bind λ b0=>(a1.Z9 (.int .i64)).bind λ b1=>some (bb.mk b0 b1)
 | .expr,[a0,a1,a2]=>(a0.Z9 (.int .i64)).bind λ b0=>(a1.Z9 (.int .i64)).bind λ b1=>(a2.Z9 (.slice (.st .expr))).bind λ b2=>some (M.mk b0 b1 b2)
 | .oExpr,[a0,a1,a2]=>(a0.Z9 (.int .i64)).bind λ b0=>(a1.Z9 (.int .i64)).bind λ b1=>(a2.Z9 (.mv (.st .expr))).bind λ b2=>some (po.mk b0 b1 b2)
 | .prog,[a0,a1,a2,a3,a4,a5]=>(a0.Z9 (.int .i64)).bind λ b0=>(a1.Z9 (.int .i64)).bind λ b1=>(a2.Z9 (.int .i64)).bind λ b2=>(a3.Z9 (.int .i64)).bind λ b3=>(a4.Z9 (.slice (.st .expr))).bind λ b4=>(a5.Z9 (.slice (.st .prog))).bind λ b5=>some (ai.mk b0 b1 (M.mk b2 b3 b4) b5)
 | .reader,[a0,a1]=>(a0.Z9 (.str)).bind λ b0=>(a1.Z9 (.int .i64)).bind λ b1=>some (nm.mk b0 b1)
 | .l01Reader,[a0,a1,a2,a3]=>(a0.Z9 (.str)).bind λ b0=>(a1.Z9 (.int .i64)).bind λ b1=>(a2.Z9 (.int .i64)).bind λ b2=>(a3.Z9 (.bool)).bind λ b3=>some (gP.mk b0 b1 b2 b3)
 | _,_=>none
theorem aM.pj:∀ {s:aM} {l:List TV} {x:s.den},s.ka l=some x->s.cells x=l:=by
 intro s l x h
 cases s
 case sig =>
  match l,h with
  | [a0,a1],h =>
   simp only[aM.ka,a2W,a1w] at h
   obtain⟨b0,h0,⟨b1,h1,rfl⟩⟩:=h
   have e0:=TV.aX h0;have e1:=TV.aX h1
   subst e0 e1
   rfl
 case expr =>
  match l,h with
  | [a0,a1,a2],h =>
   simp only[aM.ka,a2W,a1w] at h
   obtain⟨b0,h0,⟨b1,h1,⟨b2,h2,rfl⟩⟩⟩:=h
   have e0:=TV.aX h0;have e1:=TV.aX h1;have e2:=TV.aX h2
   subst e0 e1 e2
   rfl
 case oExpr =>
  match l,h with
  | [a0,a1,a2],h =>
   simp only[aM.ka,a2W,a1w] at h
   obtain⟨b0,h0,⟨b1,h1,⟨b2,h2,rfl⟩⟩⟩:=h
   have e0:=TV.aX h0;have e1:=TV.aX h1;have e2:=TV.aX h2
   subst e0 e1 e2
   rfl
 case prog =>
  match l,h with
  | [a0,a1,a2,a3,a4,a5],h =>
   simp only[aM.ka,a2W,a1w] at h
   obtain⟨b0,h0,⟨b1,h1,⟨b2,h2,⟨b3,h3,⟨b4,h4,⟨b5,h5,rfl⟩⟩⟩⟩⟩⟩:=h
   have e0:=TV.aX h0;have e1:=TV.aX h1;have e2:=TV.aX h2;have e3:=TV.aX h3;have e4:=TV.aX h4;have e5:=TV.aX h5
   subst e0 e1 e2 e3 e4 e5
   rfl
 case reader =>
  match l,h with
  | [a0,a1],h =>
   simp only[aM.ka,a2W,a1w] at h
   obtain⟨b0,h0,⟨b1,h1,rfl⟩⟩:=h
   have e0:=TV.aX h0;have e1:=TV.aX h1
   subst e0 e1
   rfl
 case l01Reader =>
  match l,h with
  | [a0,a1,a2,a3],h =>
   simp only[aM.ka,a2W,a1w] at h
   obtain⟨b0,h0,⟨b1,h1,⟨b2,h2,⟨b3,h3,rfl⟩⟩⟩⟩:=h
   have e0:=TV.aX h0;have e1:=TV.aX h1;have e2:=TV.aX h2;have e3:=TV.aX h3
   subst e0 e1 e2 e3
   rfl
theorem aM.ki(s:aM)(x:s.den):(s.cells x).length=s.size:=by cases s<;>rfl
theorem aM.rT(s:aM)(x:s.den):(s.cells x).map TV.τ=s.uF:=by cases s<;>rfl
theorem aM.wg(s:aM)(x:s.den):(s.fields x).map TV.τ=s.jd:=by cases s<;>rfl
def Ty.size:Ty->Nat
 | .st s=>s.size
 | _=>1
def TV.cells(v:TV):List TV :=
 match v with
 | ⟨.st s,x⟩=>s.cells x
 | v=>[v]
theorem aM.DP(s:aM)(x:s.den):s.cells x=(s.fields x).flatMap TV.cells:=by cases s<;>rfl
def bb.aT(x:bb):D := .agg [.int .i64 x.bw, .int .i64 x.aO]
mutual
def M.aT:M->D
 | ⟨af,al,J⟩ => .agg [.int .i64 af, .int .i64 al, .slice 3 (M.MU J)]
def M.MU:List M->List D
 | []=>[]
 | e::r=>e.aT::M.MU r
end
theorem M.tq:∀ l,M.MU l=l.map M.aT
 | []=>rfl
 | _::r=>congrArg _ (M.tq r)
def po.aT(x:po):D := .agg [.int .i64 x.af, .int .i64 x.al,XA 3 (λ y=>M.aT y) x.J]
mutual
def ai.aT:ai->D
 | ⟨af,al,cond,J⟩ => .agg [.int .i64 af, .int .i64 al, .int .i64 cond.af, .int .i64 cond.al, .slice 3 (cond.J.map λ y=>M.aT y), .slice 6 (ai.MU J)]
def ai.MU:List ai->List D
 | []=>[]
 | e::r=>e.aT::ai.MU r
end
theorem ai.tq:∀ l,ai.MU l=l.map ai.aT
 | []=>rfl
 | _::r=>congrArg _ (ai.tq r)
def nm.aT(x:nm):D := .agg [.str x.text, .int .i64 x.PJ]
def gP.aT(x:gP):D := .agg [.str x.text, .int .i64 x.PJ, .int .i64 x.Bw, .bool x.bad]
def aM.aT:(s:aM)->s.den->D
 | .sig,x=>bb.aT x
 | .expr,x=>M.aT x
 | .oExpr,x=>po.aT x
 | .prog,x=>ai.aT x
 | .reader,x=>nm.aT x
 | .l01Reader,x=>gP.aT x
def Ty.aT:(t:Ty)->t.den->D
 | .int k,n => .int k n
 | .bool,b => .bool b
 | .str,s => .str s
 | .slice t,xs => .slice t.size (xs.map t.aT)
 | .st s,x=>s.aT x
 | .mv t,o=>XA t.size t.aT o
 | .ptr,_ => .ptr
def TV.aT(v:TV):D:=v.τ.aT v.x
theorem aM.cq(s:aM)(x:s.den):s.aT x = .agg ((s.cells x).map TV.aT):=by
 cases s<;>first
  | rfl
  | (cases x;simp[aM.aT,M.aT,aM.cells,TV.aT,Ty.aT,Ty.size,aM.size,M.tq];done)
  | (cases x;simp[aM.aT,ai.aT,aM.cells,TV.aT,Ty.aT,Ty.size,aM.size,ai.tq];done)
  | (simp[aM.aT,aM.cells,TV.aT,Ty.aT,Ty.size,aM.size,bb.aT,M.aT,po.aT,ai.aT,nm.aT,gP.aT,M.tq,ai.tq];done)
def aM.zero:(s:aM)->s.den
 | .sig=>(bb.mk 0 0)
 | .expr=>(M.mk 0 0 [])
 | .oExpr=>(po.mk 0 0 none)
 | .prog=>(ai.mk 0 0 (M.mk 0 0 []) [])
 | .reader=>(nm.mk [] 0)
 | .l01Reader=>(gP.mk [] 0 0 false)
def Ty.zero:(t:Ty)->t.den
 | .int _=>(0:Int)
 | .bool=>false
 | .str=>([]:List UInt8)
 | .slice _=>[]
 | .st s=>s.zero
 | .mv _=>none
 | .ptr=>()
instance:Inhabited bb:=⟨aM.zero .sig⟩
theorem bb.eta(x:bb):bb.mk x.bw x.aO=x:=by cases x;rfl
instance:Inhabited M:=⟨aM.zero .expr⟩
theorem M.eta(x:M):M.mk x.af x.al x.J=x:=by cases x;rfl
instance:Inhabited po:=⟨aM.zero .oExpr⟩
theorem po.eta(x:po):po.mk x.af x.al x.J=x:=by cases x;rfl
instance:Inhabited ai:=⟨aM.zero .prog⟩
theorem ai.eta(x:ai):ai.mk x.af x.al x.cond x.J=x:=by cases x;rfl
instance:Inhabited nm:=⟨aM.zero .reader⟩
theorem nm.eta(x:nm):nm.mk x.text x.PJ=x:=by cases x;rfl
instance:Inhabited gP:=⟨aM.zero .l01Reader⟩
theorem gP.eta(x:gP):gP.mk x.text x.PJ x.Bw x.bad=x:=by cases x;rfl
def bH(x:M):M:=M.mk x.af x.al x.J
theorem aG(x:M):bH x=x:=by cases x;simp[bH]
def ak(x:ai):ai:=ai.mk x.af x.al (bH x.cond) x.J
theorem bo(x:ai):ak x=x:=by cases x;simp[ak,aG]
theorem aM.RV:∀ (s:aM) (fl:List TV),fl.map TV.τ=s.jd->∃ x,s.fields x=fl
 | .sig,fl,h=>by
  match fl,h with
  | [⟨t0,a0⟩,⟨t1,a1⟩],h =>
   simp only[a2p,a3K,aM.jd,a1C,a1H] at h
   obtain⟨rfl,rfl⟩:=h
   exact⟨⟨a0,a1⟩,rfl⟩
 | .expr,fl,h=>by
  match fl,h with
  | [⟨t0,a0⟩,⟨t1,a1⟩,⟨t2,a2⟩],h =>
   simp only[a2p,a3K,aM.jd,a1C,a1H] at h
   obtain⟨rfl,rfl,rfl⟩:=h
   exact⟨⟨a0,a1,a2⟩,rfl⟩
 | .oExpr,fl,h=>by
  match fl,h with
  | [⟨t0,a0⟩,⟨t1,a1⟩,⟨t2,a2⟩],h =>
   simp only[a2p,a3K,aM.jd,a1C,a1H] at h
   obtain⟨rfl,rfl,rfl⟩:=h
   exact⟨⟨a0,a1,a2⟩,rfl⟩
 | .prog,fl,h=>by
  match fl,h with
  | [⟨t0,a0⟩,⟨t1,a1⟩,⟨t2,a2⟩,⟨t3,a3⟩],h =>
   simp only[a2p,a3K,aM.jd,a1C,a1H] at h
   obtain⟨rfl,rfl,rfl,rfl⟩:=h
   exact⟨⟨a0,a1,a2,a3⟩,rfl⟩
 | .reader,fl,h=>by
  match fl,h with
  | [⟨t0,a0⟩,⟨t1,a1⟩],h =>
   simp only[a2p,a3K,aM.jd,a1C,a1H] at h
   obtain⟨rfl,rfl⟩:=h
   exact⟨⟨a0,a1⟩,rfl⟩
 | .l01Reader,fl,h=>by
  match fl,h with
  | [⟨t0,a0⟩,⟨t1,a1⟩,⟨t2,a2⟩,⟨t3,a3⟩],h =>
   simp only[a2p,a3K,aM.jd,a1C,a1H] at h
   obtain⟨rfl,rfl,rfl,rfl⟩:=h
   exact⟨⟨a0,a1,a2,a3⟩,rfl⟩
abbrev zE:M:=M.mk (0:Int) (0:Int) []
abbrev zP:ai:=ai.mk (0:Int) (0:Int) (M.mk (0:Int) (0:Int) []) []
end Go.Proofs.YtaaamahdcpcofaaDoor

namespace Go.Proofs.YtaaamahdcpcofaaDoor
noncomputable section
@[reducible] def FN:List Ty->Ty->Type
 | [],r=>Prop×r.den
 | t::ts,r=>t.den->FN ts r
structure FV where
 ps:List Ty
 r:Ty
 F:FN ps r
def FV.Z9(ps:List Ty)(r:Ty)(v:FV):Option (FN ps r):=if h:v.ps=ps then (if k:v.r=r then some (h ▸ k ▸ v.F) else none) else none
theorem FV.aX{ps:List Ty}{r:Ty}{v:FV}{F:FN ps r}(h:v.Z9 ps r=some F):v=⟨ps,r,F⟩:=by
 unfold FV.Z9 at h
 split at h
 .split at h
  .rename_i e k
   obtain⟨ps',r',F'⟩:=v
   simp only at e k
   subst e k
   simp at h
   subst h
   rfl
  .cases h
 .cases h
@[simp] theorem FV.RK(ps:List Ty)(r:Ty)(F:FN ps r):FV.Z9 ps r ⟨ps,r,F⟩=some F:=by simp[FV.Z9]
structure MV where
 κ:Ty
 ε:Ty
 f:κ.den->Option ε.den
 n:Nat
def MV.Z9(κ ε:Ty)(m:MV):Option ((κ.den->Option ε.den)×Nat):=if h:m.κ=κ then (if k:m.ε=ε then some (h ▸ k ▸ (m.f,m.n)) else none) else none
theorem MV.aX{κ ε:Ty}{m:MV}{F:(κ.den->Option ε.den)×Nat}(h:m.Z9 κ ε=some F):m=⟨κ,ε,F.1,F.2⟩:=by
 unfold MV.Z9 at h
 split at h
 .split at h
  .rename_i e k
   obtain⟨XS,XR,f',n'⟩:=m
   simp only at e k
   subst e k
   simp at h
   subst h
   rfl
  .cases h
 .cases h
@[simp] theorem MV.RK(κ ε:Ty)(f:κ.den->Option ε.den)(n:Nat):MV.Z9 κ ε ⟨κ,ε,f,n⟩=some (f,n):=by simp[MV.Z9]
def Eb{α β:Type}(f:α->Option β)(k:α)(v:β):α->Option β:=λ x => @ite _ (x=k) (Classical.propDecidable _) (some v) (f x)
def JC{β:Type}(o:Option β)(n:Nat):Nat:=bif o.isSome then n else n+1
inductive AV where
 | any
 | eV
 | az (v:TV)
 | nil
 | gK (v:TV)
 | ptr (id off:Nat)
 | row (id:Nat)
 | fh (id i off:Nat)
 | agg (cs:List AV)
 | kr (vs:List AV)
 | fn (f:FuncId)
 | aq (id:Nat)
 | sub (id i off sz:Nat)
 | fL (id i off sz:Nat)
 | dw (f:FuncId) (cs:List AV)
 | jO (v:FV)
 | mp (id:Nat)
inductive au where
 | box (cs:List AV)
 | row (e:TypeId) (τ:Ty) (xs:List τ.den)
 | aq (τ:Ty) (xs:List τ.den)
 | map (m:MV)
structure ag where
 ar:List AV
 aC:List (Nat×au)
inductive Arg where
 | val (v:TV)
 | ref (v:TV)
 | fn (f:FuncId)
 | dw (v:FV)
 | own (v:TV)
 | box (k:Nat)
inductive CK where
 | d (τ:Ty)
 | o (τ:Ty)
 | p (k:Nat)
structure SK where
 ps:List (Option Nat)
 sh:List (List CK)
def ae{α:Type}:List (Nat×α)->Nat->Option α
 | [],_=>none
 | (k,v)::r,n=>match Nat.beq k n with
  | true=>some v
  | false=>ae r n
abbrev Vc:=Option Prop
def Vc.ok:Vc->Prop
 | .none=>True
 | .some p=>p
def Vc.and(v:Vc)(K:Prop):Prop:=match v with
 | .none=>K
 | .some p=>p/\K
theorem Vc.lO{v:Vc}{K:Prop}(h:v.and K):v.ok/\K:=by
 cases v with
 | none=>exact⟨trivial,h⟩
 | some p=>exact h
structure Aj where
 τ:Ty
 g:τ.den->Int->Vc×τ.den×Int
structure Bc where
 ps:List Ty
 r:Ty
 iw:List (Bool×Ty)
def Arg.Fu:Arg->Bool
 | .ref _ | .dw _ | .box _=>false
 | _=>true
inductive P5 where
 | box (cells:List TV)
 | row (e:TypeId) (τ:Ty) (xs:List τ.den)
structure Env where
 ty:List (Nat×Ty×Nat×Nat)
 SP:List (Nat×Ty)
 H6:Nat->List Arg->Option (Vc×List TV)
 wr:List Nat:=[]
 own:List Nat:=[]
 Hb:Nat->List Arg->Option (Vc×List TV):=λ _ _=>none
 mark:Nat->Option Aj:=λ _=>none
 dw:Nat->Option Bc:=λ _=>none
 ro:List Nat:=[]
 tk:Nat->List Bool:=λ _=>[]
 sk:Nat->Option SK:=λ _=>none
 Oq:Nat->List Arg->List (List TV)->Option (Vc×List TV×List (List TV)):=λ _ _ _=>none
 Q2:List (Nat×Ty×Ty):=[]
 Ml:Nat->List Arg->Option (Vc×P5):=λ _ _=>none
def ag.ae(s:ag)(id:Nat):Option au:=YtaaamahdcpcofaaDoor.ae s.aC id
def Li(k:IntKind)(n:Int):Bool :=
 match n with
 | .ofNat m=>match k with
  | .i64=>Nat.ble m 9223372036854775807
  | .u64=>Nat.ble m 18446744073709551615
  | .u8=>Nat.ble m 255
  | _=>Nat.ble m 127
 | .negSucc m=>match k with
  | .i64=>Nat.ble m 9223372036854775807
  | _=>false
def F7:Value->AV
 | .int k n=>match Li k n with
  | true => .az ⟨.int k,n⟩
  | false => .any
 | .bool b => .az ⟨.bool,b⟩
 | .string s=>match Nat.ble s.data.size 1000000 with
  | true => .az ⟨.str,s.data.toList⟩
  | false => .any
 | .slice none 0 0 => .nil
 | _ => .any
def Ql:Value->AV
 | .agg cs => .agg (cs.toList.map F7)
 | .tuple cs=>match Nat.beq cs.size 0 with
  | true => .eV
  | false => .any
 | v=>F7 v
def ag.eval(s:ag):Operand->AV
 | .tmp t=>s.ar.getD t .any
 | .const v=>Ql v
 | .func f => .fn f
 | .global _ => .any
def lG(lk:Nat->Option au)(τ:Ty):AV->Option τ.den
 | .az v=>v.Z9 τ
 | .nil=>match τ with
  | .slice _=>some []
  | _=>none
 | .row id=>match lk id with
  | some (.row _ aV xs)=>TV.Z9 τ ⟨.slice aV,xs⟩
  | _=>none
 | .aq id=>match lk id with
  | some (.aq aV xs)=>TV.Z9 τ ⟨.slice aV,xs⟩
  | _=>none
 | _=>none
def Ha(lk:Nat->Option au)(id:Nat):Option au:=match lk id with
 | some (.aq _ _)=>none
 | o=>o
def KZ(lk:Nat->Option au):List AV->List Ty->Option (List TV)
 | [],[]=>some []
 | c::cs,t::ts=>match lG lk t c with
  | some x=>match KZ lk cs ts with
   | some r=>some (⟨t,x⟩::r)
   | none=>none
  | none=>none
 | _,_=>none
def AQ(lk:Nat->Option au)(τ:Ty):AV->Option τ.den
 | .agg cs=>match τ with
  | .st s=>match KZ lk cs s.uF with
   | some l=>s.ka l
   | none=>none
  | _=>none
 | v=>lG lk τ v
def AV.cell:AV->Bool
 | .any | .eV | .agg _ | .kr _ | .sub .. | .fL .. | .dw .. | .jO .. => false
 | .az v=>match v.τ with
  | .st _=>false
  | _=>true
 | _=>true
def cellsOf(τ:Ty)(v:AV):Option (List AV) :=
 match τ with
 | .st s=>match v with
  | .az x=>match x.Z9 (.st s) with
   | some y=>some ((s.cells y).map .az)
   | none=>none
  | .agg cs=>match Nat.beq cs.length s.size&&cs.all AV.cell with
   | true=>some cs
   | false=>none
  | _=>none
 | _=>match v.cell with
  | true=>some [v]
  | false=>none
def CL(cs:List AV)(off:Nat)(τ:Ty):Option AV :=
 match τ with
 | .st s=>match Nat.ble (off+s.size) cs.length with
  | true=>some (.agg ((cs.drop off).take s.size))
  | false=>none
 | _=>cs[off]?
def putCells(cs:List AV)(off:Nat)(new:List AV):Option (List AV) :=
 match Nat.ble (off+new.length) cs.length with
 | true=>some (cs.take off++(new++cs.drop (off+new.length)))
 | false=>none
def TV.part(v:TV)(off:Nat)(τ:Ty):Option TV :=
 match Nat.beq off 0&&decide (v.τ=τ) with
 | true=>some v
 | false=>match v.cells[off]? with
  | some u=>match decide (u.τ=τ) with
   | true=>some u
   | false=>none
  | none=>none
def sG(lk:Nat->Option au)(τ:Ty):AV->Option AV
 | .gK v=>match decide (v.τ=τ) with
  | true=>some (.az v)
  | false=>none
 | .ptr id off=>match lk id with
  | some (.box cs)=>CL cs off τ
  | _=>none
 | .fh id i off=>match lk id with
  | some (.row _ aV xs)=>match TV.part ⟨aV,xs.getD i aV.zero⟩ off τ with
   | some u=>some (.az u)
   | none=>none
  | _=>none
 | _=>none
def deref(lk:Nat->Option au)(τ:Ty)(v:AV):Option τ.den :=
 match sG lk τ v with
 | some u=>AQ lk τ u
 | none=>none
def aM.gF(s:aM)(i:Nat):Nat:=((s.jd.take i).map Ty.size).sum
def zeroCell(τ:Ty):AV :=
 match τ with
 | .slice _ => .nil
 | τ => .az ⟨τ,τ.zero⟩
def zeroCells(τ:Ty):List AV :=
 match τ with
 | .st s=>s.uF.map zeroCell
 | τ=>[zeroCell τ]
def zj(lk:Nat->Option au):List (Bool×Ty)->List AV->Option (List Arg)
 | [],[]=>some []
 | (true,τ)::ks,v::vs=>match deref lk τ v with
  | some x=>match zj lk ks vs with
   | some r=>some (.ref ⟨τ,x⟩::r)
   | none=>none
  | none=>none
 | (false,τ)::ks,v::vs=>match AQ lk τ v with
  | some x=>match zj lk ks vs with
   | some r=>some (.val ⟨τ,x⟩::r)
   | none=>none
  | none=>none
 | _,_=>none
def Lc(E:Env)(f:FuncId)(iw:List Arg):(ps:List Ty)->(r:Ty)->List Arg->FN ps r
 | [],r,acc=>match E.H6 f (acc++iw) with
  | some (pre,[v])=>match v.Z9 r with
   | some y=>(pre.ok,y)
   | none=>(False,r.zero)
  | _=>(False,r.zero)
 | t::ts,r,acc=>λ x=>Lc E f iw ts r (acc++[.val ⟨t,x⟩])
def tx:(ps:List Ty)->(r:Ty)->FN ps r->List Arg->Option (Prop×r.den)
 | [],_,F,[]=>some F
 | t::ts,r,F, .val a::zs=>match a.Z9 t with
  | some x=>tx ts r (F x) zs
  | none=>none
 | _,_,_,_=>none
def F9(E:Env)(lk:Nat->Option au):AV->Option FV
 | .dw f cs=>match E.dw f with
  | some k=>match zj lk k.iw cs with
   | some Z9=>some ⟨k.ps,k.r,Lc E f Z9 k.ps k.r []⟩
   | none=>none
  | none=>none
 | .jO v=>some v
 | .fn f=>match E.dw f with
  | some k=>match k.iw with
   | []=>some ⟨k.ps,k.r,Lc E f [] k.ps k.r []⟩
   | _=>none
  | none=>none
 | _=>none
def KX(E:Env)(lk:Nat->Option au)(T:TypeId)(v:AV):Option Arg :=
 match ae E.ty T with
 | some (τ,_)=>match AQ lk τ v with
  | some x=>some (.val ⟨τ,x⟩)
  | none=>none
 | none=>match ae E.SP T with
  | some τ=>match deref lk τ v with
   | some x=>some (.ref ⟨τ,x⟩)
   | none=>none
  | none=>match F9 E lk v with
   | some q=>some (.dw q)
   | none=>match v with
    | .fn f=>some (.fn f)
    | _=>none
def nX(E:Env)(lk:Nat->Option au):List TypeId->List AV->Option (List Arg)
 | [],[]=>some []
 | T::Ts,v::vs=>match KX E lk T v with
  | some x=>match nX E lk Ts vs with
   | some r=>some (x::r)
   | none=>none
  | none=>none
 | _,_=>none
def zW:List TV->AV
 | [v] => .az v
 | vs => .kr (vs.map .az)
def ah(n:Int):Prop := -9223372036854775808<=n/\n<=9223372036854775807
def dD(k:IntKind)(n:Int):Prop :=
 match k with
 | .i64=>ah n
 | k=>k.min<=n/\n<=k.max
def aZ(n:Int)(len:Nat):Prop:=0<=n/\n<(len:Int)
def eM(l h:Int)(len:Nat):Prop:=0<=l/\l<=h/\h<=(len:Int)
def j0(n m:Int)(b:Nat):Prop:=0<=n/\n<=m/\m * ((b:Int)+1)<=140737488355328
def fI(n b:Nat):Prop:=n * (b+1)<=140737488355328
def arith(op:BinOp)(k:IntKind)(a b:Int):Option (Vc×Int) :=
 match op with
 | .add=>match k with
  | .u64=>some (.none,IntKind.u64.wrap (a+b))
  | k=>some (.some (dD k (a+b)),a+b)
 | .sub=>some (.some (dD k (a - b)),a - b)
 | .mul=>match k with
  | .u64=>some (.none,IntKind.u64.wrap (a * b))
  | k=>some (.some (dD k (a * b)),a * b)
 | .quo=>some (.some (b≠0/\dD k (a.tdiv b)),a.tdiv b)
 | .rem=>some (.some (b≠0/\dD k (a.tmod b)),a.tmod b)
 | .shl=>some (.some (0<=b/\b<k.bits/\dD k (a * 2 ^ b.toNat)),a * 2 ^ b.toNat)
 | .shr=>some (.some (0<=b/\b<k.bits/\dD k (a.fdiv (2 ^ b.toNat))),a.fdiv (2 ^ b.toNat))
 | .and=>some (.some (0<=a/\0<=b/\dD k a/\dD k b),((a.toNat &&& b.toNat:Nat):Int))
 | _=>none
def cmp(op:BinOp)(a b:Int):Option Bool :=
 match op with
 | .eql=>some (decide (a=b))
 | .neq=>some (!decide (a=b))
 | .lss=>some (decide (a<b))
 | .leq=>some (decide (a<=b))
 | .gtr=>some (decide (b<a))
 | .geq=>some (decide (b<=a))
 | _=>none
def ON(wr:Bool)(op:BinOp)(k:IntKind)(a b:Int):Option (Vc×Int) :=
 match wr with
 | true=>match op with
  | .add=>some (.none,k.wrap (a+b))
  | .sub=>some (.none,k.wrap (a - b))
  | .mul=>some (.none,k.wrap (a * b))
  | op=>arith op k a b
 | false=>arith op k a b
def RM(tb wr:Bool)(op:BinOp)(u v:AV):Option (Vc×AV) :=
 match u,v with
 | .az ⟨.int k,a⟩, .az ⟨.int k',b⟩=>match ON wr op k a b with
  | some (p,r)=>match op with
   | .shl | .shr=>some (p, .az ⟨.int k,r⟩)
   | _=>match decide (k=k') with
    | true=>some (p, .az ⟨.int k,r⟩)
    | false=>none
  | none=>match decide (k=k') with
   | true=>match cmp op a b with
    | some c=>some (.none, .az ⟨.bool,c⟩)
    | none=>none
   | false=>none
 | .az ⟨.bool,a⟩, .az ⟨.bool,b⟩=>match tb with
  | true=>match op with
   | .eql=>some (.none, .az ⟨.bool,a == b⟩)
   | .neq=>some (.none, .az ⟨.bool,!(a == b)⟩)
   | _=>none
  | false=>none
 | .az ⟨.str,a⟩, .az ⟨.str,b⟩=>match op with
  | .eql=>some (.none, .az ⟨.bool,decide (a=b)⟩)
  | .neq=>some (.none, .az ⟨.bool,!decide (a=b)⟩)
  | .add=>some (.some (a.length+b.length<=140737488355328), .az ⟨.str,a++b⟩)
  | _=>none
 | _,_=>none
def partsOf(E:Env)(s:aM)(cs:List AV):List (Nat×AV)->Option (List AV)
 | []=>some cs
 | (i,v)::r=>match s.jd[i]? with
  | some τ=>match cellsOf τ v with
   | some new=>match putCells cs (s.gF i) new with
    | some dV=>partsOf E s dV r
    | none=>none
   | none=>none
  | none=>none
def sT(τ:Ty):Nat->List (Nat×AV)->Option (List τ.den)
 | _,[]=>some []
 | n,(
    i,v)::r=>match Nat.beq i n with
  | true=>match AQ (λ _=>none) τ v with
   | some x=>match sT τ (n+1) r with
    | some xs=>some (x::xs)
    | none=>none
   | none=>none
  | false=>none
def TV.flat(v:TV):Bool:=v.cells.all λ u=>match u.τ with
 | .slice _=>false
 | .mv _=>false
 | _=>true
def qO(d:Int):Option AV->Option Int
 | none=>some d
 | some (.az ⟨.int _,n⟩)=>some n
 | _=>none
def sH(lk:Nat->Option au)(id:Nat):Option au:=match lk id with
 | some (.box cs)=>some (.box cs)
 | _=>none
def CE(E:Env)(lk:Nat->Option au)(f:FuncId)(Ts:List TypeId)(vs:List AV):Option (Vc×AV×Option au) :=
 match nX E (sH lk) Ts vs with
 | some Z9=>match E.H6 f Z9 with
  | some (pre,res)=>some (pre,zW res,none)
  | none=>none
 | none=>match nX E lk Ts vs with
  | some Z9=>match E.H6 f Z9 with
   | some (pre,res)=>match res.all TV.flat with
    | true=>some (pre,zW res,none)
    | false=>none
   | none=>none
  | none=>none
def yb(E:Env)(lk:Nat->Option au)(g:AV)(Ts:List TypeId)(vs:List AV):Option (Vc×AV×Option au) :=
 match (match nX E (sH lk) Ts vs with
  | some Z9=>match F9 E (sH lk) g with
   | some q=>match tx q.ps q.r q.F Z9 with
    | some (pre,y)=>some (some pre,zW [⟨q.r,y⟩],none)
    | none=>none
   | none=>none
  | none=>none) with
 | some r=>some r
 | none=>match nX E lk Ts vs with
  | some Z9=>match F9 E lk g with
   | some q=>match tx q.ps q.r q.F Z9 with
    | some (pre,y)=>match TV.flat ⟨q.r,y⟩ with
     | true=>some (some pre,zW [⟨q.r,y⟩],none)
     | false=>none
    | none=>none
   | none=>none
  | none=>none
def AV.Vh:AV->Bool
 | .eV | .kr _ | .dw .. | .jO .. | .sub .. | .fL .. => false
 | _=>true
def Fm(E:Env)(lk:Nat->Option au)(ev:Operand->AV)(o:Oper):Option (Vc×AV×Option au) :=
 match o.op with
 | .move x=>some (.none,ev x,none)
 | .assign x=>some (.none,ev x,none)
 | .pick c a b=>match ev c with
  | .az ⟨.bool,true⟩=>some (.none,ev a,none)
  | .az ⟨.bool,false⟩=>some (.none,ev b,none)
  | _=>none
 | .alloc T=>match o.dst,ae E.ty T with
  | some d,some (τ,_)=>some (.none, .ptr d 0,some (.box (zeroCells τ)))
  | _,_=>none
 | .box T x=>match o.dst,ae E.ty T with
  | some d,some (τ,_)=>match E.ro.contains d with
   | true=>match AQ (λ _=>none) τ (ev x) with
    | some y=>some (.none, .gK ⟨τ,y⟩,none)
    | none=>none
   | false=>match cellsOf τ (ev x) with
    | some cs=>some (.none, .ptr d 0,some (.box cs))
    | none=>none
  | _,_=>none
 | .build T parts=>match ae E.ty T with
  | some (.st n,_)=>match partsOf E n (zeroCells (.st n)) (parts.toList.map λ p=>(p.1,ev p.2)) with
   | some cs=>some (.none, .agg cs,none)
   | none=>none
  | _=>none
 | .buildSlice T len parts=>match o.dst,ae E.ty T with
  | some d,some (.slice τ,_,e)=>match Nat.beq parts.size len&&Nat.ble len 1000 with
   | true=>match sT τ 0 (parts.toList.map λ p=>(p.1,ev p.2)) with
    | some xs=>match E.ro.contains d with
     | true=>some (.none, .az ⟨.slice τ,xs⟩,none)
     | false=>some (.none, .row d,some (.row e τ xs))
    | none=>none
   | false=>none
  | _,_=>none
 | .load T a=>match ae E.ty T with
  | some (τ,_)=>match sG lk τ (ev a) with
   | some v=>some (.none,v,none)
   | none=>none
  | none=>none
 | .nilCheck x=>match ev x with
  | .gK v=>some (.none, .gK v,none)
  | .ptr id off=>some (.none, .ptr id off,none)
  | .fh id i off=>some (.none, .fh id i off,none)
  | _=>none
 | .fieldAddr T x i=>match ae E.ty T with
  | some (.st n,_)=>match ev x with
   | .gK v=>match v.Z9 (.st n) with
    | some y=>match (n.fields y)[i]? with
     | some f=>some (.none, .gK f,none)
     | none=>none
    | none=>none
   | .ptr id off=>match Nat.blt i n.jd.length with
    | true=>some (.none, .ptr id (off+n.gF i),none)
    | false=>none
   | .fh id k off=>match Nat.blt i n.jd.length with
    | true=>some (.none, .fh id k (off+n.gF i),none)
    | false=>none
   | _=>none
  | _=>none
 | .field T x i=>match ae E.ty T with
  | some (.st n,_)=>match ev x with
   | .az v=>match v.Z9 (.st n) with
    | some y=>match (n.fields y)[i]? with
     | some f=>some (.none, .az f,none)
     | none=>none
    | none=>none
   | .agg cs=>match n.jd[i]? with
    | some τ=>match CL cs (n.gF i) τ with
     | some v=>some (.none,v,none)
     | none=>none
    | none=>none
   | _=>none
  | _=>none
 | .indexAddr T x ix=>match ae E.ty T with
  | some (
      .slice τ,_)=>match ev ix with
   | .az ⟨.int _,n⟩=>match ev x with
    | .az v=>match v.Z9 (.slice τ) with
     | some xs=>some (.some (aZ n xs.length), .gK ⟨τ,xs.getD n.toNat τ.zero⟩,none)
     | none=>none
    | .row id=>match lk id with
     | some (.row _ aV xs)=>match decide (aV=τ) with
      | true=>some (.some (aZ n xs.length), .fh id n.toNat 0,none)
      | false=>none
     | _=>none
    | _=>none
   | _=>none
  | _=>none
 | .index T x ix=>match ae E.ty T with
  | some (.str,_)=>match ev ix with
   | .az ⟨.int _,n⟩=>match ev x with
    | .az ⟨.str,xs⟩=>some (.some (aZ n xs.length), .az ⟨.int .u8,((xs.getD n.toNat 0).toNat:Int)⟩,none)
    | _=>none
   | _=>none
  | _=>none
 | .binOp op T x y _=>match RM (match ae E.ty T with
   | some (.bool,_)=>true
   | _=>false) (match o.dst with
   | some d=>E.wr.contains d
   | none=>false) op (ev x) (ev y) with
  | some (p,v)=>some (p,v,none)
  | none=>none
 | .unOp op _ x=>match op,ev x with
  | .not, .az ⟨.bool,b⟩=>some (.none, .az ⟨.bool,!b⟩,none)
  | .neg, .az ⟨.int k,n⟩=>some (.some (dD k (-n)), .az ⟨.int k,-n⟩,none)
  | _,_=>none
 | .convert src dst x=>match ae E.ty src,ae E.ty dst with
  | some (.int _,_),some (.int k,_)=>match ev x with
   | .az ⟨.int _,n⟩=>some (.some (dD k n), .az ⟨.int k,n⟩,none)
   | _=>none
  | _,_=>none
 | .slice T x lo hi mx=>match ae E.ty T,mx with
  | some (.slice τ,_),none=>match ev x with
   | .az v=>match v.Z9 (.slice τ) with
    | some xs=>match qO 0 (lo.map ev),qO (xs.length:Int) (hi.map ev) with
     | some l,some h=>some (.some (eM l h xs.length), .az ⟨.slice τ,(xs.take h.toNat).drop l.toNat⟩,none)
     | _,_=>none
    | none=>none
   | _=>none
  | some (.str,_),none=>match ev x with
   | .az ⟨.str,xs⟩=>match qO 0 (lo.map ev),qO (xs.length:Int) (hi.map ev) with
    | some l,some h=>some (.some (eM l h xs.length), .az ⟨.str,(xs.take h.toNat).drop l.toNat⟩,none)
    | _,_=>none
   | _=>none
  | _,_=>none
 | .extract t i=>match ev t with
  | .kr vs=>match vs[i]? with
   | some v=>some (.none,v,none)
   | none=>none
  | _=>none
 | .makeSlice T l c=>match o.dst,ae E.ty T with
  | some d,some (.slice τ,b,e)=>match ev l,ev c with
   | .az ⟨.int .i64,n⟩, .az ⟨.int .i64,m⟩=>some (.some (j0 n m b), .row d,some (.row e τ (List.replicate n.toNat τ.zero)))
   | _,_=>none
  | _,_=>none
 | .call c=>match c.callee with
  | .builtin .len=>match c.argTypes.toList,c.args.toList.map ev with
   | [T],[v]=>match ae E.ty T with
    | some (.slice _,_)=>match v with
     | .nil=>some (.none, .az ⟨.int .i64,(0:Int)⟩,none)
     | .az ⟨.slice _,xs⟩=>some (.none, .az ⟨.int .i64,(xs.length:Int)⟩,none)
     | .row id=>match lk id with
      | some (.row _ _ xs)=>some (.none, .az ⟨.int .i64,(xs.length:Int)⟩,none)
      | _=>none
     | _=>none
    | some (.str,_)=>match v with
     | .az ⟨.str,xs⟩=>some (.none, .az ⟨.int .i64,(xs.length:Int)⟩,none)
     | _=>none
    | none=>match v,ae E.Q2 T with
     | .mp _,some _=>none
     | _,_=>none
    | _=>none
   | _,_=>none
  | .builtin .append=>match o.dst,c.argTypes.toList with
   | some d,[T,T']=>match Nat.beq T T',ae E.ty T with
    | true,some (.slice τ,b,e)=>match c.args.toList.map ev with
     | [.nil,y]=>match lG (Ha lk) (.slice τ) y with
      | some ys=>some (.some (fI ys.length b), .row d,some (.row e τ ys))
      | none=>none
     | _=>none
    | _,_=>none
   | _,_=>none
  | .value (.func f)=>CE E lk f c.argTypes.toList (c.args.toList.map ev)
  | .value (.tmp t)=>match ev (.tmp t) with
   | .fn f=>CE E lk f c.argTypes.toList (c.args.toList.map ev)
   | .dw f cs=>yb E lk (.dw f cs) c.argTypes.toList (c.args.toList.map ev)
   | .jO v=>yb E lk (.jO v) c.argTypes.toList (c.args.toList.map ev)
   | _=>none
  | _=>none
 | .makeMap _ none=>none
 | .lookup _ _ _ _=>none
 | .makeFunc fn first captured=>match fn,first.toList,(captured.toList.map ev).all AV.Vh with
  | .func f,[],true=>match captured.toList.map ev with
   | []=>some (.none, .fn f,none)
   | cs=>some (.none, .dw f cs,none)
  | _,_,_=>none
 | _=>none
mutual
def AV.refs(id:Nat):AV->Bool
 | .ptr i _=>Nat.beq i id
 | .row i=>Nat.beq i id
 | .fh i _ _=>Nat.beq i id
 | .aq i=>Nat.beq i id
 | .sub i _ _ _=>Nat.beq i id
 | .fL i _ _ _=>Nat.beq i id
 | .mp i=>Nat.beq i id
 | .agg cs=>AV.iq id cs
 | .kr cs=>AV.iq id cs
 | .dw _ cs=>AV.iq id cs
 | _=>false
def AV.iq(id:Nat):List AV->Bool
 | []=>false
 | v::r=>match AV.refs id v with
  | true=>true
  | false=>AV.iq id r
end
def AV.kill(id:Nat)(v:AV):AV:=match v.refs id with
 | true => .any
 | false=>v
def au.kill(id:Nat):au->au
 | .box cs => .box (cs.map (AV.kill id))
 | o=>o
def ag.b8(s:ag)(id:Nat):ag :=
 { ar:=s.ar.map (AV.kill id),aC:=s.aC.map λ p=>(p.1,p.2.kill id) }
def bK(id:Nat):List (Nat×au)->List (Nat×au)
 | []=>[]
 | (k,o)::r=>match Nat.beq k id with
  | true=>bK id r
  | false=>(k,o)::bK id r
def ag.put(s:ag)(d:Option Nat)(v:AV):ag :=
 match d with
 | some d=>{ s with ar:=s.ar.set d v }
 | none=>s
def ag.lay(s:ag)(d:Option Nat)(v:AV)(o:Option au):ag :=
 match o,d with
 | some o,some d =>
  let s':=s.b8 d
  { ar:=s'.ar.set d v,aC:=(d,o.kill d)::bK d s'.aC }
 | _,d=>s.put d v
mutual
def AV.rows:AV->List Nat
 | .row i=>[i]
 | .agg cs=>AV.SS cs
 | _=>[]
def AV.SS:List AV->List Nat
 | []=>[]
 | v::r=>AV.rows v++AV.SS r
end
def NA(s:ag)(v:AV):List Nat :=
 match v with
 | .ptr id _=>match s.ae id with
  | some (.box cs)=>AV.SS cs
  | _=>[]
 | v=>v.rows
def UY(s:ag)(v:AV):List Nat :=
 match v with
 | .dw _ cs=>cs.flatMap (NA s)
 | v=>NA s v
def mN(E:Env)(s:ag)(o:Oper):List Nat :=
 match (match o.dst with
  | some d=>E.own.contains d
  | none=>false) with
 | true=>[]
 | false=>match o.op with
 | .buildSlice _ _ parts=>parts.toList.flatMap λ p=>(s.eval p.2).rows
 | .slice _ x _ _ _=>(s.eval x).rows
 | .store _ a x=>match s.eval a with
  | .fh _ _ _=>(s.eval x).rows
  | _=>[]
 | .call c=>match c.callee with
  | .value _=>match E.H6 (match c.callee with
    | .value (.func f)=>f
    | .value (.tmp t)=>match s.eval (.tmp t) with
     | .fn f=>f
     | _=>0
    | _=>0) (match nX E s.ae c.argTypes.toList (c.args.toList.map s.eval) with
     | some Z9=>Z9
     | none=>[]) with
   | some (_,res)=>match res.all TV.flat with
    | true=>[]
    | false=>c.args.toList.flatMap λ x=>UY s (s.eval x)
   | none=>[]
  | _=>[]
 | _=>[]
mutual
def AV.Dh(id:Nat)(u:AV):AV->AV
 | .row i=>match Nat.beq i id with
  | true=>u
  | false => .row i
 | .fh i k off=>match Nat.beq i id with
  | true => .any
  | false => .fh i k off
 | .agg cs => .agg (AV.Lx id u cs)
 | .kr cs => .kr (AV.Lx id u cs)
 | .dw f cs => .dw f (AV.Lx id u cs)
 | v=>v
def AV.Lx(id:Nat)(u:AV):List AV->List AV
 | []=>[]
 | v::r=>AV.Dh id u v::AV.Lx id u r
end
def au.Dh(id:Nat)(u:AV):au->au
 | .box cs => .box (AV.Lx id u cs)
 | o=>o
mutual
def AV.AS(id:Nat)(u:AV):AV->AV
 | .aq i=>match Nat.beq i id with
  | true=>u
  | false => .aq i
 | .sub i k off z=>match Nat.beq i id with
  | true => .any
  | false => .sub i k off z
 | .fL i k off z=>match Nat.beq i id with
  | true => .any
  | false => .fL i k off z
 | .agg cs => .agg (AV.Lw id u cs)
 | .kr cs => .kr (AV.Lw id u cs)
 | .dw f cs => .dw f (AV.Lw id u cs)
 | v=>v
def AV.Lw(id:Nat)(u:AV):List AV->List AV
 | []=>[]
 | v::r=>AV.AS id u v::AV.Lw id u r
end
def au.AS(id:Nat)(u:AV):au->au
 | .box cs => .box (AV.Lw id u cs)
 | o=>o
def ag.freeze(s:ag)(id:Nat):ag :=
 match s.ae id with
 | some (.row _ τ xs) =>
  { ar:=AV.Lx id (.az ⟨.slice τ,xs⟩) s.ar,aC:=(bK id s.aC).map λ p=>(p.1,p.2.Dh id (.az ⟨.slice τ,xs⟩)) }
 | some (.aq τ xs) =>
  { ar:=AV.Lw id (.az ⟨.slice τ,xs⟩) s.ar,aC:=(bK id s.aC).map λ p=>(p.1,p.2.AS id (.az ⟨.slice τ,xs⟩)) }
 | _=>s
def KE(_:Env)(_:ag)(_:Option Nat)(_:TypeId)(_ _ _:Operand):Option (Vc×ag):=none
def OY(E:Env)(s:ag)(o:Oper):Option (Vc×ag) :=
 match o.op with
 | .mapUpdate T m k x=>KE E s o.dst T m k x
 | .insert T m k x=>KE E s o.dst T m k x
 | .store T a x=>match ae E.ty T with
  | some (
      τ,_)=>match s.eval a with
   | .ptr id off=>match s.ae id with
    | some (.box cs)=>match cellsOf τ (s.eval x) with
     | some new=>match putCells cs off new with
      | some dV=>some (.none,{ s with aC:=(id, .box dV)::bK id s.aC }.put o.dst .any)
      | none=>none
     | none=>none
    | _=>none
   | .fh id i 0=>match s.ae id with
    | some (.row e' aV xs)=>match decide (aV=τ),AQ (λ _=>none) aV (s.eval x) with
     | true,some x=>some (.none,{ s with aC:=(id, .row e' aV (xs.set i x))::bK id s.aC }.put o.dst .any)
     | _,_=>none
    | _=>none
   | _=>none
  | none=>none
 | .call c=>match c.callee with
  | .builtin .append=>match o.dst,c.argTypes.toList with
   | some d,[T,T']=>match Nat.beq T T',ae E.ty T with
    | true,some (.slice τ,b,e)=>match c.args.toList.map s.eval with
     | [.row id,y]=>match s.ae id,lG (Ha s.ae) (.slice τ) y with
      | some (.row e' aV xs),some ys=>match Nat.beq e' e,TV.Z9 (.slice τ) ⟨.slice aV,xs⟩ with
       | true,some cT =>
        let s':=s.b8 id
        some (.some (fI (cT.length+ys.length) b),{ ar:=s'.ar.set d (.row id),aC:=(id, .row e τ (cT++ys))::bK id s'.aC })
       | _,_=>none
      | _,_=>none
     | _=>none
    | _,_=>none
   | _,_=>none
  | _=>none
 | _=>none
def nodupB:List Nat->Bool
 | []=>true
 | a::r=>match r.contains a with
  | true=>false
  | false=>nodupB r
def cp:Option au->Bool
 | some (.aq ..)=>true
 | _=>false
def kc(id:Nat):TV->AV
 | ⟨.slice _,_⟩ => .aq id
 | ⟨.mv _,_⟩ => .any
 | u => .az u
def gN(id:Nat):TV->List (Nat×au)
 | ⟨.slice τ,xs⟩=>[(id, .aq τ xs)]
 | _=>[]
def bU:Nat->List TV->List AV
 | _,[]=>[]
 | id,u::r=>kc id u::bU (id+1) r
def bS:Nat->List TV->List (Nat×au)
 | _,[]=>[]
 | id,u::r=>gN id u++bS (id+1) r
def fV(id:Nat):TV->AV
 | ⟨.st s,y⟩ => .agg (bU id (s.cells y))
 | v=>kc id v
def Hm:Nat->List TV->List AV
 | _,[]=>[]
 | id,v::r=>fV id v::Hm (id+20) r
def bg:Nat->List TV->List (Nat×au)
 | _,[]=>[]
 | id,v::r=>bS id v.cells++bg (id+20) r
def me(id:Nat):List TV->AV
 | [v]=>fV id v
 | vs => .kr (Hm id vs)
def Ty.agg:Ty->Bool
 | .st _=>true
 | _=>false
def Ty.wR:Ty->Bool
 | .int _ | .bool | .str | .ptr=>true
 | _=>false
def Ty.key:Ty->Bool
 | .int _ | .bool | .str=>true
 | _=>false
def Ty.plain:Ty->Bool
 | .st s=>s.uF.all Ty.wR
 | .slice _=>false
 | .mv _=>false
 | _=>true
def eK(lk:Nat->Option au)(τ:Ty):AV->Option (τ.den×List Nat)
 | .az v=>match τ.wR,v.Z9 τ with
  | true,some y=>some (y,[])
  | _,_=>none
 | .nil=>match τ with
  | .slice _=>some ([],[])
  | _=>none
 | .aq id=>match lk id with
  | some (.aq aV xs)=>match TV.Z9 τ ⟨.slice aV,xs⟩ with
   | some y=>some (y,[id])
   | none=>none
  | _=>none
 | .row id=>match lk id with
  | some (.row _ aV xs)=>match aV.plain,TV.Z9 τ ⟨.slice aV,xs⟩ with
   | true,some y=>some (y,[id])
   | _,_=>none
  | _=>none
 | _=>none
def sJ(lk:Nat->Option au):List AV->List Ty->Option (List TV×List Nat)
 | [],[]=>some ([],[])
 | c::cs,t::ts=>match eK lk t c with
  | some (x,i)=>match sJ lk cs ts with
   | some (r,j)=>some (⟨t,x⟩::r,i++j)
   | none=>none
  | none=>none
 | _,_=>none
def rF(lk:Nat->Option au)(τ:Ty):AV->Option (τ.den×List Nat)
 | .agg cs=>match τ with
  | .st s=>match sJ lk cs s.uF with
   | some (l,ids)=>match s.ka l with
    | some y=>some (y,ids)
    | none=>none
   | none=>none
  | _=>none
 | v=>eK lk τ v
mutual
def AV.Hw:AV->Bool
 | .sub .. => true
 | .agg cs=>AV.pT cs
 | .kr cs=>AV.pT cs
 | .dw _ cs=>AV.pT cs
 | _=>false
def AV.pT:List AV->Bool
 | []=>false
 | v::r=>match AV.Hw v with
  | true=>true
  | false=>AV.pT r
end
def AV.dm(v:AV):AV:=match v.Hw with
 | true => .any
 | false=>v
def au.dm:au->au
 | .box cs => .box (cs.map AV.dm)
 | o=>o
def ag.bQ(s:ag):ag:={ ar:=s.ar.map AV.dm,aC:=s.aC.map λ p=>(p.1,p.2.dm) }
def ag.dT(s:ag)(id:Nat)(τ:Ty)(xs:List τ.den):ag :=
 { s with aC:=(id, .aq τ xs)::bK id s.aC }
def ag.gone(s:ag)(id:Nat):ag :=
 let s':=s.b8 id
 { s' with aC:=bK id s'.aC }
def ag.iX(s:ag):List AV->List TV->ag
 | .aq id::cs,⟨.slice τ,xs⟩::us=>(s.dT id τ xs).iX cs us
 | _::cs,_::us=>s.iX cs us
 | _,_=>s
def mA(τ:Ty)(x:τ.den)(off:Nat)(u:TV):Option τ.den :=
 match τ with
 | .st s=>match (s.cells x)[off]? with
  | some v=>match decide (v.τ=u.τ) with
   | true=>s.ka ((s.cells x).set off u)
   | false=>none
  | none=>none
 | τ=>match Nat.beq off 0 with
  | true=>u.Z9 τ
  | false=>none
def Ty.full:Ty->Ty
 | .mv t => .slice t
 | t=>t
def Ty.Yj:Ty->Ty->Bool
 | .st p, .st q=>decide (p.uF.map Ty.full=q.uF)
 | _,_=>false
def Ty.KF:Ty->Bool
 | .mv _=>true
 | t=>t.wR
def R0:TV->TV
 | ⟨.mv t,o⟩=>⟨.slice t,Option.getD (α:=List t.den) o []⟩
 | u=>u
def OX:TV->TV
 | ⟨.mv t,_⟩=>⟨.mv t,(none:Option (List t.den))⟩
 | u=>u
def xS:List TV->Prop
 | []=>True
 | ⟨.mv t,o⟩::r=>Option.isSome (α:=List t.den) o=true/\xS r
 | _::r=>xS r
def Tm(s:ag)(d:Nat)(m:Aj)(vs:List AV):Option (Vc×ag):=match vs with
 | [.aq id, .az ⟨.int .i64,n⟩]=>match s.ae id with
  | some (.aq τ xs)=>match TV.Z9 m.τ ⟨.slice τ,xs⟩ with
   | some x=>match TV.Z9 (.slice τ) ⟨m.τ,(m.g x n).2.1⟩ with
    | some cT=>some ((m.g x n).1,(s.bQ.dT id τ cT).put (some d) (.az ⟨.int .i64,(m.g x n).2.2⟩))
    | none=>none
   | none=>none
  | _=>none
 | [.sub id i off sz, .az ⟨.int .i64,n⟩]=>match s.ae id with
  | some (.aq τ xs)=>match TV.part ⟨τ,xs.getD i τ.zero⟩ off m.τ with
   | some u=>match u.Z9 m.τ,Nat.beq τ.size sz&&(!m.τ.agg&&Nat.blt off τ.size) with
    | some x,true=>match mA τ (xs.getD i τ.zero) off ⟨m.τ,(m.g x n).2.1⟩ with
     | some y=>some ((m.g x n).1,(s.bQ.dT id τ (xs.set i y)).put (some d) (.az ⟨.int .i64,(m.g x n).2.2⟩))
     | none=>none
    | _,_=>none
   | none=>none
  | _=>none
 | [.agg cs, .az ⟨.int .i64,n⟩]=>match rF s.ae m.τ (.agg cs) with
  | some (x,ids)=>match nodupB ids&&ids.all λ id=>cp (s.ae id) with
   | true=>some ((m.g x n).1,(s.bQ.iX cs (TV.cells ⟨m.τ,(m.g x n).2.1⟩)).put (some d) (.az ⟨.int .i64,(m.g x n).2.2⟩))
   | false=>none
  | none=>none
 | _=>none
def PD(E:Env)(s:ag)(o:Oper):Option (Vc×ag) :=
 match o.op with
 | .indexAddr T x ix=>match ae E.ty T with
  | some (.slice τ,_)=>match s.eval ix,s.eval x with
   | .az ⟨.int _,n⟩, .aq id=>match s.ae id with
    | some (.aq aV xs)=>match decide (aV=τ)||aV.Yj τ with
     | true=>some (.some (aZ n xs.length),s.put o.dst (.fL id n.toNat 0 τ.size))
     | false=>none
    | _=>none
   | _,_=>none
  | _=>none
 | .fieldAddr T x i=>match ae E.ty T with
  | some (.st n,_)=>match s.eval x with
   | .fL id k off sz=>match Nat.blt i n.jd.length with
    | true=>some (.none,s.put o.dst (.fL id k (off+n.gF i) sz))
    | false=>none
   | _=>none
  | _=>none
 | .load T ad=>match ae E.ty T with
  | some (
      τ,_)=>match s.eval ad with
   | .fL id i off sz=>match s.ae id with
    | some (.aq aV xs)=>match TV.part ⟨aV,xs.getD i aV.zero⟩ off τ,Nat.beq aV.size sz&&(!τ.agg&&Nat.blt off aV.size) with
     | some u,true=>match τ.wR with
      | true=>some (.none,s.put o.dst (.az u))
      | false=>some (.none,s.put o.dst (.sub id i off sz))
     | _,_=>none
    | _=>none
   | _=>none
  | none=>none
 | .store T ad x=>match ae E.ty T with
  | some (
      τ,_)=>match s.eval ad with
   | .fL id i off sz=>match s.ae id with
    | some (
        .aq aV xs)=>match Nat.beq aV.size sz&&Nat.blt off aV.size with
     | true=>match τ.wR with
      | true=>match eK (λ _=>none) τ (s.eval x) with
       | some (u,_)=>match TV.part ⟨aV,xs.getD i aV.zero⟩ off τ,mA aV (xs.getD i aV.zero) off ⟨τ,u⟩ with
        | some _,some y=>some (.none,(s.bQ.dT id aV (xs.set i y)).put o.dst .any)
        | _,_=>none
       | none=>none
      | false=>match Nat.beq off 0,rF s.ae τ (s.eval x) with
       | true,some (y,ids)=>match nodupB (id::ids),TV.Z9 aV ⟨τ,y⟩ with
        | true,some y'=>some (.none,((ids.foldl ag.gone s).bQ.dT id aV (xs.set i y')).put o.dst .any)
        | _,_=>none
       | _,_=>none
     | false=>none
    | _=>none
   | _=>none
  | none=>none
 | .makeSlice T l cc=>match o.dst,ae E.ty T with
  | some d,some (.slice τ,b,_)=>match E.own.contains d&&Nat.blt d 50 with
   | true=>match s.eval l,s.eval cc with
    | .az ⟨.int .i64,n⟩, .az ⟨.int .i64,m⟩=>some (.some (j0 n m b),{ ar:=(s.gone d).ar.set d (.aq d),aC:=(d, .aq τ (List.replicate n.toNat τ.zero))::(s.gone d).aC })
    | _,_=>none
   | false=>none
  | _,_=>none
 | .call c=>match c.callee with
  | .builtin .len=>match c.argTypes.toList,c.args.toList.map s.eval with
   | [T],[.aq id]=>match ae E.ty T,s.ae id with
    | some (.slice _,_),some (.aq _ xs)=>some (.none,s.put o.dst (.az ⟨.int .i64,(xs.length:Int)⟩))
    | _,_=>none
   | _,_=>none
  | .value (
       .func f)=>match o.dst with
   | some d=>match E.own.contains d with
    | true=>match E.mark f with
     | some m=>Tm s d m (c.args.toList.map s.eval)
     | none=>match nX E s.ae c.argTypes.toList (c.args.toList.map s.eval) with
      | some Z9=>match E.Hb f Z9 with
       | some (pre,res)=>match ((bg (100 * (d+1)) res).all λ p=>(s.ae p.1).isNone)&&nodupB ((bg (100 * (d+1)) res).map (·.1)) with
        | true=>some (pre,{ ar:=s.ar.set d (me (100 * (d+1)) res),aC:=bg (100 * (d+1)) res++s.aC })
        | false=>none
       | none=>none
      | none=>none
    | false=>none
   | none=>none
  | _=>none
 | _=>none
def bM(d:Nat):Nat:=100 * (d+1)
def Ct(lk:Nat->Option au)(τ:Ty):Nat->List (Nat×AV)->Option (List τ.den×List Nat)
 | _,[]=>some ([],[])
 | n,(
    i,v)::r=>match Nat.beq i n with
  | true=>match rF lk τ v with
   | some (x,ids)=>match Ct lk τ (n+1) r with
    | some (xs,js)=>some (x::xs,ids++js)
    | none=>none
   | none=>none
  | false=>none
def ag.sO(s:ag)(d:Nat)(τ:Ty)(xs:List τ.den):ag :=
 { ar:=s.ar.set d (.aq (bM d)),aC:=(bM d, .aq τ xs)::s.aC }
def iZ(E:Env)(lk:Nat->Option au):List Bool->List TypeId->List AV->Option (List (Option TV)×List Nat)
 | [],[],[]=>some ([],[])
 | true::fl,T::Ts,v::vs=>match ae E.ty T with
  | some (τ,_)=>match rF lk τ v with
   | some (x,i)=>match iZ E lk fl Ts vs with
    | some (r,j)=>some (some ⟨τ,x⟩::r,i++j)
    | none=>none
   | none=>none
  | none=>none
 | false::fl,_::Ts,_::vs=>match iZ E lk fl Ts vs with
  | some (r,j)=>some (none::r,j)
  | none=>none
 | _,_,_=>none
def gJ(E:Env)(lk:Nat->Option au):List (Option TV)->List TypeId->List AV->Option (List Arg)
 | [],[],[]=>some []
 | some x::r,_::Ts,_::vs=>match gJ E lk r Ts vs with
  | some Z9=>some (.own x::Z9)
  | none=>none
 | none::r,T::Ts,v::vs=>match KX E lk T v with
  | some x=>match x.Fu,gJ E lk r Ts vs with
   | true,some Z9=>some (x::Z9)
   | _,_=>none
  | none=>none
 | _,_,_=>none
def OT(E:Env)(s:ag)(o:Oper):Option (Vc×ag) :=
 match o.dst with
 | some d=>match E.own.contains d with
  | true=>match o.op with
   | .buildSlice T len parts=>match ae E.ty T with
    | some (.slice τ,_)=>match Nat.beq parts.size len&&Nat.ble len 1000 with
     | true=>match Ct s.ae τ 0 (parts.toList.map λ p=>(p.1,s.eval p.2)) with
      | some (xs,ids)=>match nodupB ids,(ids.foldl ag.gone s).ae (bM d) with
       | true,none=>some (.none,(ids.foldl ag.gone s).sO d τ xs)
       | _,_=>none
      | none=>none
     | false=>none
    | _=>none
   | .load T ad=>match ae E.ty T,s.eval ad with
    | some (.st q,_), .fL id i 0 sz=>match s.ae id with
     | some (.aq (.st p) xs)=>match Nat.beq p.size sz&&p.uF.all Ty.KF,p.ka ((p.cells (xs.getD i (Ty.zero (.st p)))).map OX),q.ka ((p.cells (xs.getD i (Ty.zero (.st p)))).map R0) with
      | true,some y,some z=>match ((bS (bM d) (q.cells z)).all λ e=>(s.ae e.1).isNone)&&nodupB ((bS (bM d) (q.cells z)).map (·.1)) with
       | true=>some (.some (xS (p.cells (xs.getD i (Ty.zero (.st p))))),{ ar:=s.bQ.ar.set d (fV (bM d) ⟨.st q,z⟩),aC:=bS (bM d) (q.cells z)++(s.bQ.dT id (.st p) (xs.set i y)).aC })
       | false=>none
      | _,_,_=>none
     | _=>none
    | _,_=>none
   | .call c=>match c.callee with
    | .builtin .append=>match c.argTypes.toList with
     | [T,T']=>match Nat.beq T T',ae E.ty T with
      | true,some (.slice τ,b,_)=>match c.args.toList.map s.eval with
       | [x,y]=>match eK s.ae (.slice τ) x,eK s.ae (.slice τ) y with
        | some (xs,i),some (ys,j)=>match nodupB (i++j),((i++j).foldl ag.gone s).ae (bM d) with
         | true,none=>some (.some (fI (xs.length+ys.length) b),((i++j).foldl ag.gone s).sO d τ (xs++ys))
         | _,_=>none
        | _,_=>none
       | _=>none
      | _,_=>none
     | _=>none
    | .value (
         .func f)=>match E.tk f with
     | []=>none
     | fl=>match iZ E s.ae fl c.argTypes.toList (c.args.toList.map s.eval) with
      | some (own,ids)=>match nodupB ids,gJ E (ids.foldl ag.gone s).ae own c.argTypes.toList (c.args.toList.map (ids.foldl ag.gone s).eval) with
       | true,some Z9=>match E.Hb f Z9 with
        | some (pre,res)=>match ((bg (bM d) res).all λ p=>((ids.foldl ag.gone s).ae p.1).isNone)&&nodupB ((bg (bM d) res).map (·.1)) with
         | true=>some (pre,{ ar:=(ids.foldl ag.gone s).ar.set d (me (bM d) res),aC:=bg (bM d) res++(ids.foldl ag.gone s).aC })
         | false=>none
        | none=>none
       | _,_=>none
      | none=>none
    | _=>none
   | _=>none
  | false=>none
 | none=>none
def kK:List (Option Nat)->List AV->List (Nat×Nat)->Option (List (Nat×Nat))
 | [],[],m=>some m
 | some k::fl,v::vs,m=>match v with
  | .ptr id 0=>match ae m k with
   | some i=>match Nat.beq i id with
    | true=>kK fl vs m
    | false=>none
   | none=>kK fl vs ((k,id)::m)
  | _=>none
 | none::fl,_::vs,m=>kK fl vs m
 | _,_,_=>none
def dj(lk:Nat->Option au):List CK->List AV->List (Nat×Nat)->Option (List TV×List Nat×List (Nat×Nat))
 | [],[],m=>some ([],[],m)
 | .d τ::ks,v::vs,m=>match lG (λ _=>none) τ v,τ.agg with
  | some x,false=>match dj lk ks vs m with
   | some (ds,ids,m)=>some (⟨τ,x⟩::ds,ids,m)
   | none=>none
  | _,_=>none
 | .o τ::ks,v::vs,m=>match eK lk τ v,τ.agg with
  | some (x,i),false=>match dj lk ks vs m with
   | some (ds,ids,m)=>some (⟨τ,x⟩::ds,i++ids,m)
   | none=>none
  | _,_=>none
 | .p j::ks,v::vs,m=>match v with
  | .ptr id 0=>match ae m j with
   | some i=>match Nat.beq i id with
    | true=>dj lk ks vs m
    | false=>none
   | none=>dj lk ks vs ((j,id)::m)
  | _=>none
 | _,_,_=>none
def kq(lk:Nat->Option au):List (List CK)->Nat->List (Nat×Nat)->Option (List (List TV)×List Nat×List (Nat×Nat))
 | [],_,m=>some ([],[],m)
 | ks::sh,k,m=>match ae m k with
  | some id=>match lk id with
   | some (.box cs)=>match dj lk ks cs m with
    | some (ds,i,m)=>match kq lk sh (k+1) m with
     | some (bN,ids,m)=>some (ds::bN,i++ids,m)
     | none=>none
    | none=>none
   | _=>none
  | none=>none
def xx(lk:Nat->Option au)(ids:List Nat)(id:Nat):Option au:=match ids.contains id with
 | true=>none
 | false=>match lk id with
  | some (.box cs)=>some (.box cs)
  | _=>none
def Arg.ZE:Arg->Bool
 | .dw _=>false
 | _=>true
def sw(E:Env)(lk:Nat->Option au):List (Option Nat)->List TypeId->List AV->Option (List Arg)
 | [],[],[]=>some []
 | some k::fl,_::Ts,_::vs=>match sw E lk fl Ts vs with
  | some r=>some (.box k::r)
  | none=>none
 | none::fl,T::Ts,v::vs=>match KX E lk T v with
  | some x=>match x.ZE,sw E lk fl Ts vs with
   | true,some r=>some (x::r)
   | _,_=>none
  | none=>none
 | _,_,_=>none
def bZ(m:List (Nat×Nat)):List CK->List AV->List TV->Nat->Option (List AV×List (Nat×au)×Nat)
 | [],[],[],n=>some ([],[],n)
 | .d τ::ks,_::cs,v::ds,n=>match decide (v.τ=τ) with
  | true=>match bZ m ks cs ds n with
   | some (r,os,n)=>some (.az v::r,os,n)
   | none=>none
  | false=>none
 | .o τ::ks,_::cs,v::ds,n=>match decide (v.τ=τ) with
  | true=>match bZ m ks cs ds (n+1) with
   | some (r,os,n')=>some (kc n v::r,gN n v++os,n')
   | none=>none
  | false=>none
 | .p j::ks,c::cs,ds,n=>match c with
  | .ptr id 0=>match ae m j with
   | some i=>match Nat.beq i id,bZ m ks cs ds n with
    | true,some (r,os,n)=>some (.ptr id 0::r,os,n)
    | _,_=>none
   | none=>none
  | _=>none
 | _,_,_,_=>none
def sn(lk:Nat->Option au)(m:List (Nat×Nat)):List (List CK)->Nat->List (List TV)->Nat->Option (List (Nat×au)×List (Nat×au))
 | [],_,[],_=>some ([],[])
 | ks::sh,k,ds::bN,n=>match ae m k with
  | some id=>match lk id with
   | some (.box cs)=>match bZ m ks cs ds n with
    | some (r,os,n)=>match sn lk m sh (k+1) bN n with
     | some (bs,ts)=>some ((id, .box r)::bs,os++ts)
     | none=>none
    | none=>none
   | _=>none
  | none=>none
 | _,_,_,_=>none
def iL:List Nat->List (Nat×au)->List (Nat×au)
 | [],os=>os
 | id::r,os=>iL r (bK id os)
def PN(E:Env)(s:ag)(o:Oper):Option (Vc×ag) :=
 match o.dst with
 | some d=>match o.op with
  | .call c=>match c.callee with
   | .value (
        .func f)=>match E.sk f with
    | some sk=>match kK sk.ps (c.args.toList.map s.eval) [] with
     | some m0=>match kq s.ae sk.sh 0 m0 with
      | some (
          bN,ids,m)=>match nodupB ids&&(nodupB (m.map (·.1))&&(nodupB (m.map (·.2))&&Nat.beq m.length sk.sh.length)) with
       | true=>match sw E (xx (ids.foldl ag.gone s).ae (m.map (·.2))) sk.ps c.argTypes.toList (c.args.toList.map (ids.foldl ag.gone s).eval) with
        | some Z9=>match E.Oq f Z9 bN with
         | some (pre,res,gw)=>match sn (ids.foldl ag.gone s).ae m sk.sh 0 gw (bM d+60) with
          | some (bs,ts)=>match ((bg (bM d) res++ts).all λ p=>((ids.foldl ag.gone s).ae p.1).isNone)&&nodupB ((bg (bM d) res++ts).map (·.1)) with
           | true=>some (pre,{ ar:=(ids.foldl ag.gone s).ar.set d (me (bM d) res),aC:=bs++(bg (bM d) res++ts)++iL (m.map (·.2)) (ids.foldl ag.gone s).aC })
           | false=>none
          | none=>none
         | none=>none
        | none=>none
       | false=>none
      | none=>none
     | none=>none
    | none=>none
   | _=>none
  | _=>none
 | none=>none
def known(v:AV)(K:Prop):Prop :=
 match v with
 | .az ⟨.int .i64,n⟩=>ah n->K
 | .az ⟨.slice _,xs⟩=>xs.length<=140737488355328->K
 | .az ⟨.str,xs⟩=>xs.length<=140737488355328->K
 | _=>K
def MT:Op->Bool
 | .load .. | .field .. | .index .. | .extract .. => true
 | .call c=>match c.callee with
  | .builtin .append=>false
  | _=>true
 | _=>false
def tz:Option Nat->Bool
 | none=>true
 | some d=>Nat.blt d 400000
def Px(E:Env)(s:ag)(o:Oper):Option (Vc×AV×Option au):=match o.op with
 | .call c=>match c.callee with
  | .value (.func f)=>match o.dst with
   | some d=>match nX E (sH s.ae) c.argTypes.toList (c.args.toList.map s.eval) with
    | some Z9=>match E.Ml f Z9 with
     | some (pre, .box cells)=>some (pre, .ptr d 0,some (.box (cells.map .az)))
     | some (pre, .row e τ xs)=>some (pre, .row d,some (.row e τ xs))
     | none=>none
    | none=>none
   | none=>none
  | _=>none
 | _=>none
def mP(E:Env)(o:Oper)(K:ag->Prop)(s:ag):Prop :=
 match tz o.dst with
 | false=>False
 | true =>
 let s:=(mN E s o).foldl ag.freeze s
 match PN E s o with
 | some (vc,s')=>vc.and (K s')
 | none=>match OT E s o with
 | some (vc,s')=>vc.and (K s')
 | none=>match OY E s o with
 | some (vc,s')=>vc.and (K s')
 | none=>match PD E s o with
 | some (vc,s')=>vc.and (K s')
 | none=>match Px E s o with
 | some (vc,v,ob)=>vc.and (K (s.lay o.dst v ob))
 | none=>match Fm E s.ae s.eval o with
  | some (vc,v,ob)=>vc.and (match MT o.op with
   | true=>known v (K (s.lay o.dst v ob))
   | false=>K (s.lay o.dst v ob))
  | none=>False
def uO(ops:Array Oper)(g:Nat):Option Nat:=(ops[g]?).bind (·.dst)
def gn(
      E:Env) (ops:Array Oper):List Oper->List (Nat×Bool)->(ag->Prop)->ag->Prop
 | [],_,Q,s=>Q s
 | o::r,kn,Q,s=>match o.guard with
  | none=>mP E o (gn E ops r kn Q) s
  | some (
      g,want)=>match uO ops g with
   | none=>False
   | some t=>match ae kn t with
    | some b=>match s.eval (.tmp t) with
     | .az ⟨.bool,b'⟩=>match b' == b,b == want with
      | true,true=>mP E o (gn E ops r kn Q) s
      | true,false=>gn E ops r kn Q (s.put o.dst .eV)
      | false,_=>False
     | .eV=>gn E ops r kn Q (s.put o.dst .eV)
     | _=>False
    | none=>match s.eval (.tmp t) with
     | .az ⟨.bool,b⟩ =>
      (b=want->mP E o (gn E ops r ((t,want)::kn) Q) (s.put (some t) (.az ⟨.bool,want⟩))) /\
      (b = !want->gn E ops r ((t,!want)::kn) Q ((s.put (some t) (.az ⟨.bool,!want⟩)).put o.dst .eV))
     | .eV=>gn E ops r kn Q (s.put o.dst .eV)
     | _=>False
def ur(acc:List Nat)(s:Nat)(e:Edge):Nat :=
 match Region.binds .any e with
 | true=>s ||| (1 <<< e.on ||| acc.getD e.on 0)
 | false=>s
def bI:List Oper->List Nat->List Nat
 | [],acc=>acc
 | o::r,acc=>bI r (acc++[o.after.toList.foldl (ur acc) 0])
def nT:List Nat->Nat->Nat->Nat
 | [],_,m=>m
 | b::r,i,m=>match Nat.beq (b+1) (2 ^ i) with
  | true=>nT r (i+1) m
  | false=>nT r (i+1) (i+1)
def bG(ops:List Oper)(k:Nat):Option Nat:=(ops[k]?).bind (·.dst)
def hidden(ops:List Oper)(m bits t:Nat):Bool:=(List.range m).any λ k=>match bG ops k with
 | some d=>match Nat.beq d t with
  | true => !Nat.testBit bits k
  | false=>false
 | none=>false
def Na(ops:List Oper)(m bits:Nat)(s:ag):Operand->AV
 | .tmp t=>match hidden ops m bits t with
  | true => .any
  | false=>s.eval (.tmp t)
 | x=>s.eval x
def J7(ops:List Oper)(m bits:Nat)(s:ag)(id:Nat):Option au:=match hidden ops m bits id with
 | true=>none
 | false=>s.ae id
def uE:Op->Bool
 | .alloc _ | .box .. | .buildSlice .. | .makeSlice .. | .makeMap .. => true
 | .call c=>match c.callee with
  | .builtin .append=>true
  | _=>false
 | _=>false
def ag.fresh(s:ag)(o:Oper):ag :=
 match uE o.op,o.dst with
 | true,some d=>let s':=s.b8 d
  { s' with aC:=bK d s'.aC }
 | _,_=>s
def ag.lr(s:ag)(d:Option Nat)(v:AV)(o:Option au):ag :=
 match d with
 | some d=>{ ar:=s.ar.set d v,aC:=match o with
  | some o=>(d,o)::s.aC
  | none=>s.aC }
 | none=>s
def Hs(E:Env)(ops:List Oper)(m bits:Nat)(o:Oper)(K:ag->Prop)(s:ag):Prop :=
 match mN E s o with
 | []=>match Fm E (J7 ops m bits s) (Na ops m bits s) o with
  | some (vc,v,ob)=>vc.and (K (s.lr o.dst v ob))
  | none=>False
 | _=>False
def n8(
      E:Env) (ops:List Oper) (m:Nat) (bW:List Nat):Nat->List Oper->List (Nat×Bool)->(List (Nat×Bool)->ag->Prop)->ag->Prop
 | _,[],kn,Q,s=>Q kn s
 | i,o::r,kn,Q,s=>match o.guard with
  | none=>Hs E ops m (bW.getD i 0) o (n8 E ops m bW (i+1) r kn Q) s
  | some (
      g,want)=>match bG ops g,Nat.testBit (bW.getD i 0) g with
   | some t,true=>match ae kn t with
    | some b=>match s.eval (.tmp t) with
     | .az ⟨.bool,b'⟩=>match b' == b,b == want with
      | true,true=>Hs E ops m (bW.getD i 0) o (n8 E ops m bW (i+1) r kn Q) s
      | true,false=>n8 E ops m bW (i+1) r kn Q (s.put o.dst .eV)
      | false,_=>False
     | .eV=>n8 E ops m bW (i+1) r kn Q (s.put o.dst .eV)
     | _=>False
    | none=>match s.eval (.tmp t) with
     | .az ⟨.bool,b⟩ =>
      (b=want->Hs E ops m (bW.getD i 0) o (n8 E ops m bW (i+1) r ((t,want)::kn) Q) (s.put (some t) (.az ⟨.bool,want⟩))) /\
      (b = !want->n8 E ops m bW (i+1) r ((t,!want)::kn) Q ((s.put (some t) (.az ⟨.bool,!want⟩)).put o.dst .eV))
     | .eV=>n8 E ops m bW (i+1) r kn Q (s.put o.dst .eV)
     | _=>False
   | _,_=>False
def distinct:List (Option Nat)->Bool
 | []=>true
 | none::_=>false
 | some d::r=>match r.any λ x=>match x with
   | some e=>Nat.beq d e
   | none=>false with
  | true=>false
  | false=>distinct r
def backward(ops:List Oper):Bool:=(List.range ops.length).all λ i=>match ops[i]? with
 | some o=>o.after.toList.all λ e=>match Region.binds .any e with
  | true=>Nat.blt e.on i
  | false=>true
 | none=>true
def uu(ops:List Oper)(s:ag)(K:Prop):Prop :=
 match ops with
 | []=>K
 | o::r=>match MT o.op,o.dst with
  | true,some d=>known (s.ar.getD d .any) (uu r s K)
  | _,_=>uu r s K
def L3(bW:List Nat)(p:Nat):Bool:=(bW.drop p).all λ b=>Nat.beq (b % 2 ^ p) (2 ^ p - 1)
def Gc(bW:List Nat):List Nat->List Nat
 | []=>[]
 | p::r=>match L3 bW p with
  | true=>p::Gc bW r
  | false=>Gc bW r
def rU:List (Option Nat)->Bool
 | []=>true
 | none::r=>rU r
 | some d::r=>match r.any λ x=>match x with
   | some e=>Nat.beq d e
   | none=>false with
  | true=>false
  | false=>rU r
def BE(l:List Oper)(lo hi:Nat):Bool :=
 ((
  (l.take hi).drop lo).all λ o=>tz o.dst)&&rU (((l.take hi).drop lo).map (·.dst))&&(l.take lo).all λ o=>match o.dst with
  | none=>true
  | some d => !(((l.take hi).drop lo).any λ p=>match p.dst with
   | some e=>Nat.beq d e
   | none=>false)
def Oper.alone(E:Env)(o:Oper):Bool:=match o.op with
 | .store .. | .mapUpdate .. | .insert .. => true
 | _=>match o.dst with
  | some d=>E.own.contains d
  | none=>false
def vy(u v:TV):Prop:=match u.Z9 v.τ with
 | some x=>x=v.x
 | none=>False
def PG:Op->Option (List Operand)
 | .move x | .assign x | .nilCheck x | .fieldAddr _ x _ | .load _ x | .box _ x | .extract x _=>some [x]
 | .indexAddr _ x i | .store _ x i | .lookup _ x i _=>some [x,i]
 | .mapUpdate _ m k x | .insert _ m k x=>some [m,k,x]
 | .makeMap _ none=>some []
 | .alloc _=>some []
 | .binOp _ _ x y _=>some [x,y]
 | .build _ ps=>some (ps.toList.map (·.2))
 | .buildSlice _ _ ps=>some (ps.toList.map (·.2))
 | .call c=>match c.callee with
  | .value f=>some (f::c.args.toList)
  | .builtin _=>some c.args.toList
  | _=>none
 | .pick c x y=>some [c,x,y]
 | _=>none
def ik(D:List Nat)(o:Oper):Bool:=match PG o.op with
 | some l=>l.all λ x=>match x with
  | .tmp t => !D.contains t
  | _=>true
 | none=>false
def reads:Op->Bool
 | .move _ | .nilCheck _ | .fieldAddr .. | .load .. | .indexAddr .. => true
 | _=>false
def Uv(E:Env)(s:ag)(o:Oper):Option (Vc×AV):=match reads o.op with
 | true=>match Fm E s.ae s.eval o with
  | some (vc,v,none)=>some (vc,v)
  | _=>none
 | false=>none
def FU:AV->AV->Prop
 | .az v, .az u=>vy v u
 | .gK v, .gK u=>vy v u
 | .aq i, .aq j=>i=j
 | .row i, .row j=>i=j
 | .ptr i p, .ptr j q=>i=j/\p=q
 | .nil, .nil=>True
 | .eV, .eV=>True
 | _,_=>False
def K0:List AV->List AV->Prop
 | [],[]=>True
 | a::Z9,b::bs=>FU a b/\K0 Z9 bs
 | _,_=>False
def OO(a b:AV):Prop:=match a,b with
 | .agg Z9, .agg bs=>K0 Z9 bs
 | a,b=>FU a b
def jj(E:Env):List (Nat×Oper)->ag->Prop->Prop
 | [],_,K=>K
 | r::rs,s,K=>match r.2.dst,Uv E s r.2 with
  | some d,some (vc,v)=>vc.and (OO v (s.ar.getD d .any)/\jj E rs s K)
  | _,_=>False
def FW(E:Env):List (Nat×Oper)->(ag->Prop)->ag->Prop
 | [],K,s=>K s
 | r::rs,K,s=>match r.2.dst,Uv E s r.2 with
  | some d,some (vc,v)=>vc.and (known v (FW E rs K (s.put (some d) v)))
  | _,_=>False
def dstsOf(R:List (Nat×Oper)):List Nat:=R.filterMap λ r=>r.2.dst
def o9:Op->Bool
 | .alloc _=>true
 | _=>false
def lW:Op->Bool
 | .extract .. => true
 | _=>false
def wv:Op->Bool
 | .buildSlice _ len ps=>Nat.beq len 0&&Nat.beq ps.size 0
 | _=>false
def dR(op:Op):Bool:=o9 op||(lW op||wv op)
def sF(X:List (Nat×Oper)):List Nat:=X.filterMap λ x=>match dR x.2.op with
 | true=>x.2.dst
 | false=>none
def we(s:ag):Op->Bool
 | .extract t i=>match s.eval t with
  | .kr vs=>Nat.blt i vs.length
  | _=>false
 | _=>true
def Pu(bW:List Nat)(X:List (Nat×Oper))(s:ag):Bool:=X.all λ e=>we s e.2.op||X.any λ y => !dR y.2.op&&Nat.testBit (bW.getD e.1 0) y.1
def GU(bW:List Nat)(x:Nat×Oper):List (Nat×Oper)->List (Nat×Oper)
 | []=>[x]
 | y::ys=>match Nat.testBit (bW.getD y.1 0) x.1 with
  | true=>x::y::ys
  | false=>y::GU bW x ys
def E7(bW:List Nat):List (Nat×Oper)->List (Nat×Oper)
 | []=>[]
 | x::xs=>match dR x.2.op with
  | true=>GU bW x (E7 bW xs)
  | false=>x::E7 bW xs
def qN(E:Env)(o:Oper):Bool:=match o.op with
 | .alloc T=>o.dst.isSome&&(tz o.dst&&(ae E.ty T).isSome)
 | .extract .. => o.dst.isSome
 | .buildSlice T len ps => !(Nat.beq len 0&&Nat.beq ps.size 0)||(match o.dst,ae E.ty T with
  | some d,some (.slice _,_)=>Nat.blt d 400000&&(E.ro.contains d && !E.own.contains d)
  | _,_=>false)
 | _=>true
def Lb(bW:List Nat)(X:List (Nat×Oper))(y:Nat×Oper):Bool := !dR y.2.op&&X.all λ z=>dR z.2.op || !Nat.testBit (bW.getD y.1 0) z.1
def yc(p:Nat×Oper->Bool)(f:Nat×Oper->Prop):List (Nat×Oper)->Prop
 | []=>True
 | y::ys=>match p y with
  | true=>f y/\yc p f ys
  | false=>yc p f ys
def jM(E:Env)(bW:List Nat):Nat->List (Nat×Oper)->List (Nat×Oper)->(ag->Prop)->ag->Prop
 | 0,_,X,K,s=>match X with
  | []=>K s
  | _::_=>False
 | n+1,R,X,K,s=>match X with
  | []=>K s
  | x::xs=>match Pu bW (x::xs) s with
   | true=>match ik (dstsOf (R.filter λ r => !Nat.testBit (bW.getD x.1 0) r.1)++sF xs) x.2&&xs.all λ y=>dR y.2.op||Nat.testBit (bW.getD y.1 0) x.1 with
    | true=>mP E x.2 (λ s'=>jj E (R.filter λ r => !Nat.testBit (bW.getD x.1 0) r.1) s' (jM E bW n (R.filter λ r => !Nat.testBit (bW.getD x.1 0) r.1) xs K s')) s
    | false=>match dR x.2.op with
     | true=>False
     | false=>yc (Lb bW (x::xs)) (λ y=>match ik (dstsOf (R.filter λ r => !Nat.testBit (bW.getD y.1 0) r.1)++sF ((x::xs).filter λ z => !Nat.beq z.1 y.1)) y.2 with
      | true=>mP E y.2 (λ s'=>jj E (R.filter λ r => !Nat.testBit (bW.getD y.1 0) r.1) s' (jM E bW n (R.filter λ r => !Nat.testBit (bW.getD y.1 0) r.1) ((x::xs).filter λ z => !Nat.beq z.1 y.1) K s')) s
      | false=>False) (x::xs)
   | false=>False
def ng:Nat->List Oper->List (Nat×Oper)
 | _,[]=>[]
 | i,o::r=>(i,o)::ng (i+1) r
def Hp(E:Env)(o:Oper):Bool:=reads o.op&&(match o.dst with
 | some d => !E.own.contains d
 | none=>true)
def oE(E:Env)(bW:List Nat)(gG:List (Nat×Oper))(r:Nat×Oper):Bool :=
 Hp E r.2&&gG.all λ y=>Hp E y.2 || !Nat.testBit (bW.getD r.1 0) y.1
def Wj(E:Env)(bW:List Nat)(gG:List (Nat×Oper)):Bool :=
 (gG.all λ r=>r.2.guard.isNone&&qN E r.2)&&gG.all λ r => !(oE E bW gG r||lW r.2.op)||ik (dstsOf (gG.filter λ y => !Nat.testBit (bW.getD r.1 0) y.1)++bif lW r.2.op then sF gG else []) r.2
def S7(E:Env)(bW:List Nat)(gG:List (Nat×Oper))(K:ag->Prop)(s:ag):Prop :=
 match Wj E bW gG with
 | true=>FW E (gG.filter (oE E bW gG)) (λ s'=>jj E (gG.filter (oE E bW gG)) s' (jM E bW gG.length (gG.filter (oE E bW gG)) (E7 bW (gG.filter λ r => !oE E bW gG r)) K s')) s
 | false=>False
def sR(E:Env)(ops:Array Oper)(l:List Oper)(bW:List Nat):List Nat->Nat->List (Nat×Bool)->(ag->Prop)->ag->Prop
 | [],lo,_,Q,s=>match Nat.beq lo l.length with
  | true=>Q s
  | false=>False
 | hi::r,lo,kn,Q,s=>match L3 bW hi&&(L3 bW lo&&(Nat.blt lo hi&&Nat.ble hi l.length)) with
  | true=>match Nat.beq hi (lo+1) with
   | true=>gn E ops ((l.take hi).drop lo) kn (sR E ops l bW r hi kn Q) s
   | false=>match BE l lo hi,((l.take hi).drop lo).any (Oper.alone E) with
    | true,true=>S7 E bW (ng lo ((l.take hi).drop lo)) (sR E ops l bW r hi kn Q) s
    | true,false=>n8 E l hi bW lo ((l.take hi).drop lo) kn (λ kn s=>uu ((l.take hi).drop lo) s (sR E ops l bW r hi kn Q s)) (((l.take hi).drop lo).foldl ag.fresh s)
    | false,_=>False
  | false=>False
def K3(E:Env)(ops:Array Oper)(Q:ag->Prop)(s:ag):Prop :=
 let l:=ops.toList
 let bW:=bI l []
 let m:=nT bW 0 0
 match ((l.take m).all λ o=>tz o.dst)&&(distinct ((l.take m).map (·.dst))&&backward l) with
 | true=>n8 E l m bW 0 (l.take m) [] (λ kn s=>uu (l.take m) s (gn E ops (l.drop m) kn Q s)) ((l.take m).foldl ag.fresh s)
 | false=>False
def HT(E:Env)(ops:Array Oper)(Q:ag->Prop)(s:ag):Prop :=
 let l:=ops.toList
 let bW:=bI l []
 match (l.take (nT bW 0 0)).any (Oper.alone E) with
 | false=>K3 E ops Q s
 | true=>match backward l with
  | true=>sR E ops l bW (Gc bW ((List.range l.length).map (·+1))) 0 [] Q s
  | false=>False
inductive KV where
 | b (x:Bool)
 | no
def KV.val:KV->Value
 | .b x => .bool x
 | .no=>undef
def rK(o:Oper)(v:KV):Oper:={ o with op := .move (.const v.val),guard:=none }
def Bn(o:Oper):Oper:={ o with guard:=none }
def isDst(l:List Oper)(t:Nat):Bool:=l.any λ o=>match o.dst with
 | some d=>Nat.beq d t
 | none=>false
def Pz(l:List Oper)(o:Oper)(t:Nat):Bool := !isDst l t||o.after.toList.any λ e=>Region.binds .any e&&(match bG l e.on with
 | some d=>Nat.beq d t
 | none=>false)
def I0(l:List Oper)(o:Oper)(x:Operand)(kn:List (Nat×KV))(s:ag)(K:KV->List (Nat×KV)->ag->Prop):Prop :=
 match x with
 | .const (.bool b)=>K (.b b) kn s
 | .tmp t=>match Pz l o t with
  | true=>match ae kn t with
   | some v=>K v kn s
   | none=>match isDst l t with
    | true=>False
    | false=>match s.eval (.tmp t) with
     | .az ⟨.bool,b⟩=>(b=true->K (.b true) ((t, .b true)::kn) (s.put (some t) (.az ⟨.bool,true⟩)))/\(b=false->K (.b false) ((t, .b false)::kn) (s.put (some t) (.az ⟨.bool,false⟩)))
     | _=>False
  | false=>False
 | _=>False
def KA(l:List Oper)(o:Oper)(kn:List (Nat×KV)):Option Bool:=match o.guard with
 | none=>some true
 | some (g,want)=>match o.after.toList.any λ e=>Region.binds .any e&&Nat.beq e.on g with
  | true=>match bG l g with
   | some t=>match ae kn t with
    | some (.b b)=>some (b == want)
    | some .no=>some false
    | none=>none
   | none=>none
  | false=>none
def rS(l:List Oper)(yO:List Nat):List Oper->List Oper->List (Nat×KV)->ag->(List Oper->ag->Prop)->Prop
 | [],acc,_,s,K=>K acc s
 | o::r,acc,kn,s,K=>match KA l o kn with
  | some true=>match o.dst,o.op with
   | some d, .move x=>match yO.contains d&&Nat.blt d s.ar.length with
    | true=>I0 l o x kn s λ v kn s=>rS l yO r (acc++[rK o v]) ((d,v)::kn) s K
    | false=>rS l yO r (acc++[Bn o]) kn s K
   | some d, .pick c x y=>match yO.contains d&&Nat.blt d s.ar.length with
    | true=>I0 l o c kn s λ v kn s=>match v with
     | .b true=>I0 l o x kn s λ v kn s=>rS l yO r (acc++[rK o v]) ((d,v)::kn) s K
     | .b false=>I0 l o y kn s λ v kn s=>rS l yO r (acc++[rK o v]) ((d,v)::kn) s K
     | .no=>False
    | false=>rS l yO r (acc++[Bn o]) kn s K
   | _,_=>rS l yO r (acc++[Bn o]) kn s K
  | some false=>rS l yO r (acc++[rK o .no]) (match o.dst with
   | some d=>(d, .no)::kn
   | none=>kn) s K
  | none=>False
def slotsOf:List Operand->List Nat
 | []=>[]
 | .tmp t::r=>t::slotsOf r
 | _::r=>slotsOf r
def XB(l:List Oper):List Nat:=l.foldr (λ o acc =>
 let acc:=match o.guard with
  | some (g,_)=>match bG l g with
   | some t=>t::acc
   | none=>acc
  | none=>acc
 match o.dst,o.op with
 | some d, .move x=>bif acc.contains d then slotsOf [x]++acc else acc
 | some d, .pick c x y=>bif acc.contains d then slotsOf [c,x,y]++acc else acc
 | _,_=>acc) []
def Oa(E:Env)(l:List Oper):Nat->List Nat->Bool
 | _,[]=>false
 | lo,hi::r=>(Nat.blt (lo+1) hi&&(((l.take hi).drop lo).any (Oper.alone E)&&((l.take hi).drop lo).any λ o=>o.guard.isSome))||Oa E l hi r
def K1(E:Env)(ops:Array Oper)(Q:ag->Prop)(s:ag):Prop :=
 let l:=ops.toList
 let bW:=bI l []
 match (l.take (nT bW 0 0)).any (Oper.alone E)&&Oa E l 0 (Gc bW ((List.range l.length).map (·+1))) with
 | false=>HT E ops Q s
 | true=>match rU (l.map (·.dst)) with
  | true=>rS l (XB l) l [] [] s λ l' s'=>match backward l' with
   | true=>sR E l'.toArray l' (bI l' []) (Gc (bI l' []) ((List.range l'.length).map (·+1))) 0 [] Q s'
   | false=>False
  | false=>False
inductive aW:Type 1 where
 | none
 | mk (ι:Type) (P:ι->Prop) (μ:ι->Nat) (fz dead:List Nat) (ins:ι->List (Nat×AV)) (aQ:List Nat) (os:ι->List (Nat×au)) (Oo XK:List (Nat×Nat)) (sub:ι->Nat->aW)
def Code.y7:Code->List Nat
 | .region _ ops _=>ops.toList.filterMap (·.dst)
 | .seq a b=>Code.y7 a++Code.y7 b
 | .cond _ a b=>Code.y7 a++Code.y7 b
 | .block _ c=>Code.y7 c
 | .loop c=>Code.y7 c
 | .scope c=>Code.y7 c
 | _=>[]
def Code.first:Code->Option Nat
 | .region id _ _=>some id
 | .seq a _=>Code.first a
 | .block _ c=>Code.first c
 | .loop c=>Code.first c
 | .cond _ a _=>Code.first a
 | _=>none
def Code.Xw(Λ:Nat->aW)(b:Code):aW:=match Code.first b with
 | some r=>Λ (r+100000)
 | none => .none
def Tu(sl:List AV):List (Nat×AV)->List AV
 | []=>sl
 | (t,v)::r=>Tu (sl.set t v) r
def Ir(aQ:List Nat):List (Nat×au)->List (Nat×au)
 | []=>[]
 | (k,o)::r=>match aQ.contains k with
  | true=>(k,o)::Ir aQ r
  | false=>Ir aQ r
def rY(s:ag)(y7:List Nat)(ins:List (Nat×AV))(aQ:List Nat)(os:List (Nat×au)):ag :=
 { ar:=Tu (y7.foldl (λ l t=>l.set t .any) s.ar) ins,aC:=os++Ir aQ s.aC }
def dC(ρ:List (Nat×Nat))(id:Nat):Nat:=match ae ρ id with
 | some k=>k
 | none=>id
def isRow:Option au->Bool
 | some (.row ..)=>true
 | _=>false
def im:Option au->Bool
 | some (.box _)=>true
 | _=>false
def E6:Option au->Bool
 | some (.map _)=>true
 | _=>false
def AV.tQ(ρ:List (Nat×Nat))(s t:ag)(a b:AV):Prop :=
 match b with
 | .any=>True
 | .az v=>match a with
  | .az u=>vy u v
  | .nil=>match v with
   | ⟨.slice _,xs⟩=>xs=[]
   | _=>False
  | _=>False
 | .nil=>match a with
  | .nil=>True
  | _=>False
 | .gK v=>match a with
  | .gK u=>vy u v
  | _=>False
 | .ptr id off=>match a with
  | .ptr i o=>match Nat.beq i (dC ρ id)&&Nat.beq o off&&im (t.ae id) with
   | true=>True
   | false=>False
  | _=>False
 | .row id=>match a with
  | .row i=>match Nat.beq i (dC ρ id)&&isRow (t.ae id) with
   | true=>True
   | false=>False
  | .nil=>match isRow (t.ae id),s.ae (dC ρ id) with
   | true,Option.none=>True
   | _,_=>False
  | _=>False
 | .aq id=>match a with
  | .aq i=>match Nat.beq i (dC ρ id)&&cp (t.ae id) with
   | true=>True
   | false=>False
  | .nil=>match cp (t.ae id),s.ae (dC ρ id) with
   | true,Option.none=>True
   | _,_=>False
  | _=>False
 | .fn f=>match a with
  | .fn g=>match Nat.beq f g with
   | true=>True
   | false=>False
  | _=>False
 | .mp id=>match a with
  | .mp i=>match Nat.beq i (dC ρ id)&&E6 (t.ae id) with
   | true=>True
   | false=>False
  | _=>False
 | _=>False
def DV(ρ:List (Nat×Nat))(s t:ag):List AV->List AV->Prop
 | [],[]=>True
 | a::Z9,b::bs=>match b with
  | .any=>DV ρ s t Z9 bs
  | b=>AV.tQ ρ s t a b/\DV ρ s t Z9 bs
 | _,_=>False
def AV.X2(ρ:List (Nat×Nat))(s t:ag)(a b:AV):Prop :=
 match a,b with
 | .agg Z9, .agg bs=>DV ρ s t Z9 bs
 | a,b=>AV.tQ ρ s t a b
def Qt(ρ:List (Nat×Nat))(s t:ag):List AV->List AV->Prop
 | [],[]=>True
 | a::Z9,b::bs=>match b with
  | .any=>Qt ρ s t Z9 bs
  | b=>AV.X2 ρ s t a b/\Qt ρ s t Z9 bs
 | _,_=>False
def Td(u v:FV):Prop:=match u.Z9 v.ps v.r with
 | some F=>F=v.F
 | none=>False
def AV.fit(ρ:List (Nat×Nat))(s t:ag)(a b:AV):Prop :=
 match a,b with
 | .dw f Z9, .dw g bs=>match Nat.beq f g with
  | true=>Qt ρ s t Z9 bs
  | false=>False
 | .jO u, .jO v=>Td u v
 | .agg Z9, .agg bs=>DV ρ s t Z9 bs
 | .agg Z9, .az v=>match AQ (λ _=>none) v.τ (.agg Z9) with
  | some x=>x=v.x
  | none=>False
 | a,b=>AV.tQ ρ s t a b
def yg(ρ:List (Nat×Nat))(s t:ag):List AV->List AV->Prop
 | [],[]=>True
 | a::Z9,b::bs=>match b with
  | .any=>yg ρ s t Z9 bs
  | b=>AV.fit ρ s t a b/\yg ρ s t Z9 bs
 | _,_=>False
def XN(x:M):po:=⟨x.af,x.al,some x.J⟩
def PW(aV:Ty)(ys:List aV.den)(τ:Ty)(xs:List τ.den):Prop :=
 match decide (τ = .st .oExpr),decide (aV = .st .expr) with
 | true,true=>vy ⟨.slice (.st .oExpr),((show Option (List M) from TV.Z9 (.slice (.st .expr)) ⟨.slice aV,ys⟩).getD []).map XN⟩ ⟨.slice τ,xs⟩
 | _,_=>vy ⟨.slice aV,ys⟩ ⟨.slice τ,xs⟩
def Su(a b:MV):Prop:=match a.Z9 b.κ b.ε with
 | some (f,n)=>f=b.f/\n=b.n
 | none=>False
def mj(ρ:List (Nat×Nat))(s t:ag):List (Nat×au)->Prop
 | []=>True
 | (id, .box bs)::r=>match s.ae (dC ρ id) with
  | some (.box Z9)=>DV ρ s t Z9 bs/\mj ρ s t r
  | _=>False
 | (id, .row e τ xs)::r=>match s.ae (dC ρ id) with
  | some (.row e' aV ys)=>match Nat.beq e e' with
   | true=>vy ⟨.slice aV,ys⟩ ⟨.slice τ,xs⟩/\mj ρ s t r
   | false=>False
  | Option.none=>xs=[]/\mj ρ s t r
  | _=>False
 | (id, .aq τ xs)::r=>match s.ae (dC ρ id) with
  | some (.aq aV ys)=>PW aV ys τ xs/\mj ρ s t r
  | Option.none=>xs=[]/\mj ρ s t r
  | _=>False
 | (id, .map m)::r=>match s.ae (dC ρ id) with
  | some (.map m')=>Su m' m/\mj ρ s t r
  | _=>False
def Fits(ρ:List (Nat×Nat))(s t:ag):Prop :=
 match (nodupB (t.aC.map (·.1))&&nodupB (t.aC.map λ p=>dC ρ p.1))&&t.aC.all (λ p=>Nat.blt p.1 50||(Nat.ble 100 p.1||(Nat.beq (dC ρ p.1) p.1&&cp (s.ae p.1))))&&t.aC.all (λ p=>Nat.blt p.1 400000||(!im (some p.2)||(Nat.beq (dC ρ p.1) p.1&&im (s.ae p.1)))) with
 | true=>yg ρ s t s.ar t.ar/\mj ρ s t t.aC
 | false=>False
def Ww(ρ:List (Nat×Nat))(a b:AV):List (Nat×Nat):=match b with
 | .aq k=>match a with
  | .aq i=>match Nat.beq i (dC ρ k) with
   | true=>[]
   | false=>[(k,i)]
  | _=>[]
 | _=>[]
def SM(ρ:List (Nat×Nat)):List AV->List AV->List (Nat×Nat)
 | a::Z9,b::bs=>Ww ρ a b++SM ρ Z9 bs
 | _,_=>[]
def ZG(ρ:List (Nat×Nat))(a b:AV):List (Nat×Nat):=match b with
 | .agg bs=>match a with
  | .agg Z9=>SM ρ Z9 bs
  | _=>[]
 | b=>Ww ρ a b
def MD(ρ:List (Nat×Nat)):List AV->List AV->List (Nat×Nat)
 | a::Z9,b::bs=>ZG ρ a b++MD ρ Z9 bs
 | _,_=>[]
def CU(ρ:List (Nat×Nat))(s:ag):List (Nat×au)->List (Nat×Nat)
 | []=>[]
 | (id, .box bs)::r=>match s.ae (dC ρ id) with
  | some (.box Z9)=>SM ρ Z9 bs++CU ρ s r
  | _=>CU ρ s r
 | _::r=>CU ρ s r
def O4:List (Nat×Nat)->(List (Nat×Nat)->Prop)->Prop
 | [],K=>K []
 | (a,b)::r,K=>O4 r λ r'=>K ((a,b)::r')
theorem Gn:∀ {l:List (Nat×Nat)} {K:List (Nat×Nat)->Prop},O4 l K->K l
 | [],_,h=>h
 | (a,b)::r,K,h=>Gn (l:=r) (K:=λ r'=>K ((a,b)::r')) h
def KP(ρ:List (Nat×Nat))(s t:ag):Prop:=O4 (CU ρ s t.aC++MD ρ s.ar t.ar) λ r=>Fits (r++ρ) s t
theorem KP.ex{ρ:List (Nat×Nat)}{s t:ag}(h:KP ρ s t):∃ r,Fits (r++ρ) s t:=⟨_,Gn h⟩
def dd(E:Env):Code->(Nat->aW)->Nat->(Exit->ag->Prop)->ag->Prop
 | .skip,_,_,Q,s=>Q .normal s
 | .region _ ops draw,_,_,Q,s=>match draw with
  | true=>K1 E ops (Q .normal) s
  | false=>gn E ops ops.toList [] (Q .normal) s
 | .seq a b,Λ,cur,Q,s=>match Code.Xw Λ b with
  | .none=>dd E a Λ cur (λ e s'=>match e with
   | .normal=>dd E b Λ cur Q s'
   | e=>Q e s') s
  | .mk ι P _ fz dead ins aQ os Oo _ sub =>
   let y7:=dead++Code.y7 a
   dd E a Λ cur (λ e s'=>match e with
    | .normal=>∃ j:ι,P j/\KP Oo (fz.foldl ag.freeze s') (rY s y7 (ins j) aQ (os j))
    | e=>Q e s') s /\
   ∀ i:ι,P i->dd E b (sub i) cur Q (rY s y7 (ins i) aQ (os i))
 | .cond c a b,Λ,cur,Q,s=>match s.eval c with
  | .az ⟨.bool,t⟩=>(t=true->dd E a Λ cur Q s)/\(t=false->dd E b Λ cur Q s)
  | _=>False
 | .block id c,Λ,_,Q,s=>dd E c Λ id (λ e s'=>match e with
  | .exit i=>match Nat.beq i id with
   | true=>Q .normal s'
   | false=>Q (.exit i) s'
  | e=>Q e s') s
 | .loop c,Λ,cur,Q,s=>match Λ cur with
  | .none=>False
  | .mk ι P μ fz dead ins aQ os Oo XK sub =>
   let y7:=dead++Code.y7 c
   (∃ i:ι,P i/\KP Oo (fz.foldl ag.freeze s) (rY s y7 (ins i) aQ (os i))) /\
   ∀ i:ι,P i->dd E c (sub i) cur (λ e s'=>match e with
    | .normal=>∃ j:ι,P j/\μ j<μ i/\KP XK (fz.foldl ag.freeze s') (rY s y7 (ins j) aQ (os j))
    | e=>Q e s') (rY s y7 (ins i) aQ (os i))
 | .exit id,_,_,Q,s=>Q (.exit id) s
 | .ret,_,_,Q,s=>Q .ret s
 | .label _,_,_,Q,s=>Q .normal s
 | _,_,_,_,_=>False
def IL(E:Env)(s:ag):List ResultVar->List TypeId->Option (List TV)
 | [],[]=>some []
 | r::rs,T::Ts=>match ae E.ty T with
  | some (τ,_)=>match (match r with
    | .tmp t=>AQ (Ha s.ae) τ (s.eval (.tmp t))
    | .cell a t=>match Nat.beq t T with
     | true=>deref (Ha s.ae) τ (s.eval (.tmp a))
     | false=>none) with
   | some x=>match IL E s rs Ts with
    | some l=>some (⟨τ,x⟩::l)
    | none=>none
   | none=>none
  | none=>none
 | _,_=>none
def KW:Arg->AV
 | .val v => .az v
 | .ref v => .gK v
 | .fn f => .fn f
 | .dw v => .jO v
 | .own _ => .any
 | .box _ => .any
def aU(fn:Func)(args:List Arg):ag :=
 { ar:=args.map KW++List.replicate (fn.ntmps - args.length) .any,aC:=[] }
def sy:Nat->List Arg->ag->ag
 | _,[],s=>s
 | p, .own v::r,s=>sy (p+1) r { ar:=s.ar.set p (fV (1000000+100 * p) v),aC:=bS (1000000+100 * p) v.cells++s.aC }
 | p,_::r,s=>sy (p+1) r s
def z7(fn:Func)(args:List Arg):ag:=sy 0 args (aU fn args)
def bO(E:Env)(fn:Func)(post:List TV->Prop)(e:Exit)(s:ag):Prop :=
 match e with
 | .ret | .normal=>match IL E s fn.results.toList fn.resultTypes.toList with
  | some vs=>post vs
  | none=>False
 | _=>False
def bR:List TV->List TV->Prop
 | [],[]=>True
 | [v],[u]=>vy v u
 | v::vs,u::us=>vy v u/\bR vs us
 | _,_=>False
end
end Go.Proofs.YtaaamahdcpcofaaDoor

namespace Go.Proofs.YtaaamahdcpcofaaDoor
def dk(w:World)(b o:Nat)(cs:List Value):Prop:=∀ j v,cs[j]?=some v->w.cell? ⟨b,o+j,none⟩=some v
def D.size:D->Nat
 | .agg ds=>ds.length
 | _=>1
mutual
def Rd(w:World)(S:Nat->Prop):D->List Value->Prop
 | .int k n,cs=>cs=[.int k n]/\k.min<=n/\n<=k.max
 | .bool b,cs=>cs=[.bool b]
 | .str s,cs=>∃ x:ByteArray,cs=[.string x]/\x.data.toList=s/\x.size<=140737488355328
 | .slice _ xs,cs=>∃ a cap,cs=[.slice a xs.length cap]/\xs.length<=cap/\cap<=maxLen/\xs.length<=140737488355328/\(xs=[]\/∃ b o,a=some ⟨b,o,none⟩/\S b/\dJ w S xs b o)
 | .agg ds,cs=>dB w S ds cs
 | .hole,cs=>∃ a n m,cs=[.slice a n m]
 | .ptr,cs=>∃ p,cs=[.pointer p]
def dB(w:World)(S:Nat->Prop):List D->List Value->Prop
 | [],cs=>cs=[]
 | d::ds,cs=>∃ v r,cs=v::r/\Rd w S d [v]/\dB w S ds r
def dJ(w:World)(S:Nat->Prop):List D->Nat->Nat->Prop
 | [],_,_=>True
 | d::ds,b,o=>(∃ cs,cs.length=d.size/\Rd w S d cs/\dk w b o cs)/\dJ w S ds b (o+d.size)
end
theorem dk.aQ{w w':World}{b o:Nat}{cs:List Value}(h:dk w b o cs)(hb:w'.heap[b]?=w.heap[b]?):dk w' b o cs :=
 λ j v hj=>by rw[<-h j v hj];exact a4e (a:=⟨b,o+j,none⟩) hb
mutual
theorem Rd.aQ{w w':World}{S S':Nat->Prop}(hS:∀ b,S b->S' b)(hw:∀ b,S b->w'.heap[b]?=w.heap[b]?):∀ (d:D) {cs:List Value},Rd w S d cs->Rd w' S' d cs
 | .int _ _,_,h=>h
 | .bool _,_,h=>h
 | .str _,_,h=>h
 | .slice _ xs,_,h=>by
  obtain⟨a,cap,h1,h2,h3,h4,h5⟩:=h
  refine⟨a,cap,h1,h2,h3,h4,h5.imp id ?_⟩
  rintro⟨b,o,ha,hb,hr⟩
  exact⟨b,o,ha,hS b hb,dJ.aQ hS hw xs b o hb hr⟩
 | .agg ds,_,h=>dB.aQ hS hw ds h
 | .hole,_,h=>h
 | .ptr,_,h=>h
theorem dB.aQ{w w':World}{S S':Nat->Prop}(hS:∀ b,S b->S' b)(hw:∀ b,S b->w'.heap[b]?=w.heap[b]?):∀ (ds:List D) {cs:List Value},dB w S ds cs->dB w' S' ds cs
 | [],_,h=>h
 | d::ds,_,h=>by
  obtain⟨v,r,h1,h2,h3⟩:=h
  exact⟨v,r,h1,Rd.aQ hS hw d h2,dB.aQ hS hw ds h3⟩
theorem dJ.aQ{w w':World}{S S':Nat->Prop}(hS:∀ b,S b->S' b)(hw:∀ b,S b->w'.heap[b]?=w.heap[b]?):∀ (ds:List D) (b o:Nat),S b->dJ w S ds b o->dJ w' S' ds b o
 | [],_,_,_,_=>trivial
 | d::ds,b,o,hb,h=>by
  obtain⟨⟨cs,h1,h2,h3⟩,h4⟩:=h
  exact⟨⟨cs,h1,Rd.aQ hS hw d h2,h3.aQ (hw b hb)⟩,dJ.aQ hS hw ds b _ hb h4⟩
end
theorem dB.length{w:World}{S:Nat->Prop}:∀ (ds:List D) {cs:List Value},dB w S ds cs->cs.length=ds.length
 | [],_,h=>by rw[show _=[] from h];rfl
 | d::ds,_,h=>by
  obtain⟨v,r,rfl,_,h3⟩:=h
  simp[dB.length ds h3]
theorem Rd.length{w:World}{S:Nat->Prop}(d:D){cs:List Value}(h:Rd w S d cs):cs.length=d.size:=by
 cases d with
 | int k n=>rw[h.1];rfl
 | bool b=>rw[show cs=_ from h];rfl
 | str s=>obtain⟨x,h,_⟩:=h;rw[h];rfl
 | slice n xs=>obtain⟨a,cap,h,_⟩:=h;rw[h];rfl
 | agg ds=>exact dB.length ds h
 | hole=>obtain⟨a,n,m,h⟩:=h;rw[h];rfl
 | ptr=>obtain⟨p,h⟩:=h;rw[h];rfl
theorem Ty.cK(t:Ty)(x:t.den):(t.aT x).size=t.size:=by
 cases t with
 | st s=>simp[Ty.aT,aM.cq,D.size,Ty.size,aM.ki]
 | mv t=>cases (show Option (List t.den) from x)<;>rfl
 | _=>rfl
theorem dJ.at_{w:World}{S:Nat->Prop}{n:Nat}:∀ (ds:List D) (b o:Nat),dJ w S ds b o->(∀ d∈ds,d.size=n)->∀ i d,ds[i]?=some d ->
  ∃ cs,cs.length=n/\Rd w S d cs/\dk w b (o+i * n) cs
 | [],_,_,_,_,i,d,h=>by simp at h
 | e::ds,b,o,h,hn,0,d,hi=>by
  obtain⟨⟨cs,h1,h2,h3⟩,_⟩:=h
  simp at hi
  subst hi
  exact⟨cs,by rw[h1];exact hn _ (by simp),h2,by simpa using h3⟩
 | e::ds,b,o,h,hn,i+1,d,hi=>by
  obtain⟨_,h4⟩:=h
  rw[hn e (by simp)] at h4
  obtain⟨cs,h1,h2,h3⟩:=dJ.at_ ds b (o+n) h4 (λ d hd=>hn d (by simp[hd])) i d (by simpa using hi)
  exact⟨cs,h1,h2,by rw[show o+(i+1) * n=o+n+i * n by rw[a2C];omega];exact h3⟩
theorem dJ.Vm{w:World}{S:Nat->Prop}{n:Nat}:∀ (k:Nat) (ds:List D) (b o:Nat),dJ w S ds b o->(∀ d∈ds,d.size=n)->dJ w S (ds.drop k) b (o+k * n)
 | 0,ds,b,o,h,_=>by simpa using h
 | k+1,[],b,o,h,_=>by simp[dJ]
 | k+1,d::ds,b,o,h,hn=>by
  have:=dJ.Vm k ds b (o+n) (by have:=h.2;rwa [hn d (by simp)] at this) (λ d hd=>hn d (by simp[hd]))
  rw[show o+(k+1) * n=o+n+k * n by rw[a2C];omega]
  exact this
theorem dJ.WJ{w:World}{S:Nat->Prop}:∀ (k:Nat) (ds:List D) (b o:Nat),dJ w S ds b o->dJ w S (ds.take k) b o
 | 0,ds,b,o,h=>by simp[dJ]
 | k+1,[],b,o,h=>by simp[dJ]
 | k+1,d::ds,b,o,h=>⟨h.1,dJ.WJ k ds b _ h.2⟩
def fJ(w:World)(S:Nat->Prop):List D->List Value->Prop
 | [],l=>l=[]
 | d::ds,l=>∃ c r,l=c++r/\Rd w S d c/\fJ w S ds r
theorem fJ.aQ{w w':World}{S S':Nat->Prop}(hS:∀ b,S b->S' b)(hw:∀ b,S b->w'.heap[b]?=w.heap[b]?):∀ (ds:List D) {l:List Value},fJ w S ds l->fJ w' S' ds l
 | [],_,h=>h
 | d::ds,_,h=>by
  obtain⟨c,r,h1,h2,h3⟩:=h
  exact⟨c,r,h1,Rd.aQ hS hw d h2,fJ.aQ hS hw ds h3⟩
theorem fJ.append{w:World}{S:Nat->Prop}:∀ (ds es:List D) {l m:List Value},fJ w S ds l->fJ w S es m->fJ w S (ds++es) (l++m)
 | [],_,_,_,h,k=>by rw[show _=[] from h];simpa using k
 | d::ds,es,_,m,h,k=>by
  obtain⟨c,r,rfl,h2,h3⟩:=h
  exact⟨c,r++m,by simp,h2,fJ.append ds es h3 k⟩
theorem fJ.length{w:World}{S:Nat->Prop}{n:Nat}:∀ (ds:List D) {l:List Value},fJ w S ds l->(∀ d∈ds,d.size=n)->l.length=ds.length * n
 | [],_,h,_=>by rw[show _=[] from h];simp
 | d::ds,_,h,hn=>by
  obtain⟨c,r,rfl,h2,h3⟩:=h
  rw[a1T,Rd.length d h2,hn d (by simp),fJ.length ds h3 (λ d hd=>hn d (by simp[hd])),a1M,a2C]
  omega
theorem fJ.row{w:World}{S:Nat->Prop}:∀ (ds:List D) {l:List Value} (b o:Nat),fJ w S ds l->dk w b o l->dJ w S ds b o
 | [],_,_,_,_,_=>trivial
 | d::ds,_,b,o,h,hc=>by
  obtain⟨c,r,rfl,h2,h3⟩:=h
  refine⟨⟨c,Rd.length d h2,h2,λ j v hj=>hc j v ?_⟩,fJ.row ds b _ h3 λ j v hj=>?_⟩
  .rw[a2M]
   .exact hj
   .exact (a2a.1 hj).1
  .have:=hc (c.length+j) v (by rw[List.getElem?_append_right (by omega)];simpa using hj)
   rwa [Rd.length d h2,<-a4o] at this
theorem dJ.cells{w:World}{S:Nat->Prop}:∀ (ds:List D) (b o:Nat),dJ w S ds b o->∃ l,fJ w S ds l/\dk w b o l
 | [],_,_,_=>⟨[],rfl,λ j v h=>by simp at h⟩
 | d::ds,b,o,h=>by
  obtain⟨⟨c,h1,h2,h3⟩,h4⟩:=h
  obtain⟨r,h5,h6⟩:=dJ.cells ds b _ h4
  refine⟨c++r,⟨c,r,rfl,h2,h5⟩,λ j v hj=>?_⟩
  rcases a2B j c.length with bC|Ph
  .exact h3 j v (by rwa [a2M bC] at hj)
  .rw[a3x Ph] at hj
   have:=h6 (j - c.length) v hj
   rwa [<-h1,show o+c.length+(j - c.length)=o+j by omega] at this
theorem fJ.at_{w:World}{S:Nat->Prop}{n:Nat}:∀ (ds:List D) {l:List Value},fJ w S ds l->(∀ d∈ds,d.size=n)->∀ i d,ds[i]?=some d->Rd w S d ((l.drop (i * n)).take n)
 | [],_,_,_,i,d,h=>by simp at h
 | e::ds,_,h,hn,0,d,hi=>by
  obtain⟨c,r,rfl,h2,h3⟩:=h
  simp at hi
  subst hi
  have:c.length=n:=by rw[Rd.length _ h2];exact hn _ (by simp)
  simpa [<-this] using h2
 | e::ds,_,h,hn,i+1,d,hi=>by
  obtain⟨c,r,rfl,h2,h3⟩:=h
  have hc:c.length=n:=by rw[Rd.length _ h2];exact hn _ (by simp)
  have:=fJ.at_ ds h3 (λ d hd=>hn d (by simp[hd])) i d (by simpa using hi)
  have h0:List.drop (n+i * n) c=[]:=a3u (by omega)
  rw[show (i+1) * n=n+i * n by rw[a2C];omega,List.drop_append,h0,a2K,show n+i * n - c.length=i * n by omega]
  exact this
def tE:Value->Bool
 | .int .. | .bool _ | .string _ | .slice .. | .pointer _=>true
 | _=>false
def D.leaf:D->Bool
 | .agg _=>false
 | _=>true
theorem Rd.tE{w:World}{S:Nat->Prop}{d:D}(hd:d.leaf=true){cs:List Value}(h:Rd w S d cs):∃ v,cs=[v]/\YtaaamahdcpcofaaDoor.tE v=true:=by
 cases d with
 | int k n=>exact⟨_,h.1,rfl⟩
 | bool b=>exact⟨_,h,rfl⟩
 | str s=>obtain⟨x,h,_⟩:=h;exact⟨_,h,rfl⟩
 | slice n xs=>obtain⟨a,cap,h,_⟩:=h;exact⟨_,h,rfl⟩
 | agg ds=>cases hd
 | hole=>obtain⟨a,n,m,h⟩:=h;exact⟨_,h,rfl⟩
 | ptr=>obtain⟨p,h⟩:=h;exact⟨_,h,rfl⟩
theorem wG{v:Value}(h:YtaaamahdcpcofaaDoor.tE v=true):v.oneCell'=true:=by cases v<;>first|rfl|cases h
theorem GY{v:Value}(h:YtaaamahdcpcofaaDoor.tE v=true):v.cells = #[v]:=by cases v<;>first|rfl|cases h
theorem Iw{α:Type}(n:Nat)(f:α->D)(o:Option (List α)):(XA n f o).leaf=true:=by cases o<;>rfl
theorem aM.qo(s:aM)(x:s.den):∀ v∈s.cells x,v.aT.leaf=true:=by
 cases s<;>simp[aM.cells,TV.aT,Ty.aT,D.leaf]<;>exact Iw _ _ _
end Go.Proofs.YtaaamahdcpcofaaDoor

namespace Go.Proofs.YtaaamahdcpcofaaDoor
mutual
def Ow(w:World):D->List Value->List Nat->Prop
 | .int k n,cs,fp=>(cs=[.int k n]/\k.min<=n/\n<=k.max)/\fp=[]
 | .bool b,cs,fp=>cs=[.bool b]/\fp=[]
 | .str s,cs,fp=>(∃ x:ByteArray,cs=[.string x]/\x.data.toList=s/\x.size<=140737488355328)/\fp=[]
 | .slice n xs,cs,fp=>∃ a cap,cs=[.slice a xs.length cap]/\xs.length<=cap/\cap<=maxLen/\xs.length<=140737488355328 /\
   ((xs=[]/\(a=none/\cap=0)/\fp=[])\/∃ b f l t,a=some ⟨b,0,none⟩/\fp=b::f/\w.heap[b]?=some (.cells l.toArray t (0,0))/\l.length=cap * n/\bV w xs l f)
 | .agg ds,cs,fp=>dA w ds cs fp
 | .hole,cs,fp=>(∃ a n m,cs=[.slice a n m])/\fp=[]
 | .ptr,cs,fp=>(∃ p,cs=[.pointer p])/\fp=[]
def dA(w:World):List D->List Value->List Nat->Prop
 | [],cs,fp=>cs=[]/\fp=[]
 | d::ds,cs,fp=>∃ v r f1 f2,cs=v::r/\fp=f1++f2/\Ow w d [v] f1/\dA w ds r f2
def bV(w:World):List D->List Value->List Nat->Prop
 | [],_,fp=>fp=[]
 | d::ds,l,fp=>∃ c r f1 f2,l=c++r/\fp=f1++f2/\Ow w d c f1/\bV w ds r f2
end
theorem dA.length{w:World}:∀ (ds:List D) {cs:List Value} {fp:List Nat},dA w ds cs fp->cs.length=ds.length
 | [],_,_,h=>by rw[h.1];rfl
 | d::ds,_,_,h=>by
  obtain⟨v,r,f1,f2,rfl,_,_,h4⟩:=h
  simp[dA.length ds h4]
theorem Ow.length{w:World}(d:D){cs:List Value}{fp:List Nat}(h:Ow w d cs fp):cs.length=d.size:=by
 cases d with
 | int k n=>rw[h.1.1];rfl
 | bool b=>rw[h.1];rfl
 | str s=>obtain⟨⟨x,h,_⟩,_⟩:=h;rw[h];rfl
 | slice n xs=>obtain⟨a,cap,h,_⟩:=h;rw[h];rfl
 | agg ds=>exact dA.length ds h
 | hole=>obtain⟨⟨a,n,m,h⟩,_⟩:=h;rw[h];rfl
 | ptr=>obtain⟨⟨p,h⟩,_⟩:=h;rw[h];rfl
theorem Bu{w:World}{b:Nat}{p c r:List Value}{t:TypeId}(h:w.heap[b]?=some (.cells (p++(c++r)).toArray t (0,0))):dk w b p.length c:=by
 intro j v hj
 have hl:j<c.length:=(a2a.1 hj).1
 have h2:(p++(c++r))[p.length+j]?=some v:=by
  rw[a3x (by omega),a3T,a2M hl];exact hj
 simp[World.cell?,h,h2]
mutual
theorem Ow.rd{w:World}{S:Nat->Prop}:∀ (d:D) {cs:List Value} {fp:List Nat},Ow w d cs fp->(∀ b∈fp,S b)->Rd w S d cs
 | .int _ _,_,_,h,_=>h.1
 | .bool _,_,_,h,_=>h.1
 | .str _,_,_,h,_=>h.1
 | .slice n xs,_,_,h,hS=>by
  obtain⟨a,cap,h1,h2,h3,h4,h5⟩:=h
  refine⟨a,cap,h1,h2,h3,h4,h5.imp And.left ?_⟩
  rintro⟨b,f,l,t,rfl,rfl,hb,_,hr⟩
  exact⟨b,0,rfl,hS b (by simp),bV.rd xs (p:=[]) (by simpa using hb) hr (λ b hb=>hS b (by simp[hb]))⟩
 | .agg ds,_,_,h,hS=>dA.rd ds h hS
 | .hole,_,_,h,_=>h.1
 | .ptr,_,_,h,_=>h.1
theorem dA.rd{w:World}{S:Nat->Prop}:∀ (ds:List D) {cs:List Value} {fp:List Nat},dA w ds cs fp->(∀ b∈fp,S b)->dB w S ds cs
 | [],_,_,h,_=>h.1
 | d::ds,_,_,h,hS=>by
  obtain⟨v,r,f1,f2,h1,rfl,h3,h4⟩:=h
  exact⟨v,r,h1,Ow.rd d h3 λ b hb=>hS b (by simp[hb]),dA.rd ds h4 λ b hb=>hS b (by simp[hb])⟩
theorem bV.rd{w:World}{S:Nat->Prop}{b:Nat}{t:TypeId}:∀ (ds:List D) {p l:List Value} {fp:List Nat},w.heap[b]?=some (.cells (p++l).toArray t (0,0))->bV w ds l fp->(∀ b∈fp,S b)->dJ w S ds b p.length
 | [],_,_,_,_,_,_=>trivial
 | d::ds,p,_,_,hb,h,hS=>by
  obtain⟨c,r,f1,f2,rfl,rfl,h3,h4⟩:=h
  have hl:=Ow.length d h3
  refine⟨⟨c,hl,Ow.rd d h3 λ b hb=>hS b (by simp[hb]),Bu hb⟩,?_⟩
  have:=bV.rd ds (p:=p++c) (l:=r) (by simpa using hb) h4 (λ b hb=>hS b (by simp[hb]))
  rw[<-hl]
  simpa using this
end
mutual
theorem Ow.aQ{w w':World}:∀ (d:D) {cs:List Value} {fp:List Nat},Ow w d cs fp->(∀ b∈fp,w'.heap[b]?=w.heap[b]?)->Ow w' d cs fp
 | .int _ _,_,_,h,_=>h
 | .bool _,_,_,h,_=>h
 | .str _,_,_,h,_=>h
 | .slice n xs,_,_,h,hw=>by
  obtain⟨a,cap,h1,h2,h3,h4,h5⟩:=h
  refine⟨a,cap,h1,h2,h3,h4,h5.imp id ?_⟩
  rintro⟨b,f,l,t,rfl,rfl,hb,hc,hr⟩
  exact⟨b,f,l,t,rfl,rfl,by rw[hw b (by simp)];exact hb,hc,bV.aQ xs hr λ b hb=>hw b (by simp[hb])⟩
 | .agg ds,_,_,h,hw=>dA.aQ ds h hw
 | .hole,_,_,h,_=>h
 | .ptr,_,_,h,_=>h
theorem dA.aQ{w w':World}:∀ (ds:List D) {cs:List Value} {fp:List Nat},dA w ds cs fp->(∀ b∈fp,w'.heap[b]?=w.heap[b]?)->dA w' ds cs fp
 | [],_,_,h,_=>h
 | d::ds,_,_,h,hw=>by
  obtain⟨v,r,f1,f2,h1,rfl,h3,h4⟩:=h
  exact⟨v,r,f1,f2,h1,rfl,Ow.aQ d h3 λ b hb=>hw b (by simp[hb]),dA.aQ ds h4 λ b hb=>hw b (by simp[hb])⟩
theorem bV.aQ{w w':World}:∀ (ds:List D) {l:List Value} {fp:List Nat},bV w ds l fp->(∀ b∈fp,w'.heap[b]?=w.heap[b]?)->bV w' ds l fp
 | [],_,_,h,_=>h
 | d::ds,_,_,h,hw=>by
  obtain⟨c,r,f1,f2,h1,rfl,h3,h4⟩:=h
  exact⟨c,r,f1,f2,h1,rfl,Ow.aQ d h3 λ b hb=>hw b (by simp[hb]),bV.aQ ds h4 λ b hb=>hw b (by simp[hb])⟩
end
mutual
def D.light:D->Bool
 | .slice .. => false
 | .agg ds=>D.CO ds
 | _=>true
def D.CO:List D->Bool
 | []=>true
 | d::ds=>d.light&&D.CO ds
end
mutual
theorem Ow.gf{w:World}{S:Nat->Prop}:∀ (d:D) {cs:List Value},d.light=true->Rd w S d cs->Ow w d cs []
 | .int _ _,_,_,h=>⟨h,rfl⟩
 | .bool _,_,_,h=>⟨h,rfl⟩
 | .str _,_,_,h=>⟨h,rfl⟩
 | .slice n xs,_,hl,h=>by
  obtain⟨a,cap,h1,h2,h3,h4,h5⟩:=h
  cases hl
 | .agg ds,_,hl,h=>dA.gf ds hl h
 | .hole,_,_,h=>⟨h,rfl⟩
 | .ptr,_,_,h=>⟨h,rfl⟩
theorem dA.gf{w:World}{S:Nat->Prop}:∀ (ds:List D) {cs:List Value},D.CO ds=true->dB w S ds cs->dA w ds cs []
 | [],_,_,h=>⟨h,rfl⟩
 | d::ds,_,hl,h=>by
  obtain⟨v,r,h1,h2,h3⟩:=h
  simp only[D.CO,a1z] at hl
  exact⟨v,r,[],[],h1,rfl,Ow.gf d hl.1 h2,dA.gf ds hl.2 h3⟩
end
theorem bV.gf{w:World}{S:Nat->Prop}:∀ (ds:List D) {l m:List Value},(∀ d∈ds,d.light=true)->fJ w S ds l->bV w ds (l++m) []
 | [],_,_,_,_=>rfl
 | d::ds,_,m,hl,h=>by
  obtain⟨c,r,rfl,h2,h3⟩:=h
  exact⟨c,r++m,[],[],by simp,rfl,Ow.gf d (hl d (by simp)) h2,bV.gf ds (λ d hd=>hl d (by simp[hd])) h3⟩
theorem DS{α:Type}(c r:List α)(k:Nat):(c++r).drop (c.length+k)=r.drop k:=by
 rw[<-a3n,a3E]
theorem xF{α:Type}(c r:List α)(k:Nat):(c++r).take (c.length+k)=c++r.take k:=by
 rw[a4V,a2F (by omega),a3T]
theorem bV.split{w:World}{n:Nat}:∀ (ds:List D) {l:List Value} {fp:List Nat} (i:Nat) (d:D),bV w ds l fp->(∀ d∈ds,d.size=n)->ds[i]?=some d ->
  ∃ f0 f1 f2,fp=f0++f1++f2/\i * n+n<=l.length/\Ow w d ((l.drop (i * n)).take n) f1 /\
   ∀ (w':World) (d':D) (c':List Value) (jN:List Nat),(∀ b∈f0++f2,w'.heap[b]?=w.heap[b]?)->c'.length=n->Ow w' d' c' jN->bV w' (ds.set i d') (l.take (i * n)++c'++l.drop (i * n+n)) (f0++jN++f2)
 | [],_,_,_,_,_,_,h=>by simp at h
 | e::ds,l,fp,0,d,h,hn,hi=>by
  obtain⟨c,r,f1,f2,rfl,rfl,h3,h4⟩:=h
  simp at hi
  subst hi
  have hc:c.length=n:=by rw[Ow.length _ h3];exact hn _ (by simp)
  refine⟨[],f1,f2,by simp,by simp;omega,?_,λ w' d' c' jN hw Nd xc=>?_⟩
  .simp only[a4E,a3Q];rw[<-hc,a3F];exact h3
  .simp only[a4E,a3R,a2K,a3j,a5z]
   rw[<-hc,a3E]
   exact⟨c',r,jN,f2,rfl,rfl,xc,bV.aQ ds h4 λ b hb=>hw b (by simp[hb])⟩
 | e::ds,l,fp,i+1,d,h,hn,hi=>by
  obtain⟨c,r,g1,g2,rfl,rfl,h3,h4⟩:=h
  have hc:c.length=n:=by rw[Ow.length _ h3];exact hn _ (by simp)
  obtain⟨f0,f1,f2,rfl,hlen,k1,k2⟩:=bV.split ds i d h4 (λ d hd=>hn d (by simp[hd])) (by simpa using hi)
  have e1:(i+1) * n=c.length+i * n:=by rw[hc,a2C];omega
  have e2:(i+1) * n+n=c.length+(i * n+n):=by omega
  refine⟨g1++f0,f1,f2,by simp,by simp;omega,?_,λ w' d' c' jN hw Nd xc=>?_⟩
  .rw[e1,DS];exact k1
  .rw[e1,show c.length+i * n+n=c.length+(i * n+n) by omega,xF,DS]
   have:=k2 w' d' c' jN (λ b hb=>hw b (by simp at hb ⊢;rcases hb with hb|hb<;>simp[hb])) Nd xc
   rw[show (e::ds).set (i+1) d'=e::ds.set i d' from rfl]
   exact⟨c,r.take (i * n)++c'++r.drop (i * n+n),g1,f0++jN++f2,by simp,by simp,Ow.aQ e h3 λ b hb=>hw b (by simp[hb]),this⟩
end Go.Proofs.YtaaamahdcpcofaaDoor

namespace Go.Proofs.YtaaamahdcpcofaaDoor
open Go.MapKept
def ua(τ:Ty)(x:τ.den)(v:Value):Prop:=∀ (w:World) (S:Nat->Prop),Rd w S (τ.aT x) [v]
theorem ua.of{τ:Ty}(kZ:τ.key=true){x:τ.den}{v:Value}{w:World}{S:Nat->Prop}(h:Rd w S (τ.aT x) [v]):ua τ x v:=by
 intro w' S'
 cases τ with
 | int k=>exact h
 | bool=>exact h
 | str=>exact h
 | _=>cases kZ
theorem ua.val{τ:Ty}(kZ:τ.key=true){x y:τ.den}{v:Value}(h:ua τ x v)(k:ua τ y v)(w:World):x=y:=by
 have h:=h w (λ _=>False)
 have k:=k w (λ _=>False)
 cases τ with
 | int q =>
  simp only[Ty.aT,Rd,a1C,a1H] at h k
  obtain⟨rfl,_⟩:=h
  exact (by simpa using k.1)
 | bool =>
  simp only[Ty.aT,Rd,a1C,a1H] at h k
  subst h
  simpa using k
 | str =>
  obtain⟨a,h1,h2,_⟩:=h
  obtain⟨b,k1,k2,_⟩:=k
  simp only[a1C,a1H] at h1 k1
  subst h1
  simp only[Value.string.injEq] at k1
  subst k1
  exact h2.symm.trans k2
 | _=>cases kZ
theorem ua.inj{τ:Ty}(kZ:τ.key=true){x:τ.den}{v u:Value}(h:ua τ x v)(k:ua τ x u)(w:World):v=u:=by
 have h:=h w (λ _=>False)
 have k:=k w (λ _=>False)
 cases τ with
 | int q =>
  simp only[Ty.aT,Rd,a1C,a1H] at h k
  exact h.1.trans k.1.symm
 | bool =>
  simp only[Ty.aT,Rd,a1C,a1H] at h k
  exact h.trans k.symm
 | str =>
  obtain⟨⟨⟨a⟩⟩,h1,h2,_⟩:=h
  obtain⟨⟨⟨b⟩⟩,k1,k2,_⟩:=k
  simp only[a1C,a1H] at h1 k1
  simp only at h2 k2
  rw[h1,k1,h2,k2]
 | _=>cases kZ
def descOf:Ty->TypeDesc
 | .int k => .int k
 | .str => .string
 | _ => .bool
theorem ua.isKey{τ:Ty}(kZ:τ.key=true){x:τ.den}{v:Value}(h:ua τ x v)(w:World):IsKey (descOf τ) v:=by
 have h:=h w (λ _=>False)
 cases τ with
 | int q =>
  simp only[Ty.aT,Rd,a1C,a1H] at h
  obtain⟨rfl,_⟩:=h
  rfl
 | bool =>
  simp only[Ty.aT,Rd,a1C,a1H] at h
  subst h
  trivial
 | str =>
  obtain⟨a,h1,h2,_⟩:=h
  simp only[a1C,a1H] at h1
  subst h1
  trivial
 | _=>cases kZ
structure FD(m:MV)(es:Array MapEntry):Prop where
 sk:m.κ.key=true
 se:m.ε.key=true
 len:es.size=m.n
 small:m.n<=1000000000
 nd:es.toList.Pairwise λ x y=>x.key≠y.key
 W2:∀ e∈es.toList,∃ k v,ua m.κ k e.key/\ua m.ε v e.val/\m.f k=some v
 all:∀ k v,m.f k=some v->∃ e∈es.toList,ua m.κ k e.key
section
variable {P:Program} {w:World} {m:MV} {es:Array MapEntry} {clock b:Nat} {T kT eT:TypeId}
theorem FD.found(h:FD m es){k:m.κ.den}{v:Value}(hv:ua m.κ k v)(w:World) :
  (Instr.findNow (descOf m.κ) v es.toList 0=some none/\(∀ e∈es.toList,e.key≠v)/\m.f k=none) \/
  ∃ j e x,Instr.findNow (descOf m.κ) v es.toList 0=some (some (j,e.val))/\es.toList[j]?=some e/\e.key=v/\m.f k=some x/\ua m.ε x e.val:=by
 have hk:∀ e∈es.toList,IsKey (descOf m.κ) e.key:=λ e he=>by
  obtain⟨k',v',h1,_⟩:=h.W2 e he
  exact h1.isKey h.sk w
 rcases findNow_spec (hv.isKey h.sk w) es.toList 0 hk with ⟨h1,h2⟩|⟨j,e,h1,h2,h3⟩
 .refine .inl ⟨h1,h2,?_⟩
  cases hf:m.f k with
  | none=>rfl
  | some x =>
   obtain⟨e,he,T0⟩:=h.all k x hf
   exact absurd (T0.inj h.sk hv w) (h2 e he)
 .obtain⟨k',x,k1,k2,k3⟩:=h.W2 e (a2A h2)
  have:k'=k:=k1.val h.sk (h3 ▸ hv) w
  subst this
  exact .inr ⟨j,e,x,by simpa using h1,h2,h3,k3,k2⟩
theorem FD.ae(h:FD m es)(hT:P.underlying T=some (.map kT eT))(hk:P.underlying kT=some (descOf m.κ))(hb:w.heap[b]?=some (.map es clock)){z:Value}(hz:(zeroValue eT).run P w = .ok z w)(Xt:ua m.ε m.ε.zero z)
  {k:m.κ.den} {v:Value} (hv:ua m.κ k v) (c:Bool):∃ u,ua m.ε ((m.f k).getD m.ε.zero) u/\(Instr.lookup T (.map (some b)) v c).run P w = .ok (if c then .tuple #[u, .bool (m.f k).isSome] else u) w:=by
 rcases h.found hv w with ⟨h1,h2,h3⟩|⟨j,e,x,h1,h2,h3,h4,h5⟩
 .refine⟨z,by rw[h3];exact Xt,?_⟩
  rw[h3]
  simp[Instr.lookup,a2w hT,a3Z hb,run_checkKey hk (hv.isKey h.sk w),run_findKey hk h1,hz,Result.andThen]
 .refine⟨e.val,by rw[h4];exact h5,?_⟩
  rw[h4]
  simp[Instr.lookup,a2w hT,a3Z hb,run_checkKey hk (hv.isKey h.sk w),run_findKey hk h1,Result.andThen]
theorem Mi{α β:Type}(f:α->Option β)(k:α)(v:β):Eb f k v k=some v:=by simp[Eb]
theorem wL{α β:Type}(f:α->Option β)(k:α)(v:β){x:α}(h:x≠k):Eb f k v x=f x:=by simp[Eb,h]
theorem Ed{α:Type}{R:α->α->Prop}{a b:α}:∀ {l:List α} {j:Nat},l.Pairwise R->l[j]?=some a->(∀ x,R a x->R b x)->(∀ x,R x a->R x b)->(l.set j b).Pairwise R
 | [],j,h,hj,h1,h2=>by simp at hj
 | y::ys,0,h,hj,h1,h2=>by
  simp only[a4y,a1w] at hj
  subst hj
  obtain⟨k1,k2⟩:=a4u.1 h
  exact a4u.2 ⟨λ x hx=>h1 x (k1 x hx),k2⟩
 | y::ys,j+1,h,hj,h1,h2=>by
  obtain⟨k1,k2⟩:=a4u.1 h
  simp only[List.getElem?_cons_succ] at hj
  refine a4u.2 ⟨λ x hx=>?_,Ed k2 hj h1 h2⟩
  rcases List.mem_or_eq_of_mem_set hx with hx|rfl
  .exact k1 x hx
  .exact h2 y (k1 a (a2A hj))
theorem FD.store(h:FD m es)(hT:P.underlying T=some (.map kT eT))(hk:P.underlying kT=some (descOf m.κ))(hb:w.heap[b]?=some (.map es clock))
  {k:m.κ.den} {v:Value} (hv:ua m.κ k v) {x:m.ε.den} {u:Value} (hu:ua m.ε x u) (hn:m.n<1000000000) :
  ∃ Vn Ky,(Instr.mapUpdate T (.map (some b)) v u).run P w = .ok () { w with heap:=w.heap.setIfInBounds b (.map Vn Ky) }/\FD ⟨m.κ,m.ε,Eb m.f k x,JC (m.f k) m.n⟩ Vn:=by
 have hK:=hv.isKey h.sk w
 rcases h.found hv w with ⟨h1,h2,h3⟩|⟨j,e,y,h1,h2,h3,h4,h5⟩
 .refine⟨es.push ⟨v,u,clock⟩,clock+1,?_,?_⟩
  .simp[Instr.mapUpdate,a2w hT,a3Z hb,run_checkKey hk hK,run_findKey hk h1,run_setObj_map _ hb,Result.andThen]
  .refine⟨h.sk,h.se,?_,by simp[JC,h3];omega,?_,?_,?_⟩
   .simp[JC,h3,h.len]
   .simp only[a4P]
    refine List.pairwise_append.2 ⟨h.nd,by simp,λ a ha b' cm=>?_⟩
    simp only[a2g] at cm
    subst cm
    exact h2 a ha
   .intro e he
    simp only[a4P,a1A,a2g] at he
    rcases he with he|rfl
    .obtain⟨k',v',k1,k2,k3⟩:=h.W2 e he
     refine⟨k',v',k1,k2,?_⟩
     show Eb m.f k x k'=some v'
     rw[wL _ _ _ (λ e1=>h2 e he ((e1 ▸ k1).inj h.sk hv w))]
     exact k3
    .exact⟨k,x,hv,hu,Mi _ _ _⟩
   .intro k' v' hf
    by_cases T1:k'=k
    .exact⟨⟨v,u,clock⟩,by simp,by rw[T1];exact hv⟩
    .have YZ:m.f k'=some v':=by rw[<-wL m.f k x T1];exact hf
     obtain⟨e,he,T0⟩:=h.all k' v' YZ
     exact⟨e,by simp only[a4P,a1A];exact .inl he,T0⟩
 .have hj:es[j]?=some e:=by simpa using h2
  have Pj:(es.modify j (λ e'=>{ e' with key:=v,val:=u })).toList=es.toList.set j { e with key:=v,val:=u }:=by
   rw[Array.toList_modify]
   apply a4z
   intro i
   simp only[List.getElem?_modify,a4Q]
   by_cases yo:j=i
   .subst yo
    have hl:=(a2a.1 h2).1
    simp only[a1S,a1S hl]
    rw[h2]
    rfl
   .simp[yo]
  refine⟨es.modify j (λ e'=>{ e' with key:=v,val:=u }),clock,?_,?_⟩
  .simp[Instr.mapUpdate,a2w hT,a3Z hb,run_checkKey hk hK,run_findKey hk h1,hj,h3,run_keyThatStays hK,run_setObj_map _ hb,Result.andThen]
  .have oth:∀ x'∈es.toList.set j { e with key:=v,val:=u },x'={ e with key:=v,val:=u }\/(x'∈es.toList/\x'.key≠v):=by
    intro x' hx
    obtain⟨i,hi,ex⟩:=a3C hx
    rw[List.getElem_set] at ex
    split at ex
    .exact .inl ex.symm
    .rename_i fP
     have oV:i<es.toList.length:=by simpa using hi
     refine .inr ⟨ex ▸ a4f oV,λ Sl=>?_⟩
     have Sd:j<es.toList.length:=(a2a.1 h2).1
     have Xh:es.toList[j]=e:=(a2a.1 h2).2
     have hpw:=List.pairwise_iff_getElem.1 h.nd
     rcases Nat.lt_or_gt_of_ne fP with hl|hl
     .exact hpw j i Sd oV hl (by rw[Xh,ex,h3,Sl])
     .exact hpw i j oV Sd hl (by rw[Xh,ex,h3,Sl])
   refine⟨h.sk,h.se,?_,by simp[JC,h4];omega,?_,?_,?_⟩
   .simp[JC,h4,h.len]
   .rw[Pj]
    exact Ed h.nd h2 (λ x' hx=>by rw[<-h3];exact hx) (λ x' hx=>by rw[<-h3];exact hx)
   .intro e' yn
    rw[Pj] at yn
    rcases oth e' yn with rfl|⟨he,fP⟩
    .exact⟨k,x,hv,hu,Mi _ _ _⟩
    .obtain⟨k',v',k1,k2,k3⟩:=h.W2 e' he
     refine⟨k',v',k1,k2,?_⟩
     show Eb m.f k x k'=some v'
     rw[wL _ _ _ (λ e1=>fP ((e1 ▸ k1).inj h.sk hv w))]
     exact k3
   .intro k' v' hf
    by_cases T1:k'=k
    .refine⟨{ e with key:=v,val:=u },?_,(show k'=k from T1).symm ▸ hv⟩
     rw[Pj]
     exact List.mem_iff_getElem.2 ⟨j,by simpa using (List.getElem?_eq_some_iff.1 h2).1,by simp⟩
    .have YZ:m.f k'=some v':=by rw[<-wL m.f k x T1];exact hf
     obtain⟨e',yn,T0⟩:=h.all k' v' YZ
     refine⟨e',?_,T0⟩
     rw[Pj]
     obtain⟨i,hi,ex⟩:=a3C yn
     have yo:j≠i:=by
      intro e1
      subst e1
      have Xh:es.toList[j]=e:=(a2a.1 h2).2
      have:e'=e:=ex ▸ Xh
      subst this
      exact T1 ((h3 ▸ T0).val h.sk hv w)
     exact List.mem_iff_getElem.2 ⟨i,by simpa using hi,by rw[List.getElem_set_ne yo];exact ex⟩
end
end Go.Proofs.YtaaamahdcpcofaaDoor

namespace Go.Proofs.YtaaamahdcpcofaaDoor
def aJ{α β:Type}(R:α->β->Prop):List α->List β->Prop
 | [],[]=>True
 | a::Z9,b::bs=>R a b/\aJ R Z9 bs
 | _,_=>False
theorem aJ.length{α β:Type}{R:α->β->Prop}:∀ {Z9:List α} {bs:List β},aJ R Z9 bs->Z9.length=bs.length
 | [],[],_=>rfl
 | _::_,_::_,h=>by simp[aJ.length h.2]
 | [],_::_,h=>h.elim
 | _::_,[],h=>h.elim
theorem aJ.imp{α β:Type}{R R':α->β->Prop}:∀ {Z9:List α} {bs:List β},aJ R Z9 bs->(∀ a b,a∈Z9->R a b->R' a b)->aJ R' Z9 bs
 | [],[],_,_=>trivial
 | _::_,_::_,h,k=>⟨k _ _ (by simp) h.1,aJ.imp h.2 λ a b ha=>k a b (by simp[ha])⟩
 | [],_::_,h,_=>h.elim
 | _::_,[],h,_=>h.elim
theorem aJ.at_{α β:Type}{R:α->β->Prop}:∀ {Z9:List α} {bs:List β},aJ R Z9 bs->∀ (i:Nat) a,Z9[i]?=some a->∃ b,bs[i]?=some b/\R a b
 | [],[],_,i,a,h=>by simp at h
 | _::_,b::_,h,0,a,hi=>by simp at hi;subst hi;exact⟨b,rfl,h.1⟩
 | _::_,_::_,h,i+1,a,hi=>by simpa using aJ.at_ h.2 i a (by simpa using hi)
 | [],_::_,h,_,_,_=>h.elim
 | _::_,[],h,_,_,_=>h.elim
theorem aJ.append{α β:Type}{R:α->β->Prop}:∀ {Z9:List α} {bs:List β} {Z0 bs'},aJ R Z9 bs->aJ R Z0 bs'->aJ R (Z9++Z0) (bs++bs')
 | [],[],_,_,_,k=>k
 | _::_,_::_,_,_,h,k=>⟨h.1,aJ.append h.2 k⟩
 | [],_::_,_,_,h,_=>h.elim
 | _::_,[],_,_,h,_=>h.elim
theorem aJ.take{α β:Type}{R:α->β->Prop}(n:Nat):∀ {Z9:List α} {bs:List β},aJ R Z9 bs->aJ R (Z9.take n) (bs.take n):=by
 induction n with
 | zero=>intro Z9 bs _;simp[aJ]
 | succ n ih =>
  intro Z9 bs h
  match Z9,bs,h with
  | [],[],_=>simp[aJ]
  | _::_,_::_,h=>exact⟨h.1,ih h.2⟩
theorem aJ.drop{α β:Type}{R:α->β->Prop}(n:Nat):∀ {Z9:List α} {bs:List β},aJ R Z9 bs->aJ R (Z9.drop n) (bs.drop n):=by
 induction n with
 | zero=>intro Z9 bs h;simpa using h
 | succ n ih =>
  intro Z9 bs h
  match Z9,bs,h with
  | [],[],_=>simp[aJ]
  | _::_,_::_,h=>exact ih h.2
theorem aJ.fG{α β γ:Type}{R:γ->β->Prop}(f:α->γ):∀ {Z9:List α} {bs:List β},aJ (λ a b=>R (f a) b) Z9 bs->aJ R (Z9.map f) bs
 | [],[],_=>trivial
 | _::_,_::_,h=>⟨h.1,aJ.fG f h.2⟩
 | [],_::_,h=>h.elim
 | _::_,[],h=>h.elim
theorem aJ.of_map{α β γ:Type}{R:γ->β->Prop}(f:α->γ):∀ {Z9:List α} {bs:List β},aJ R (Z9.map f) bs->aJ (λ a b=>R (f a) b) Z9 bs
 | [],[],_=>trivial
 | _::_,_::_,h=>⟨h.1,aJ.of_map f h.2⟩
 | [],_::_,h=>h.elim
 | _::_,[],h=>h.elim
theorem dB.vS{w:World}{S:Nat->Prop}:∀ {vs:List TV} {cs:List Value},dB w S (vs.map TV.aT) cs↔aJ (λ v x=>Rd w S v.aT [x]) vs cs
 | [],[]=>by simp[dB,aJ]
 | [],_::_=>by simp[dB,aJ]
 | v::vs,[]=>by simp[dB,aJ]
 | v::vs,x::cs=>by
  simp only[a2p,dB,aJ]
  constructor
  .rintro⟨y,r,h1,h2,h3⟩
   simp only[a1C] at h1
   obtain⟨rfl,rfl⟩:=h1
   exact⟨h2,dB.vS.1 h3⟩
  .rintro⟨h1,h2⟩
   exact⟨x,cs,rfl,h1,dB.vS.2 h2⟩
structure cP(X:Nat->Prop)(w w':World):Prop where
 os:w'.os=w.os
 tape:w'.tape=w.tape
 output:w'.output=w.output
 size:w.heap.size<=w'.heap.size
 block:∀ b,b<w.heap.size->¬ X b->w'.heap[b]?=w.heap[b]?
theorem cP.refl(X:Nat->Prop)(w:World):cP X w w:=⟨rfl,rfl,rfl,a2u _,λ _ _ _=>rfl⟩
theorem cP.trans{X Y:Nat->Prop}{a b c:World}(h:cP X a b)(k:cP Y b c)(YN:∀ i,i<a.heap.size->Y i->X i):cP X a c :=
 ⟨k.os.trans h.os,k.tape.trans h.tape,k.output.trans h.output,a4a h.size k.size,
  λ i hi hx=>(k.block i (a2c hi h.size) (λ hy=>hx (YN i hi hy))).trans (h.block i hi hx)⟩
structure Ctx where
 P:Program
 E:Env
 w0:World
 X:Nat->Prop
 S0:Nat->Prop
 R:Nat->Option Value
 Z:Nat->Prop
 RB:Nat->Option Nat
structure Gh where
 S:Nat->Prop
 η:Nat->Value
 φ:Nat->List Nat
def St(c:Ctx)(S:Nat->Prop)(b:Nat):Prop:=S b\/(b<c.w0.heap.size/\¬ c.X b/\¬ c.Z b)
def fe:Value->Option Nat
 | .pointer (some a)=>some a.block
 | .slice (some a) _ _=>some a.block
 | .map (some b)=>some b
 | _=>none
def fM(w:World)(S:Nat->Prop)(v:TV)(x:Value):Prop :=
 match v with
 | ⟨.st s,y⟩=>∃ cs,x = .agg cs.toArray/\Rd w S (s.aT y) cs
 | v=>Rd w S v.aT [x]
def Ej(w:World)(S:Nat->Prop):Arg->Value->Prop
 | .val v,x=>fM w S v x
 | .ref v,x=>∃ b o cs,x = .pointer (some ⟨b,o,none⟩)/\b<w.heap.size/\dk w b o cs/\Rd w S v.aT cs
 | .fn f,x=>x = .func (.func f) #[] #[]
 | .dw _,_=>False
 | .own _,_=>False
 | .box _,_=>False
def DH(w:World)(S:Nat->Prop):List TV->Value->Prop
 | [v],x=>fM w S v x
 | vs,x=>∃ l,x = .tuple l.toArray/\aJ (fM w S) vs l
def TB(w:World)(S:Nat->Prop):Prop:=∀ g∈R1,S g/\∃ m,w.cell? ⟨g,0,none⟩=some (.int .i64 m)
def Em(w:World)(S:Nat->Prop):Prop:=(∀ b,S b->b<w.heap.size)/\TB w S
theorem TB.mono{w w':World}{S S':Nat->Prop}(h:TB w S)(hS:∀ b,S b->S' b)(hw:∀ b,S b->w'.heap[b]?=w.heap[b]?):TB w' S':=λ g hg=>by
 obtain⟨h1,m,h2⟩:=h g hg
 exact⟨hS g h1,m,(a4e (a:=⟨g,0,none⟩) (hw g h1)).trans h2⟩
def FE(P:Program)(f:FuncId)(args:List Arg)(post:List TV->Prop):Prop :=
 ∀ (w:World) (S:Nat->Prop) (dc:List Value),Em w S->aJ (Ej w S) args dc ->
  Calls P f dc.toArray w λ e w'=>∃ x S' res,e = .returned x/\post res/\cP (λ _=>False) w w'/\(∀ b,b<w.heap.size->(S' b↔S b))/\(∀ b,S' b->b<w'.heap.size)/\DH w' S' res x
def lF (P:Program) (f:FuncId):Prop:=∃ fn,P.funcs[f]?=some fn/\fn.body.isNone=false/\(fn.name == "runtime.NumGoroutine")=false
def CC(P:Program)(f:FuncId)(iw:List Arg):(ps:List Ty)->(r:Ty)->FN ps r->List Arg->Prop
 | [],r,F,acc=>F.1->lF P f/\FE P f (acc++iw) (·=[⟨r,F.2⟩])
 | t::ts,r,F,acc=>∀ x,CC P f iw ts r (F x) (acc++[.val ⟨t,x⟩])
def KN(c:Ctx)(S:Nat->Prop)(w:World):Arg->Value->Prop
 | .val v,x=>fM w S v x
 | .ref v,x=>∃ b o cs,x = .pointer (some ⟨b,o,none⟩)/\St c S b/\dk w b o cs/\Rd w S v.aT cs
 | .fn f,x=>x = .func (.func f) #[] #[]
 | .dw _,_=>False
 | .own _,_=>False
 | .box _,_=>False
def C1(c:Ctx)(G:Gh)(lk:Nat->Option au)(w:World):AV->Value->Prop
 | .any,_=>True
 | .eV,x=>x=undef
 | .az v,x=>v.τ.agg=false/\Rd w G.S v.aT [x]
 | .nil,x=>x = .slice none 0 0
 | .gK v,x=>∃ b o cs,x = .pointer (some ⟨b,o,none⟩)/\St c G.S b/\dk w b o cs/\Rd w G.S v.aT cs
 | .ptr id off,x=>∃ b,G.η id = .pointer (some ⟨b,0,none⟩)/\x = .pointer (some ⟨b,off,none⟩)/\im (lk id)=true
 | .row id,x=>x=G.η id/\isRow (lk id)=true/\∃ a n m,x = .slice a n m
 | .fh id i off,x=>∃ b n cap e τ xs,G.η id = .slice (some ⟨b,0,none⟩) n cap/\lk id=some (.row e τ xs)/\i<xs.length/\x = .pointer (some ⟨b,i * τ.size+off,none⟩)
 | .fn f,x=>x = .func (.func f) #[] #[]
 | .aq id,x=>cp (lk id)=true/\∃ l,G.η id = .tuple (x::l).toArray/\∃ a n m,x = .slice a n m
 | .sub id i off sz,x=>cp (lk id)=true/\∃ a n cap l,G.η id = .tuple (.slice a n cap::l).toArray/\i<n/\l[i * sz+off]?=some x/\∃ a n m,x = .slice a n m
 | .fL id i off sz,x=>cp (lk id)=true/\∃ b n cap l,G.η id = .tuple (.slice (some ⟨b,0,none⟩) n cap::l).toArray/\i<n/\x = .pointer (some ⟨b,i * sz+off,none⟩)
 | .jO v,x=>∃ f iw l,x = .func (.func f) #[] l.toArray/\CC c.P f iw v.ps v.r v.F []/\aJ (KN c G.S w) iw l
 | .mp id,x=>x=G.η id/\E6 (lk id)=true/\∃ b,x = .map (some b)
 | .agg _,_=>False
 | .kr _,_=>False
 | .dw ..,_=>False
def TR(c:Ctx)(G:Gh)(lk:Nat->Option au)(w:World):AV->Value->Prop
 | .any,_=>True
 | .az v,x=>fM w G.S v x
 | .aq id,x=>C1 c G lk w (.aq id) x
 | .agg cs,x=>∃ l,x = .agg l.toArray/\aJ (C1 c G lk w) cs l
 | _,_=>False
def CR(c:Ctx)(G:Gh)(lk:Nat->Option au)(w:World):AV->Value->Prop
 | .az v,x=>fM w G.S v x
 | .agg cs,x=>∃ l,x = .agg l.toArray/\aJ (C1 c G lk w) cs l
 | v,x=>C1 c G lk w v x
def VR(c:Ctx)(G:Gh)(lk:Nat->Option au)(w:World):AV->Value->Prop
 | .az v,x=>fM w G.S v x
 | .agg cs,x=>∃ l,x = .agg l.toArray/\aJ (C1 c G lk w) cs l
 | .kr vs,x=>∃ l,x = .tuple l.toArray/\aJ (TR c G lk w) vs l
 | .dw f cs,x=>∃ l,x = .func (.func f) #[] l.toArray/\aJ (CR c G lk w) cs l
 | v,x=>C1 c G lk w v x
def OR(c:Ctx)(G:Gh)(lk:Nat->Option au)(w:World)(id:Nat):au->Prop
 | .box cs=>∃ b l t,G.η id = .pointer (some ⟨b,0,none⟩)/\w.heap[b]?=some (.cells l.toArray t (0,0))/\aJ (C1 c G lk w) cs l
 | .row e τ xs=>∃ l,w.ownsRow 0 e τ.size (G.η id) xs.length l/\fJ w G.S (xs.map τ.aT) l/\xs.length<=140737488355328
 | .aq τ xs=>True
 | .map m=>∃ b es clock,G.η id = .map (some b)/\w.heap[b]?=some (.map es clock)/\FD m es
def jH(w:World)(η:Value)(τ:Ty)(xs:List τ.den)(fp:List Nat):Prop :=
 ∃ v l a cap,η = .tuple (v::l).toArray/\v = .slice a xs.length cap/\xs.length<=cap/\cap<=maxLen/\xs.length<=140737488355328 /\
  ((xs=[]/\(a=none/\cap=0)/\fp=[])\/∃ b f t,a=some ⟨b,0,none⟩/\fp=b::f/\w.heap[b]?=some (.cells l.toArray t (0,0))/\l.length=cap * τ.size/\bV w (xs.map τ.aT) l f)
structure Eo(c:Ctx)(G:Gh)(lk:Nat->Option au)(w:World):Prop where
 tr:∀ id τ xs,lk id=some (.aq τ xs)->jH w (G.η id) τ xs (G.φ id)
 nd:∀ id τ xs,lk id=some (.aq τ xs)->(G.φ id).Nodup
 pl:∀ id τ xs b,lk id=some (.aq τ xs)->b∈G.φ id->(c.w0.heap.size<=b\/c.X b)/\¬ G.S b/\b<w.heap.size/\∀ i o,lk i=some o->fe (G.η i)≠some b
 ap:∀ id dH τ aV xs cT b,lk id=some (.aq τ xs)->lk dH=some (.aq aV cT)->b∈G.φ id->b∈G.φ dH->id=dH
def XGk(c:Ctx):Prop:=(∀ b,c.X b->b<c.w0.heap.size)/\∀ g∈R1,c.S0 g/\¬ c.X g/\g<c.w0.heap.size/\∃ m,c.w0.cell? ⟨g,0,none⟩=some (.int .i64 m)
structure bc(c:Ctx)(G:Gh)(sl:Nat->AV)(n:Nat)(lk:Nat->Option au)(a:Act)(w:World):Prop where
 defers:a.defers=[]
 size:a.tmps.size=n
 aQ:cP c.X c.w0 w
 lE:XGk c
 fc:∀ b,b<c.w0.heap.size->¬ c.X b->(G.S b↔c.S0 b)
 sX:∀ b,c.S0 b->G.S b
 ed:∀ b,G.S b->b<w.heap.size
 ar:∀ i,VR c G lk w (sl i) (a.tmps.getD i undef)
 aC:∀ id o,lk id=some o->OR c G lk w id o
 place:∀ id o b,lk id=some o->fe (G.η id)=some b->(c.w0.heap.size<=b\/c.X b)/\¬ G.S b/\b<w.heap.size
 apart:∀ id dH o o' b,lk id=some o->lk dH=some o'->fe (G.η id)=some b->fe (G.η dH)=some b->id=dH
 aI:Eo c G lk w
 root:∀ id v,c.R id=some v->cp (lk id)=true->∃ l,G.η id = .tuple (v::l).toArray
 kd:∀ id v,c.R id=some v->50<=id/\id<100
 dE:∀ id b,c.RB id=some b->im (lk id)=true->G.η id = .pointer (some ⟨b,0,none⟩)
 fW:∀ id b,c.RB id=some b->400000<=id
theorem bc.SU{c:Ctx}{G:Gh}{sl:Nat->AV}{n:Nat}{lk:Nat->Option au}{a:Act}{w:World}(h:bc c G sl n lk a w):Em w G.S:=⟨h.ed,λ g hg=>by
 obtain⟨h1,h2,h3,m,h4⟩:=h.lE.2 g hg
 exact⟨h.sX g h1,m,(a4e (a:=⟨g,0,none⟩) (h.aQ.block g h3 h2)).trans h4⟩⟩
theorem bc.Vp{c:Ctx}{G:Gh}{sl:Nat->AV}{n:Nat}{lk:Nat->Option au}{a:Act}{w:World}(h:bc c G sl n lk a w){fp:List Nat}(hn:∀ b∈fp,¬ G.S b):TB w (λ b=>b<w.heap.size/\b∉fp) :=
 h.SU.2.mono (λ b hb=>⟨h.ed b hb,λ q=>hn b q hb⟩) λ _ _=>rfl
def ag.sl(s:ag)(i:Nat):AV:=s.ar.getD i .any
def Inv(c:Ctx)(G:Gh)(s:ag)(a:Act)(w:World):Prop:=bc c G s.sl s.ar.length s.ae a w
theorem sL{o:Option au}(h:isRow o=true):cp o=false:=by
 match o,h with
 | some (.row ..),_=>rfl
theorem Ea{o:Option au}(h:E6 o=true):cp o=false:=by
 match o,h with
 | some (.map _),_=>rfl
def ft(o o':Option au):Prop :=
 (im o=true->im o'=true)/\(∀ e τ xs,o=some (.row e τ xs)->∃ e' cT,o'=some (.row e' τ cT)/\xs.length<=cT.length)/\(cp o=true->cp o'=true)/\(E6 o=true->E6 o'=true)
theorem ft.refl(o:Option au):ft o o:=⟨id,λ e τ xs h=>⟨e,xs,h,a2u _⟩,id,id⟩
theorem ft.isRow{o o':Option au}(h:ft o o')(hr:isRow o=true):YtaaamahdcpcofaaDoor.isRow o'=true:=by
 match o,hr with
 | some (.row e τ xs),_ =>
  obtain⟨e',cT,h1,_⟩:=h.2.1 e τ xs rfl
  rw[h1];rfl
section
variable {c:Ctx} {G G':Gh} {lk lk':Nat->Option au} {w w':World}
theorem fM.mono{v:TV}{x:Value}(h:fM w G.S v x)(hS:∀ b,G.S b->G'.S b)(hw:∀ b,G.S b->w'.heap[b]?=w.heap[b]?):fM w' G'.S v x:=by
 obtain⟨τ,y⟩:=v
 cases τ with
 | st s =>
  obtain⟨cs,h1,h2⟩:=h
  exact⟨cs,h1,Rd.aQ hS hw _ h2⟩
 | _=>exact Rd.aQ hS hw _ h
theorem KN.mono{S S':Nat->Prop}{v:Arg}{x:Value}(h:KN c S w v x)(hS:∀ b,S b->S' b)(hw:∀ b,St c S b->w'.heap[b]?=w.heap[b]?):KN c S' w' v x:=by
 cases v with
 | val v=>exact fM.mono (G:=⟨S,λ _=>undef,λ _=>[]⟩) (G':=⟨S',λ _=>undef,λ _=>[]⟩) h hS (λ b hb=>hw b (.inl hb))
 | ref v =>
  obtain⟨b,o,cs,h1,h2,h3,h4⟩:=h
  exact⟨b,o,cs,h1,h2.imp (hS b) id,h3.aQ (hw b h2),Rd.aQ hS (λ b hb=>hw b (.inl hb)) _ h4⟩
 | fn f=>exact h
 | dw v=>exact h
 | own v=>exact h
 | box k=>exact h
theorem C1.mono{v:AV}{x:Value}(h:C1 c G lk w v x)(hk:∀ id,v.refs id=true->ft (lk id) (lk' id)/\G'.η id=G.η id)
  (hS:∀ b,G.S b->G'.S b) (hw:∀ b,St c G.S b->w'.heap[b]?=w.heap[b]?):C1 c G' lk' w' v x:=by
 have V4:∀ b,G.S b->w'.heap[b]?=w.heap[b]?:=λ b hb=>hw b (.inl hb)
 cases v with
 | any=>trivial
 | eV=>exact h
 | az v=>exact⟨h.1,Rd.aQ hS V4 _ h.2⟩
 | nil=>exact h
 | gK v =>
  obtain⟨b,o,cs,h1,h2,h3,h4⟩:=h
  exact⟨b,o,cs,h1,h2.imp (hS b) id,h3.aQ (hw b h2),Rd.aQ hS V4 _ h4⟩
 | ptr id off =>
  obtain⟨b,h1,h2,h3⟩:=h
  obtain⟨k1,k2⟩:=hk id (by simp[AV.refs])
  exact⟨b,k2.trans h1,h2,k1.1 h3⟩
 | row id =>
  obtain⟨h1,h2,h3⟩:=h
  obtain⟨k1,k2⟩:=hk id (by simp[AV.refs])
  exact⟨h1.trans k2.symm,k1.isRow h2,h3⟩
 | fh id i off =>
  obtain⟨b,n,cap,e,τ,xs,h1,h2,h3,h4⟩:=h
  obtain⟨k1,k2⟩:=hk id (by simp[AV.refs])
  obtain⟨e',cT,k3,k4⟩:=k1.2.1 e τ xs h2
  exact⟨b,n,cap,e',τ,cT,k2.trans h1,k3,by omega,h4⟩
 | fn f=>exact h
 | aq id =>
  obtain⟨h1,l,h2,h3⟩:=h
  obtain⟨k1,k2⟩:=hk id (by simp[AV.refs])
  exact⟨k1.2.2.1 h1,l,k2.trans h2,h3⟩
 | sub id i off sz =>
  obtain⟨h1,a,n,cap,l,h2,h3⟩:=h
  obtain⟨k1,k2⟩:=hk id (by simp[AV.refs])
  exact⟨k1.2.2.1 h1,a,n,cap,l,k2.trans h2,h3⟩
 | fL id i off sz =>
  obtain⟨h1,b,n,cap,l,h2,h3⟩:=h
  obtain⟨k1,k2⟩:=hk id (by simp[AV.refs])
  exact⟨k1.2.2.1 h1,b,n,cap,l,k2.trans h2,h3⟩
 | jO v =>
  obtain⟨f,iw,l,h1,h2,h3⟩:=h
  exact⟨f,iw,l,h1,h2,h3.imp λ u y _ hy=>hy.mono hS hw⟩
 | mp id =>
  obtain⟨h1,h2,h3⟩:=h
  obtain⟨k1,k2⟩:=hk id (by simp[AV.refs])
  exact⟨h1.trans k2.symm,k1.2.2.2 h2,h3⟩
 | agg cs=>exact h
 | kr vs=>exact h
 | dw f cs=>exact h
theorem nP{id:Nat}:∀ {cs:List AV} {v:AV},v∈cs->v.refs id=true->AV.iq id cs=true
 | u::r,v,hm,hv=>by
  simp only[AV.iq]
  rcases a1N.1 hm with rfl|h
  .rw[hv]
  .split
   .rfl
   .exact nP h hv
theorem CR.mono{v:AV}{x:Value}(h:CR c G lk w v x)(hk:∀ id,v.refs id=true->ft (lk id) (lk' id)/\G'.η id=G.η id)
  (hS:∀ b,G.S b->G'.S b) (hw:∀ b,St c G.S b->w'.heap[b]?=w.heap[b]?):CR c G' lk' w' v x:=by
 cases v with
 | az v=>exact fM.mono h hS (λ b hb=>hw b (.inl hb))
 | agg cs =>
  obtain⟨l,h1,h2⟩:=h
  exact⟨l,h1,h2.imp λ u y hu hy=>hy.mono (λ id aN=>hk id (by simp only[AV.refs];exact nP hu aN)) hS hw⟩
 | any=>trivial
 | eV=>exact h
 | nil=>exact C1.mono (v := .nil) h hk hS hw
 | gK v=>exact C1.mono (v := .gK v) h hk hS hw
 | ptr i o=>exact C1.mono (v := .ptr i o) h hk hS hw
 | row i=>exact C1.mono (v := .row i) h hk hS hw
 | fh i k o=>exact C1.mono (v := .fh i k o) h hk hS hw
 | fn f=>exact C1.mono (v := .fn f) h hk hS hw
 | aq i=>exact C1.mono (v := .aq i) h hk hS hw
 | sub i k o z=>exact C1.mono (v := .sub i k o z) h hk hS hw
 | fL i k o z=>exact C1.mono (v := .fL i k o z) h hk hS hw
 | jO v=>exact C1.mono (v := .jO v) h hk hS hw
 | mp i=>exact C1.mono (v := .mp i) h hk hS hw
 | kr _=>exact h
 | dw _ _=>exact h
theorem VR.mono{v:AV}{x:Value}(h:VR c G lk w v x)(hk:∀ id,v.refs id=true->ft (lk id) (lk' id)/\G'.η id=G.η id)
  (hS:∀ b,G.S b->G'.S b) (hw:∀ b,St c G.S b->w'.heap[b]?=w.heap[b]?):VR c G' lk' w' v x:=by
 have V4:∀ b,G.S b->w'.heap[b]?=w.heap[b]?:=λ b hb=>hw b (.inl hb)
 cases v with
 | az v=>exact fM.mono h hS V4
 | agg cs =>
  obtain⟨l,h1,h2⟩:=h
  exact⟨l,h1,h2.imp λ u y hu hy=>hy.mono (λ id aN=>hk id (by simp only[AV.refs];exact nP hu aN)) hS hw⟩
 | kr vs =>
  obtain⟨l,h1,h2⟩:=h
  refine⟨l,h1,h2.imp λ u y hu hy=>?_⟩
  have oW:∀ id,u.refs id=true->ft (lk id) (lk' id)/\G'.η id=G.η id:=λ id aN=>hk id (by simp only[AV.refs];exact nP hu aN)
  cases u with
  | any=>trivial
  | az v=>exact fM.mono hy hS V4
  | aq i=>exact C1.mono (v := .aq i) hy oW hS hw
  | agg cs =>
   obtain⟨l,h1,h2⟩:=hy
   exact⟨l,h1,h2.imp λ u y hu hy=>hy.mono (λ id aN=>oW id (by simp only[AV.refs];exact nP hu aN)) hS hw⟩
  | _=>exact hy.elim
 | eV=>trivial
 | any=>trivial
 | nil=>exact C1.mono (v := .nil) h hk hS hw
 | gK v=>exact C1.mono (v := .gK v) h hk hS hw
 | ptr i o=>exact C1.mono (v := .ptr i o) h hk hS hw
 | row i=>exact C1.mono (v := .row i) h hk hS hw
 | fh i k o=>exact C1.mono (v := .fh i k o) h hk hS hw
 | fn f=>exact C1.mono (v := .fn f) h hk hS hw
 | aq i=>exact C1.mono (v := .aq i) h hk hS hw
 | sub i k o z=>exact C1.mono (v := .sub i k o z) h hk hS hw
 | fL i k o z=>exact C1.mono (v := .fL i k o z) h hk hS hw
 | jO v=>exact C1.mono (v := .jO v) h hk hS hw
 | mp i=>exact C1.mono (v := .mp i) h hk hS hw
 | dw f cs =>
  obtain⟨l,h1,h2⟩:=h
  exact⟨l,h1,h2.imp λ u y hu hy=>hy.mono (λ id aN=>hk id (by simp only[AV.refs];exact nP hu aN)) hS hw⟩
def au.refs(id:Nat):au->Bool
 | .box cs=>AV.iq id cs
 | .row .. => false
 | .aq .. => false
 | .map .. => false
theorem sr{v:Value}{e:TypeId}{size n:Nat}{l:List Value}(h:w.ownsRow 0 e size v n l):v.ownBlock=fe v:=by
 rcases h.2 with ⟨rfl,_⟩|⟨g,cap,cur,rfl,_⟩<;>rfl
theorem Ec{e:TypeId}{size n:Nat}{v:Value}{l:List Value}(h:w.ownsRow 0 e size v n l)(hb:∀ b,fe v=some b->w'.heap[b]?=w.heap[b]?):w'.ownsRow 0 e size v n l:=by
 refine⟨h.1,h.2.imp id ?_⟩
 rintro⟨g,cap,cur,rfl,h1,h2,h3⟩
 exact⟨g,cap,cur,rfl,h1,by rw[hb g rfl];exact h2,h3⟩
theorem OR.mono{id:Nat}{o:au}(h:OR c G lk w id o)(fB:G'.η id=G.η id)(hb:∀ b,fe (G.η id)=some b->w'.heap[b]?=w.heap[b]?)
  (hk:∀ j,o.refs j=true->ft (lk j) (lk' j)/\G'.η j=G.η j) (hS:∀ b,G.S b->G'.S b) (hw:∀ b,St c G.S b->w'.heap[b]?=w.heap[b]?):OR c G' lk' w' id o:=by
 cases o with
 | box cs =>
  obtain⟨b,l,t,h1,h2,h3⟩:=h
  refine⟨b,l,t,fB.trans h1,?_,h3.imp λ u y hu hy=>hy.mono (λ j hj=>hk j (nP hu hj)) hS hw⟩
  rw[hb b (by rw[h1];rfl)];exact h2
 | row e τ xs =>
  obtain⟨l,h1,h2,h3⟩:=h
  refine⟨l,?_,fJ.aQ hS (λ b hb=>hw b (.inl hb)) _ h2,h3⟩
  rw[fB]
  exact Ec h1 hb
 | aq τ xs=>trivial
 | map m =>
  obtain⟨b,es,clock,h1,h2,h3⟩:=h
  exact⟨b,es,clock,fB.trans h1,by rw[hb b (by rw[h1];rfl)];exact h2,h3⟩
end
theorem jH.aQ{w w':World}{η:Value}{τ:Ty}{xs:List τ.den}{fp:List Nat}(h:jH w η τ xs fp)(hw:∀ b∈fp,w'.heap[b]?=w.heap[b]?):jH w' η τ xs fp:=by
 obtain⟨v,l,a,cap,h1,h2,h3,h4,h5,h6⟩:=h
 refine⟨v,l,a,cap,h1,h2,h3,h4,h5,h6.imp id ?_⟩
 rintro⟨b,f,t,k1,rfl,k2,k0,k3⟩
 exact⟨b,f,t,k1,rfl,by rw[hw b (by simp)];exact k2,k0,bV.aQ _ k3 λ b hb=>hw b (by simp[hb])⟩
theorem bc.world{c:Ctx}{G:Gh}{sl:Nat->AV}{n:Nat}{lk:Nat->Option au}{a:Act}{w w':World}{S':Nat->Prop}(h:bc c G sl n lk a w)
  (km:cP (λ b=>c.w0.heap.size<=b\/c.X b) w w') (hS:∀ b,G.S b->S' b) (Vt:∀ b,b<w.heap.size->(S' b↔G.S b)) (hX:∀ b,c.S0 b->S' b) (YL:∀ b,S' b->b<w'.heap.size)
  (hw:∀ b,St c G.S b->w'.heap[b]?=w.heap[b]?) (mX:∀ id o b,lk id=some o->fe (G.η id)=some b->w'.heap[b]?=w.heap[b]?) (AX:∀ id τ xs b,lk id=some (.aq τ xs)->b∈G.φ id->w'.heap[b]?=w.heap[b]?) :
  bc c ⟨S',G.η,G.φ⟩ sl n lk a w' where
 defers:=h.defers
 size:=h.size
 aQ:=h.aQ.trans km λ i hi hy=>hy.elim (λ h=>by omega) id
 lE:=h.lE
 fc b hb hx:=(Vt b (a2c hb h.aQ.size)).trans (h.fc b hb hx)
 sX:=hX
 ed:=YL
 ar i:=(h.ar i).mono (λ id _=>⟨ft.refl _,rfl⟩) hS hw
 aC id o ho:=(h.aC id o ho).mono rfl (λ b hb=>mX id o b ho hb) (λ j _=>⟨ft.refl _,rfl⟩) hS hw
 place id o b ho hb:=by
  obtain⟨h1,h2,h3⟩:=h.place id o b ho hb
  exact⟨h1,λ hs=>h2 ((Vt b h3).1 hs),a2c h3 km.size⟩
 apart:=h.apart
 aI:={
  tr:=λ id τ xs ht=>(h.aI.tr id τ xs ht).aQ λ b hb=>AX id τ xs b ht hb
  nd:=h.aI.nd
  pl:=λ id τ xs b ht hb=>by
   obtain⟨h1,h2,h3,h4⟩:=h.aI.pl id τ xs b ht hb
   exact⟨h1,λ hs=>h2 ((Vt b h3).1 hs),a2c h3 km.size,h4⟩
  ap:=h.aI.ap }
 root:=h.root
 kd:=h.kd
 dE:=h.dE
 fW:=h.fW
theorem bc.drew{c:Ctx}{G:Gh}{sl:Nat->AV}{n:Nat}{lk:Nat->Option au}{a:Act}{w:World}(h:bc c G sl n lk a w):bc c G sl n lk a w.drew :=
 h.world (S':=G.S) ⟨rfl,rfl,rfl,a2u _,λ _ _ _=>rfl⟩ (λ _ h=>h) (λ _ _=>a3G) h.sX h.ed (λ _ _=>rfl) (λ _ _ _ _ _=>rfl) (λ _ _ _ _ _ _=>rfl)
def lN(n:Nat)(sl:Nat->AV)(d:Option Nat)(v:AV)(i:Nat):AV:=if d=some i/\i<n then v else sl i
theorem eJ(a:Act)(d:Option Nat)(x:Value)(i:Nat):(a.put d x).tmps.getD i undef=if d=some i/\i<a.tmps.size then x else a.tmps.getD i undef:=by
 cases d with
 | none=>simp[Act.put]
 | some d =>
  simp only[Act.put,a1w]
  by_cases h:d=i
  .subst h
   by_cases hl:d<a.tmps.size
   .simp[hl,a2f]
   .simp[hl,a2f,Array.setIfInBounds]
  .simp[h,a2f,a4I]
theorem ig(a:Act)(d:Option Nat)(x:Value):(a.put d x).tmps.size=a.tmps.size:=by cases d<;>simp[Act.put]
theorem lH(a:Act)(d:Option Nat)(x:Value):(a.put d x).defers=a.defers:=by cases d<;>rfl
theorem bc.put{c:Ctx}{G:Gh}{sl:Nat->AV}{n:Nat}{lk:Nat->Option au}{a:Act}{w:World}(h:bc c G sl n lk a w){d:Option Nat}{v:AV}{x:Value}(hv:VR c G lk w v x) :
  bc c G (lN n sl d v) n lk (a.put d x) w where
 defers:=(lH _ _ _).trans h.defers
 size:=(ig _ _ _).trans h.size
 aQ:=h.aQ
 lE:=h.lE
 fc:=h.fc
 sX:=h.sX
 ed:=h.ed
 ar i:=by
  rw[eJ,h.size,lN]
  split
  .exact hv
  .exact h.ar i
 aC:=h.aC
 place:=h.place
 apart:=h.apart
 aI:=h.aI
 root:=h.root
 kd:=h.kd
 dE:=h.dE
 fW:=h.fW
theorem bc.forget{c:Ctx}{G:Gh}{sl ZT:Nat->AV}{n:Nat}{lk:Nat->Option au}{a:Act}{w:World}(h:bc c G sl n lk a w)(hs:∀ i,ZT i=sl i\/ZT i = .any):bc c G ZT n lk a w where
 defers:=h.defers
 size:=h.size
 aQ:=h.aQ
 lE:=h.lE
 fc:=h.fc
 sX:=h.sX
 ed:=h.ed
 ar i:=by
  rcases hs i with e|e
  .rw[e];exact h.ar i
  .rw[e];trivial
 aC:=h.aC
 place:=h.place
 apart:=h.apart
 aI:=h.aI
 root:=h.root
 kd:=h.kd
 dE:=h.dE
 fW:=h.fW
theorem QW(id:Nat)(v:AV):v.kill id=v\/v.kill id = .any:=by unfold AV.kill;split<;>simp
theorem zF(id:Nat)(v:AV):(v.kill id).refs id=false:=by
 unfold AV.kill
 split
 .rfl
 .assumption
theorem C1.kill{c:Ctx}{G:Gh}{lk:Nat->Option au}{w:World}{v:AV}{x:Value}(h:C1 c G lk w v x)(id:Nat):C1 c G lk w (v.kill id) x:=by
 rcases QW id v with e|e
 .rw[e];exact h
 .rw[e];trivial
theorem Cp(id:Nat):∀ cs:List AV,AV.iq id (cs.map (AV.kill id))=false
 | []=>rfl
 | v::r=>by simp only[a2p,AV.iq,zF];exact Cp id r
theorem OR.kill{c:Ctx}{G:Gh}{lk:Nat->Option au}{w:World}{i:Nat}{o:au}(h:OR c G lk w i o)(id:Nat):OR c G lk w i (o.kill id):=by
 cases o with
 | box cs =>
  obtain⟨b,l,t,h1,h2,h3⟩:=h
  exact⟨b,l,t,h1,h2,aJ.fG _ (h3.imp λ u y _ hy=>hy.kill id)⟩
 | row e τ xs=>exact h
 | aq τ xs=>exact h
 | map m=>exact h
theorem Fs(id:Nat)(o:Option au):ft o (o.map (au.kill id)):=by
 refine⟨λ h=>?_,λ e τ xs h=>⟨e,xs,by rw[h];rfl,a2u _⟩,λ h=>?_,λ h=>?_⟩
 .match o,h with
  | some (.box cs),_=>rfl
 .match o,h with
  | some (.aq τ xs),_=>rfl
 .match o,h with
  | some (.map m),_=>rfl
theorem lv{id:Nat}{o:Option au}{τ:Ty}{xs:List τ.den}(h:o.map (au.kill id)=some (.aq τ xs)):o=some (.aq τ xs):=by
 match o,h with
 | some (.aq aV cT),h=>exact h
 | some (.box _),h=>cases h
 | some (.row ..),h=>cases h
theorem Eo.sub{c:Ctx}{G:Gh}{lk lk':Nat->Option au}{w:World}(h:Eo c G lk w)(ht:∀ id τ xs,lk' id=some (.aq τ xs)->lk id=some (.aq τ xs))(ho:∀ i o,lk' i=some o->∃ o',lk i=some o'):Eo c G lk' w where
 tr id τ xs k:=h.tr id τ xs (ht id τ xs k)
 nd id τ xs k:=h.nd id τ xs (ht id τ xs k)
 pl id τ xs b k hb:=by
  obtain⟨h1,h2,h3,h4⟩:=h.pl id τ xs b (ht id τ xs k) hb
  exact⟨h1,h2,h3,λ i o hi=>(ho i o hi).elim λ o' cF=>h4 i o' cF⟩
 ap id dH τ aV xs cT b k k':=h.ap id dH τ aV xs cT b (ht id τ xs k) (ht dH aV cT k')
theorem bc.b8{c:Ctx}{G:Gh}{sl:Nat->AV}{n:Nat}{lk:Nat->Option au}{a:Act}{w:World}(h:bc c G sl n lk a w)(id:Nat) :
  bc c G (λ i=>(sl i).kill id) n (λ i=>(lk i).map (au.kill id)) a w:=by
 have h1:bc c G (λ i=>(sl i).kill id) n lk a w:=h.forget λ i=>QW id (sl i)
 exact {
  defers:=h1.defers,size:=h1.size,aQ:=h1.aQ,lE:=h1.lE,fc:=h1.fc,sX:=h1.sX,ed:=h1.ed
  ar:=λ i=>(h1.ar i).mono (λ j _=>⟨Fs id _,rfl⟩) (λ _ h=>h) (λ _ _=>rfl)
  aC:=λ i o ho=>by
   rw[a2r] at ho
   obtain⟨o',cF,rfl⟩:=ho
   exact ((h1.aC i o' cF).kill id).mono rfl (λ _ _=>rfl) (λ j _=>⟨Fs id _,rfl⟩) (λ _ h=>h) (λ _ _=>rfl)
  place:=λ i o b ho hb=>by
   rw[a2r] at ho
   obtain⟨o',cF,rfl⟩:=ho
   exact h1.place i o' b cF hb
  apart:=λ i j o o' b ho cF hb cm=>by
   rw[a2r] at ho cF
   obtain⟨p,hp,rfl⟩:=ho
   obtain⟨q,hq,rfl⟩:=cF
   exact h1.apart i j p q b hp hq hb cm
  aI:=h1.aI.sub (λ i τ xs k=>lv k) (λ i o k=>by
   rw[a2r] at k
   obtain⟨p,hp,_⟩:=k
   exact⟨p,hp⟩)
  root:=λ i v hr ht=>h1.root i v hr (by
   match hl:lk i,ht with
   | some (.aq ..),_=>rfl
   | some (.box _),ht=>simp[hl,au.kill,cp] at ht
   | some (.row ..),ht=>simp[hl,au.kill,cp] at ht
   | none,ht=>simp[hl,cp] at ht)
  kd:=h1.kd
  dE:=λ i v hr ht=>h1.dE i v hr (by
   match hl:lk i,ht with
   | some (.box _),_=>rfl
   | some (.aq ..),ht=>simp[hl,au.kill,im] at ht
   | some (.row ..),ht=>simp[hl,au.kill,im] at ht
   | none,ht=>simp[hl,im] at ht)
  fW:=h1.fW }
theorem bc.W1{c:Ctx}{G:Gh}{sl:Nat->AV}{n:Nat}{lk:Nat->Option au}{a:Act}{w:World}(h:bc c G sl n lk a w)(id:Nat)
  (hs:∀ i,(sl i).refs id=false) (ho:∀ i o,lk i=some o->i≠id->o.refs id=false):bc c G sl n (λ i=>if i=id then none else lk i) a w:=by
 have fQ:∀ j,j≠id->ft (lk j) ((λ i=>if i=id then none else lk i) j):=λ j hj=>by simp only[a1B hj];exact ft.refl _
 exact {
  defers:=h.defers,size:=h.size,aQ:=h.aQ,lE:=h.lE,fc:=h.fc,sX:=h.sX,ed:=h.ed
  ar:=λ i=>(h.ar i).mono (λ j hj=>⟨fQ j (λ e=>by subst e;rw[hs i] at hj;cases hj),rfl⟩) (λ _ h=>h) (λ _ _=>rfl)
  aC:=λ i o cr=>by
   by_cases hi:i=id
   .simp[hi] at cr
   .simp only[a1B hi] at cr
    exact (h.aC i o cr).mono rfl (λ _ _=>rfl) (λ j hj=>⟨fQ j (λ e=>by subst e;rw[ho i o cr hi] at hj;cases hj),rfl⟩) (λ _ h=>h) (λ _ _=>rfl)
  place:=λ i o b cr hb=>by
   by_cases hi:i=id
   .simp[hi] at cr
   .simp only[a1B hi] at cr
    exact h.place i o b cr hb
  apart:=λ i j o o' b cr E0 hb cm=>by
   by_cases hi:i=id
   .simp[hi] at cr
   .by_cases hj:j=id
    .simp[hj] at E0
    .simp only[a1B hi] at cr
     simp only[a1B hj] at E0
     exact h.apart i j o o' b cr E0 hb cm
  aI:=h.aI.sub (λ i τ xs k=>by
   by_cases hi:i=id
   .simp[hi] at k
   .simpa only[if_neg hi] using k) (λ i o k=>by
   by_cases hi:i=id
   .simp[hi] at k
   .exact⟨o,by simpa only[if_neg hi] using k⟩)
  root:=λ i v hr ht=>h.root i v hr (by
   by_cases hi:i=id
   .simp[hi,cp] at ht
   .simpa only[if_neg hi] using ht)
  kd:=h.kd
  dE:=λ i v hr ht=>h.dE i v hr (by
   by_cases hi:i=id
   .simp[hi,im] at ht
   .simpa only[if_neg hi] using ht)
  fW:=h.fW }
theorem bc.newObj{c:Ctx}{G:Gh}{sl:Nat->AV}{n:Nat}{lk:Nat->Option au}{a:Act}{w:World}(h:bc c G sl n lk a w)(id:Nat)(o:au)(x:Value)
  (aN:lk id=none) (hs:∀ i,(sl i).refs id=false) (ho:∀ i o,lk i=some o->o.refs id=false) (Zi:o.refs id=false)
  (rM:OR c ⟨G.S,λ i=>if i=id then x else G.η i,G.φ⟩ (λ i=>if i=id then some o else lk i) w id o)
  (J0:cp (some o)=false) (bC:im (some o)=false\/id<400000) (kY:∀ b,fe x=some b->(c.w0.heap.size<=b\/c.X b)/\¬ G.S b/\b<w.heap.size/\(∀ i o',lk i=some o'->fe (G.η i)≠some b)/\∀ j τ xs,lk j=some (.aq τ xs)->b∉G.φ j) :
  bc c ⟨G.S,λ i=>if i=id then x else G.η i,G.φ⟩ sl n (λ i=>if i=id then some o else lk i) a w:=by
 have fQ:∀ j,j≠id->ft (lk j) ((λ i=>if i=id then some o else lk i) j)/\(if j=id then x else G.η j)=G.η j:=λ j hj=>by simp only[a1B hj];exact⟨ft.refl _,trivial⟩
 exact {
  defers:=h.defers,size:=h.size,aQ:=h.aQ,lE:=h.lE,fc:=h.fc,sX:=h.sX,ed:=h.ed
  ar:=λ i=>(h.ar i).mono (λ j hj=>fQ j (λ e=>by subst e;rw[hs i] at hj;cases hj)) (λ _ h=>h) (λ _ _=>rfl)
  aC:=λ i o' cr=>by
   by_cases hi:i=id
   .subst hi
    simp only[a3z,a1w] at cr
    subst cr
    exact rM
   .simp only[a1B hi] at cr
    exact (h.aC i o' cr).mono (by simp only[a1B hi]) (λ _ _=>rfl) (λ j hj=>fQ j (λ e=>by subst e;rw[ho i o' cr] at hj;cases hj)) (λ _ h=>h) (λ _ _=>rfl)
  place:=λ i o' b cr hb=>by
   by_cases hi:i=id
   .simp only[a1S hi] at hb
    obtain⟨h1,h2,h3,_⟩:=kY b hb
    exact⟨h1,h2,h3⟩
   .simp only[a1B hi] at cr hb
    exact h.place i o' b cr hb
  apart:=λ i j o1 o2 b cr E0 hb cm=>by
   by_cases hi:i=id
   .by_cases hj:j=id
    .rw[hi,hj]
    .simp only[a1B hj] at E0 cm
     simp only[a1S hi] at hb
     exact absurd cm ((kY b hb).2.2.2.1 j o2 E0)
   .by_cases hj:j=id
    .simp only[a1B hi] at cr hb
     simp only[a1S hj] at cm
     exact absurd hb ((kY b cm).2.2.2.1 i o1 cr)
    .simp only[a1B hi] at cr hb
     simp only[a1B hj] at E0 cm
     exact h.apart i j o1 o2 b cr E0 hb cm
  aI:=by
   have hold:∀ j τ xs,(if j=id then some o else lk j)=some (.aq τ xs)->j≠id/\lk j=some (.aq τ xs):=λ j τ xs k=>by
    by_cases hj:j=id
    .rw[a1S hj] at k
     cases k
     cases J0
    .rw[a1B hj] at k
     exact⟨hj,k⟩
   exact {
    tr:=λ j τ xs k=>by
     obtain⟨h1,h2⟩:=hold j τ xs k
     simp only[a1B h1]
     exact h.aI.tr j τ xs h2
    nd:=λ j τ xs k=>h.aI.nd j τ xs (hold j τ xs k).2
    pl:=λ j τ xs b k hb=>by
     obtain⟨h1,h2,h3,h4⟩:=h.aI.pl j τ xs b (hold j τ xs k).2 hb
     refine⟨h1,h2,h3,λ i p uh=>?_⟩
     by_cases hi:i=id
     .simp only[a1S hi]
      exact λ e=>(kY b e).2.2.2.2 j τ xs (hold j τ xs k).2 hb
     .simp only[a1B hi] at uh ⊢
      exact h4 i p uh
    ap:=λ j j' τ aV xs cT b k k'=>h.aI.ap j j' τ aV xs cT b (hold j τ xs k).2 (hold j' aV cT k').2 }
  root:=λ i v hr ht=>by
   by_cases hi:i=id
   .simp only[a1S hi] at ht;rw[J0] at ht;cases ht
   .simp only[a1B hi] at ht ⊢;exact h.root i v hr ht
  kd:=h.kd
  dE:=λ i v hr ht=>by
   by_cases hi:i=id
   .subst hi
    rcases bC with bC|bC
    .simp only[a3z] at ht
     rw[bC] at ht
     cases ht
    .have:=h.fW i v hr;omega
   .simp only[a1B hi] at ht ⊢;exact h.dE i v hr ht
  fW:=h.fW }
theorem bc.Pw{c:Ctx}{G:Gh}{sl:Nat->AV}{n:Nat}{lk:Nat->Option au}{a:Act}{w w':World}(h:bc c G sl n lk a w)(id:Nat)(o o':au)(b:Nat)(aN:lk id=some o)(hb:fe (G.η id)=some b)
  (fQ:ft (some o) (some o')) (J0:cp (some o')=false) (hw:∀ k,k≠b->w'.heap[k]?=w.heap[k]?) (Zj:w'.os=w.os) (Sj:w'.tape=w.tape) (N4:w'.output=w.output) (Im:w'.heap.size=w.heap.size)
  (rM:OR c G (λ i=>if i=id then some o' else lk i) w' id o'):bc c G sl n (λ i=>if i=id then some o' else lk i) a w':=by
 obtain⟨QN,hp2,hp3⟩:=h.place id o b aN hb
 have cy:∀ k,St c G.S k->w'.heap[k]?=w.heap[k]?:=λ k hk=>hw k λ e=>by
  subst e
  rcases hk with hk|hk
  .exact hp2 hk
  .exact QN.elim (λ q=>by omega) hk.2.1
 have hs:∀ j,ft (lk j) ((λ i=>if i=id then some o' else lk i) j):=λ j=>by
  by_cases hj:j=id
  .subst hj;simp only[a3z];rw[aN];exact fQ
  .simp only[a1B hj];exact ft.refl _
 exact {
  defers:=h.defers,size:=h.size
  aQ:=h.aQ.trans (Y:=λ k=>c.w0.heap.size<=k\/c.X k) ⟨Zj,Sj,N4,Nat.le_of_eq Im.symm,λ k _ hx=>hw k λ e=>by subst e;exact hx QN⟩ λ i hi hy=>hy.elim (λ h=>by omega) (λ h=>h)
  lE:=h.lE,fc:=h.fc,sX:=h.sX
  ed:=λ k hk=>by rw[Im];exact h.ed k hk
  ar:=λ i=>(h.ar i).mono (λ j _=>⟨hs j,rfl⟩) (λ _ h=>h) cy
  aC:=λ i p hp=>by
   by_cases hi:i=id
   .subst hi
    simp only[a3z,a1w] at hp
    subst hp
    exact rM
   .simp only[a1B hi] at hp
    exact (h.aC i p hp).mono rfl (λ k hk=>hw k λ e=>by subst e;exact hi (h.apart i id p o _ hp aN hk hb)) (λ j _=>⟨hs j,rfl⟩) (λ _ h=>h) cy
  place:=λ i p k hp hk=>by
   rw[Im]
   by_cases hi:i=id
   .subst hi;exact h.place i o k aN hk
   .simp only[a1B hi] at hp
    exact h.place i p k hp hk
  apart:=λ i j p q k hp hq hk oW=>by
   by_cases hi:i=id
   .by_cases hj:j=id
    .rw[hi,hj]
    .simp only[a1B hj] at hq
     rw[hi] at hk ⊢
     exact h.apart id j o q k aN hq hk oW
   .simp only[a1B hi] at hp
    by_cases hj:j=id
    .rw[hj] at oW ⊢
     exact h.apart i id p o k hp aN hk oW
    .simp only[a1B hj] at hq
     exact h.apart i j p q k hp hq hk oW
  aI:=by
   have hold:∀ j τ xs,(if j=id then some o' else lk j)=some (.aq τ xs)->lk j=some (.aq τ xs):=λ j τ xs k=>by
    by_cases hj:j=id
    .rw[a1S hj] at k
     cases k
     cases J0
    .rwa [a1B hj] at k
   exact {
    tr:=λ j τ xs k=>(h.aI.tr j τ xs (hold j τ xs k)).aQ λ k' oW=>hw k' λ e=>by
     subst e
     exact (h.aI.pl j τ xs _ (hold j τ xs k) oW).2.2.2 id o aN hb
    nd:=λ j τ xs k=>h.aI.nd j τ xs (hold j τ xs k)
    pl:=λ j τ xs b' k cm=>by
     obtain⟨h1,h2,h3,h4⟩:=h.aI.pl j τ xs b' (hold j τ xs k) cm
     refine⟨h1,h2,by rw[Im];exact h3,λ i p uh=>?_⟩
     by_cases hi:i=id
     .rw[hi];exact h4 id o aN
     .rw[a1B hi] at uh
      exact h4 i p uh
    ap:=λ j j' τ aV xs cT b' k k'=>h.aI.ap j j' τ aV xs cT b' (hold j τ xs k) (hold j' aV cT k') }
  root:=λ i v hr ht=>by
   by_cases hi:i=id
   .simp only[a1S hi] at ht;rw[J0] at ht;cases ht
   .simp only[a1B hi] at ht;exact h.root i v hr ht
  kd:=h.kd
  dE:=λ i v hr ht=>by
   by_cases hi:i=id
   .subst hi
    simp only[a3z] at ht
    refine h.dE i v hr ?_
    rw[aN]
    cases o with
    | box cs=>rfl
    | row e τ xs=>obtain⟨e',cT,q,_⟩:=fQ.2.1 e τ xs rfl;rw[q] at ht;cases ht
    | aq τ xs=>have h3:cp (some o')=true:=fQ.2.2.1 rfl;rw[J0] at h3;cases h3
    | map m =>
     obtain⟨b1,_,_,k1,_⟩:=h.aC i _ aN
     match o',ht with
     | .box cs,_ =>
      obtain⟨b2,_,_,k2,_⟩:=rM
      rw[k1] at k2;cases k2
   .simp only[a1B hi] at ht;exact h.dE i v hr ht
  fW:=h.fW }
end Go.Proofs.YtaaamahdcpcofaaDoor

namespace Go.Proofs.YtaaamahdcpcofaaDoor
def vA:Ty->Value->Bool
 | .int k, .int k' n=>decide (k=k')&&decide (n=0)
 | .bool, .bool b => !b
 | .str, .string s=>s.data.toList.isEmpty
 | .slice _, .slice none 0 0=>true
 | .ptr, .pointer none=>true
 | _,_=>false
def HL:List Ty->List Value->Bool
 | [],[]=>true
 | t::ts,v::vs=>vA t v&&HL ts vs
 | _,_=>false
def wX(τ:Ty)(v:Value):Bool :=
 match τ,v with
 | .st s, .agg cs=>HL s.uF cs.toList
 | .st _,_=>false
 | τ,v=>vA τ v
def KD(P:Program)(T:TypeId)(τ:Ty):Bool :=
 match P.info? T with
 | some i=>Nat.beq i.size τ.size&&(match i.zero with
  | some z=>wX τ z
  | none=>false)
 | none=>false
def CJ(E:Env)(s:aM):Nat->List Field->List Ty->Bool
 | _,[],[]=>true
 | i,f::fs,t::ts=>(match ae E.ty f.type with
   | some (τ,_)=>decide (τ=t)
   | none=>false)&&Nat.beq f.offset (s.gF i)&&CJ E s (i+1) fs ts
 | _,_,_=>false
def sM(P:Program)(E:Env)(T:TypeId)(τ:Ty)(b e:Nat):Bool :=
 KD P T τ&&match τ with
  | .int k=>match P.underlying T with
   | some (.int k')=>decide (k=k')
   | _=>false
  | .bool=>match P.underlying T with
   | some .bool=>true
   | _=>false
  | .str=>match P.underlying T with
   | some .string=>true
   | _=>false
  | .slice t=>match P.underlying T with
   | some (.slice e')=>Nat.beq e e'&&(match ae E.ty e with
     | some (aV,_)=>decide (aV=t)
     | none=>false)&&(match P.info? e with
     | some i=>Nat.beq i.bytes b
     | none=>false)&&KD P e t
   | _=>false
  | .st s=>match P.underlying T with
   | some (.struct fs)=>CJ E s 0 fs.toList s.jd
   | _=>false
  | .mv _=>false
  | .ptr=>match P.underlying T with
   | some (.pointer _)=>true
   | _=>false
def Mc(P:Program)(E:Env)(T:TypeId)(κ ε:Ty):Bool:=match P.underlying T with
 | some (.map k e)=>match ae E.ty k,ae E.ty e with
  | some (XS,_),some (XR,_)=>decide (XS=κ)&&(decide (XR=ε)&&(κ.key&&ε.key))
  | _,_=>false
 | _=>false
structure Info(P:Program)(T:TypeId)(τ:Ty):Prop where
 ex:∃ i z,P.info? T=some i/\i.size=τ.size/\i.zero=some z/\wX τ z=true
theorem QV{P:Program}{T:TypeId}{τ:Ty}(h:KD P T τ=true):Info P T τ:=by
 unfold KD at h
 split at h
 .rename_i i hi
  simp only[a1z] at h
  obtain⟨h1,h2⟩:=h
  split at h2
  .rename_i z hz
   exact⟨i,z,hi,a1x h1,hz,h2⟩
  .cases h2
 .cases h
def vP(P:Program)(w:World)(S:Nat->Prop):Arg->Value->Prop
 | .dw v,x=>∃ f iw l,x = .func (.func f) #[] l.toArray/\CC P f iw v.ps v.r v.F []/\aJ (Ej w S) iw l
 | a,x=>Ej w S a x
theorem vP.of0{P:Program}{w:World}{S:Nat->Prop}{a:Arg}{x:Value}(h:Ej w S a x):vP P w S a x:=by
 cases a with
 | dw v=>exact h.elim
 | own v=>exact h.elim
 | box k=>exact h.elim
 | _=>exact h
def bL(P:Program)(f:FuncId)(args:List Arg)(post:List TV->Prop):Prop :=
 ∀ (w:World) (S:Nat->Prop) (dc:List Value),Em w S->aJ (vP P w S) args dc ->
  Calls P f dc.toArray w λ e w'=>∃ x S' res,e = .returned x/\post res/\cP (λ _=>False) w w'/\(∀ b,b<w.heap.size->(S' b↔S b))/\(∀ b,S' b->b<w'.heap.size)/\DH w' S' res x
def xQ(w:World)(v:TV)(x:Value)(fp:List Nat):Prop :=
 match v with
 | ⟨.st s,y⟩=>∃ cs,x = .agg cs.toArray/\Ow w (s.aT y) cs fp
 | v=>Ow w v.aT [x] fp
def FG(w:World):List TV->List Value->List Nat->Prop
 | [],[],fp=>fp=[]
 | v::vs,x::xs,fp=>∃ f1 f2,fp=f1++f2/\xQ w v x f1/\FG w vs xs f2
 | _,_,_=>False
def El(w:World):List TV->Value->List Nat->Prop
 | [v],x,fp=>xQ w v x fp
 | vs,x,fp=>∃ l,x = .tuple l.toArray/\FG w vs l fp
def tw(P:Program)(w:World)(S:Nat->Prop):List Arg->List Value->List Nat->Prop
 | [],[],fp=>fp=[]
 | a::Z9,x::xs,fp=>∃ f1 f2,fp=f1++f2/\(match a with
  | .own v=>xQ w v x f1
  | a=>f1=[]/\vP P w S a x)/\tw P w S Z9 xs f2
 | _,_,_=>False
def rP(P:Program)(f:FuncId)(args:List Arg)(res:List TV):Prop :=
 ∀ (w:World) (S:Nat->Prop) (dc:List Value) (fa:List Nat),Em w S->tw P w S args dc fa->(fa=[]\/∀ a∈args,a.Fu=true)->fa.Nodup->(∀ b∈fa,b<w.heap.size/\¬ S b) ->
  Calls P f dc.toArray w λ e w'=>∃ x fp,e = .returned x/\cP (λ b=>b∈fa) w w'/\El w' res x fp/\fp.Nodup/\∀ b∈fp,b∈fa\/(w.heap.size<=b/\b<w'.heap.size)
theorem tw.Mt{P:Program}{w:World}{S:Nat->Prop}:∀ {Z9:List Arg} {xs:List Value},aJ (vP P w S) Z9 xs->tw P w S Z9 xs []
 | [],[],_=>rfl
 | a::Z9,x::xs,h=>by
  refine⟨[],[],rfl,?_,tw.Mt h.2⟩
  cases a with
  | own v=>exact h.1.elim
  | box k=>exact h.1.elim
  | _=>exact⟨rfl,h.1⟩
 | [],_::_,h=>h.elim
 | _::_,[],h=>h.elim
def FF(P:Program)(f:FuncId)(m:Aj):Prop :=
 ∀ (x:m.τ.den) (k:Int) (w:World) (v:Value) (fp:List Nat),(m.g x k).1.ok->ah k->TB w (λ b=>b<w.heap.size/\b∉fp)->xQ w ⟨m.τ,x⟩ v fp->fp.Nodup->(∀ b∈fp,b<w.heap.size) ->
  Calls P f #[v, .int .i64 k] w λ e w'=>e = .returned (.int .i64 (m.g x k).2.2)/\ah (m.g x k).2.2/\cP (λ b=>b∈fp) w w'/\∃ uf,xQ w' ⟨m.τ,(m.g x k).2.1⟩ v uf/\uf.Nodup/\∀ b∈uf,b∈fp\/(w.heap.size<=b/\b<w'.heap.size)
def mR(w:World)(S:Nat->Prop)(B:Nat->Nat):List CK->List TV->List Value->List Nat->Prop
 | [],[],[],fp=>fp=[]
 | .d τ::ks,v::ds,x::xs,fp=>(v.τ=τ/\τ.agg=false/\Rd w S v.aT [x])/\mR w S B ks ds xs fp
 | .o τ::ks,v::ds,x::xs,fp=>∃ f1 f2,fp=f1++f2/\(v.τ=τ/\τ.agg=false/\Ow w v.aT [x] f1)/\mR w S B ks ds xs f2
 | .p j::ks,ds,x::xs,fp=>x = .pointer (some ⟨B j,0,none⟩)/\mR w S B ks ds xs fp
 | _,_,_,_=>False
def kz(w:World)(S:Nat->Prop)(B:Nat->Nat):Nat->List (List CK)->List (List TV)->List Nat->Prop
 | _,[],[],fp=>fp=[]
 | k,ks::sh,ds::bN,fp=>∃ l t f1 f2,fp=f1++f2/\w.heap[B k]?=some (.cells l.toArray t (0,0))/\mR w S B ks ds l f1/\kz w S B (k+1) sh bN f2
 | _,_,_,_=>False
def P2(w:World)(S X:Nat->Prop)(B:Nat->Nat):Arg->Value->Prop
 | .box k,x=>x = .pointer (some ⟨B k,0,none⟩)
 | .val v,x=>fM w S v x
 | .ref v,x=>∃ b o cs,x = .pointer (some ⟨b,o,none⟩)/\b<w.heap.size/\¬ X b/\dk w b o cs/\Rd w S v.aT cs
 | .fn f,x=>x = .func (.func f) #[] #[]
 | .dw _,_=>False
 | .own _,_=>False
def BX(n:Nat)(B:Nat->Nat)(fa:List Nat)(b:Nat):Prop:=b∈fa\/∃ k,k<n/\b=B k
def o5(P:Program)(f:FuncId)(sh:List (List CK))(args:List Arg)(bN:List (List TV))(res:List TV)(gw:List (List TV)):Prop :=
 ∀ (w:World) (S:Nat->Prop) (B:Nat->Nat) (dc:List Value) (fa:List Nat),Em w S->kz w S B 0 sh bN fa->fa.Nodup->(∀ b∈fa,b<w.heap.size/\¬ S b/\∀ k,k<sh.length->B k≠b) ->
  (∀ k,k<sh.length->B k<w.heap.size/\¬ S (B k))->(∀ j k,j<sh.length->k<sh.length->B j=B k->j=k)->aJ (P2 w S (BX sh.length B fa) B) args dc ->
  Calls P f dc.toArray w λ e w'=>∃ x S' fp H8,e = .returned x/\cP (BX sh.length B fa) w w'/\(∀ b,S b->S' b)/\(∀ b,S' b->b<w'.heap.size)/\(∀ b,b<w.heap.size->¬ BX sh.length B fa b->(S' b↔S b)) /\
   El w' res x fp/\kz w' S' B 0 sh gw H8/\(fp++H8).Nodup/\(∀ b∈fp++H8,(b∈fa\/(w.heap.size<=b/\b<w'.heap.size))/\¬ S' b/\∀ k,k<sh.length->B k≠b)/\∀ k,k<sh.length->¬ S' (B k)
theorem bL.ok0{P:Program}{f:FuncId}{args:List Arg}{post:List TV->Prop}(h:bL P f args post):FE P f args post :=
 λ w S dc hS ha=>h w S dc hS (ha.imp λ _ _ _ hx => .of0 hx)
def UP(w:World)(S:Nat->Prop)(x:Value):P5->Prop
 | .box cells=>∃ b l t,x = .pointer (some ⟨b,0,none⟩)/\w.heap[b]?=some (.cells l.toArray t (0,0))/\aJ (λ v x=>v.τ.agg=false/\Rd w S v.aT [x]) cells l
 | .row e τ xs=>∃ l,w.ownsRow 0 e τ.size x xs.length l/\fJ w S (xs.map τ.aT) l/\xs.length<=140737488355328
def UQ(P:Program)(f:FuncId)(args:List Arg)(o:P5):Prop :=
 ∀ (w:World) (S:Nat->Prop) (dc:List Value),Em w S->aJ (vP P w S) args dc ->
  Calls P f dc.toArray w λ e w'=>∃ x S',e = .returned x/\cP (λ _=>False) w w'/\(∀ k,k<w.heap.size->(S' k↔S k))/\(∀ k,S' k->k<w'.heap.size) /\
   (∀ b,fe x=some b->w.heap.size<=b/\b<w'.heap.size/\¬ S' b)/\UP w' S' x o
structure bD(P:Program)(E:Env):Prop where
 ty:∀ T τ b e,ae E.ty T=some (τ,b,e)->sM P E T τ b e=true
 Q2:∀ T κ ε,ae E.Q2 T=some (κ,ε)->Mc P E T κ ε=true
 SP:∀ T τ,ae E.SP T=some τ->True
 H6:∀ f args pre res,E.H6 f args=some (pre,res)->pre.ok->lF P f/\bL P f args (·=res)
 Hb:∀ f args pre res,E.Hb f args=some (pre,res)->pre.ok->lF P f/\rP P f args res
 mark:∀ f m,E.mark f=some m->lF P f/\FF P f m
 Ml:∀ f args pre o,E.Ml f args=some (pre,o)->pre.ok->lF P f/\UQ P f args o
 Oq:∀ f sk args bN pre res gw,E.sk f=some sk->E.Oq f args bN=some (pre,res,gw)->pre.ok->lF P f/\o5 P f sk.sh args bN res gw
section
variable {P:Program} {E:Env} {T:TypeId} {τ:Ty} {b e:Nat}
theorem bD.info(hE:bD P E)(h:ae E.ty T=some (τ,b,e)):Info P T τ:=by
 have:=hE.ty _ _ _ _ h
 unfold sM at this
 simp only[a1z] at this
 exact QV this.1
theorem bD.int(hE:bD P E){k:IntKind}(h:ae E.ty T=some (.int k,b,e)):P.underlying T=some (.int k):=by
 have:=hE.ty _ _ _ _ h
 unfold sM at this
 simp only[a1z] at this
 have h2:=this.2
 split at h2
 .rename_i k' hk
  rw[hk,a2d h2]
 .cases h2
theorem bD.bool(hE:bD P E)(h:ae E.ty T=some (.bool,b,e)):P.underlying T=some .bool:=by
 have:=hE.ty _ _ _ _ h
 unfold sM at this
 simp only[a1z] at this
 have h2:=this.2
 split at h2
 .assumption
 .cases h2
theorem bD.str(hE:bD P E)(h:ae E.ty T=some (.str,b,e)):P.underlying T=some .string:=by
 have:=hE.ty _ _ _ _ h
 unfold sM at this
 simp only[a1z] at this
 have h2:=this.2
 split at h2
 .assumption
 .cases h2
theorem bD.slice(hE:bD P E){t:Ty}(h:ae E.ty T=some (.slice t,b,e)) :
  P.underlying T=some (.slice e)/\(∃ b' e',ae E.ty e=some (t,b',e'))/\(∃ i z,P.info? e=some i/\i.size=t.size/\i.bytes=b/\i.zero=some z/\wX t z=true):=by
 have:=hE.ty _ _ _ _ h
 unfold sM at this
 simp only[a1z] at this
 have h2:=this.2
 split at h2
 .rename_i e' yn
  simp only[a1z] at h2
  obtain⟨⟨⟨h3,h4⟩,h5⟩,h6⟩:=h2
  have h3:=a1x h3
  subst h3
  split at h4
  .rename_i aV r hl
   have h4:=a2d h4
   subst h4
   obtain⟨i,z,hi,hs,hz,Xs⟩:=(QV h6).ex
   rw[hi] at h5
   exact⟨yn,⟨_,_,hl⟩,i,z,hi,hs,a1x h5,hz,Xs⟩
  .cases h4
 .cases h2
theorem Gk{s:aM}:∀ (n:Nat) (fs:List Field) (ts:List Ty),CJ E s n fs ts=true->fs.length=ts.length /\
  ∀ i f,fs[i]?=some f->∃ t b e,ts[i]?=some t/\ae E.ty f.type=some (t,b,e)/\f.offset=s.gF (n+i)
 | _,[],[],_=>⟨rfl,by simp⟩
 | n,f::fs,t::ts,h=>by
  simp only[CJ,a1z] at h
  obtain⟨⟨h1,h2⟩,h3⟩:=h
  obtain⟨h4,h5⟩:=Gk (n+1) fs ts h3
  refine⟨by simp[h4],λ i g hi=>?_⟩
  cases i with
  | zero =>
   simp at hi
   subst hi
   split at h1
   .rename_i τ r hl
    have h1:=a2d h1
    subst h1
    exact⟨_,_,_,rfl,hl,a1x h2⟩
   .cases h1
  | succ i =>
   obtain⟨t',b',e',k1,k2,k3⟩:=h5 i g (by simpa using hi)
   exact⟨t',b',e',by simpa using k1,k2,by rw[k3];congr 1;omega⟩
 | _,[],_::_,h=>by cases h
 | _,_::_,[],h=>by cases h
theorem bD.st(hE:bD P E){s:aM}(h:ae E.ty T=some (.st s,b,e)) :
  ∃ fs,P.underlying T=some (.struct fs)/\fs.size=s.jd.length/\∀ i f,fs[i]?=some f->∃ t b e,s.jd[i]?=some t/\ae E.ty f.type=some (t,b,e)/\f.offset=s.gF i:=by
 have:=hE.ty _ _ _ _ h
 unfold sM at this
 simp only[a1z] at this
 have h2:=this.2
 split at h2
 .rename_i fs hfs
  obtain⟨h3,h4⟩:=Gk 0 _ _ h2
  refine⟨fs,hfs,by simpa using h3,λ i f hi=>?_⟩
  obtain⟨t,b',e',k1,k2,k3⟩:=h4 i f (by simpa using hi)
  exact⟨t,b',e',k1,k2,by simpa using k3⟩
 .cases h2
theorem bD.Wq(hE:bD P E){t:Ty}(h:ae E.ty T=some (.mv t,b,e)):False:=by
 have:=hE.ty _ _ _ _ h
 unfold sM at this
 simp at this
theorem bD.ptr(hE:bD P E)(h:ae E.ty T=some (.ptr,b,e)):∃ t,P.underlying T=some (.pointer t):=by
 have:=hE.ty _ _ _ _ h
 unfold sM at this
 simp only[a1z] at this
 have h2:=this.2
 split at h2
 .rename_i t ht;exact⟨t,ht⟩
 .cases h2
theorem bD.isAgg(hE:bD P E)(h:ae E.ty T=some (τ,b,e))(w:World):(isAgg T).run P w = .ok τ.agg w:=by
 cases τ with
 | int k=>simp[Go.isAgg,a2w (hE.int h)];rfl
 | bool=>simp[Go.isAgg,a2w (hE.bool h)];rfl
 | str=>simp[Go.isAgg,a2w (hE.str h)];rfl
 | slice t=>simp[Go.isAgg,a2w (hE.slice h).1];rfl
 | st s=>obtain⟨fs,h1,_⟩:=hE.st h;simp[Go.isAgg,a2w h1];rfl
 | mv t=>exact (hE.Wq h).elim
 | ptr=>obtain⟨t,ht⟩:=hE.ptr h;simp[Go.isAgg,a2w ht];rfl
theorem bD.sizeOf(hE:bD P E)(h:ae E.ty T=some (τ,b,e))(w:World):(sizeOf T).run P w = .ok τ.size w:=by
 obtain⟨i,z,h1,h2,_⟩:=(hE.info h).ex
 simp[Go.sizeOf,typeInfo,h1,h2]
theorem Ty.lD{τ:Ty}(h:τ.agg=false):τ.size=1:=by cases τ<;>first|rfl|cases h
theorem aM.size_pos(s:aM):0<s.size:=by cases s<;>decide
theorem Ty.size_pos(τ:Ty):0<τ.size:=by cases τ<;>first|exact Nat.one_pos|exact aM.size_pos _
def Dy(τ:Ty)(cs:List Value):Value :=
 match τ with
 | .st _ => .agg cs.toArray
 | _=>cs.getD 0 undef
theorem qH(hE:bD P E)(h:ae E.ty T=some (τ,b,e)){w:World}{bk o:Nat}{cs:List Value}(hc:dk w bk o cs)(hl:cs.length=τ.size) :
  (Instr.loadAt T (.pointer (some ⟨bk,o,none⟩))).run P w = .ok (Dy τ cs) w:=by
 have Nd:∀ j v,cs[j]?=some v->w.cell? ((⟨bk,o,none⟩:Addr).add j)=some v:=λ j v hj=>by rw[a3v];exact hc j v hj
 simp only[Instr.loadAt,Instr.sureAddr,loadVar,a2h,a2i,a1U,hE.isAgg h]
 cases kZ:τ.agg with
 | true =>
  simp only[a3z,a2h,hE.sizeOf h,a1U]
  rw[<-hl,run_loadCells_list w _ cs Nd]
  cases τ<;>first|rfl|cases kZ
 | false =>
  have h1:cs.length=1:=hl.trans (Ty.lD kZ)
  match cs,h1 with
  | [v],_ =>
   have:=hc 0 v rfl
   simp only[a3w] at this
   simp[run_load,this]
   cases τ<;>first|rfl|cases kZ
end
end Go.Proofs.YtaaamahdcpcofaaDoor

namespace Go.Proofs.YtaaamahdcpcofaaDoor
section
variable {c:Ctx} {G:Gh} {lk:Nat->Option au} {w:World}
theorem C1.iA{v:AV}{x:Value}(h:C1 c G lk w v x):VR c G lk w v x:=by
 cases v with
 | az v =>
  obtain⟨τ,y⟩:=v
  cases τ with
  | st s=>cases h.1
  | _=>exact h.2
 | agg cs=>exact h.elim
 | kr vs=>exact h.elim
 | dw f cs=>exact h.elim
 | _=>exact h
theorem VR.OB{v:AV}{x:Value}(h:VR c G lk w v x)(hc:v.cell=true):C1 c G lk w v x:=by
 cases v with
 | az v =>
  obtain⟨τ,y⟩:=v
  cases τ with
  | st s=>cases hc
  | _=>exact⟨rfl,h⟩
 | agg cs=>cases hc
 | kr vs=>cases hc
 | dw f cs=>cases hc
 | any=>cases hc
 | _=>exact h
theorem lu{v:TV}(h:v.τ.agg=false):v.aT.leaf=true:=by
 obtain⟨τ,y⟩:=v
 cases τ<;>first|rfl|exact Iw _ _ _|cases h
theorem C1.leaf{v:AV}{x:Value}(h:C1 c G lk w v x)(hc:v.cell=true):x.oneCell'=true/\x.cells = #[x]:=by
 cases v with
 | any=>cases hc
 | eV=>cases hc
 | agg cs=>cases hc
 | kr cs=>cases hc
 | dw f cs=>cases hc
 | jO v=>cases hc
 | az v =>
  obtain⟨y,h1,h2⟩:=Rd.tE (lu h.1) h.2
  simp only[a1C,a1H] at h1
  subst h1
  exact⟨wG h2,GY h2⟩
 | nil=>rw[show x=_ from h];exact⟨rfl,rfl⟩
 | gK v=>obtain⟨b,o,cs,rfl,_⟩:=h;exact⟨rfl,rfl⟩
 | ptr i o=>obtain⟨b,_,rfl,_⟩:=h;exact⟨rfl,rfl⟩
 | row i=>obtain⟨_,_,a,n,m,rfl⟩:=h;exact⟨rfl,rfl⟩
 | aq i=>obtain⟨_,_,_,a,n,m,rfl⟩:=h;exact⟨rfl,rfl⟩
 | sub i k o z=>cases hc
 | fL i k o z=>cases hc
 | fh i k o=>obtain⟨b,n,cap,e,τ,xs,_,_,_,rfl⟩:=h;exact⟨rfl,rfl⟩
 | fn f=>rw[show x=_ from h];exact⟨rfl,rfl⟩
 | mp i=>obtain⟨_,_,b,rfl⟩:=h;exact⟨rfl,rfl⟩
theorem fM.cells{S:Nat->Prop}{v:TV}{x:Value}(h:fM w S v x):Rd w S v.aT x.cells.toList:=by
 obtain⟨τ,y⟩:=v
 cases τ with
 | st s =>
  obtain⟨cs,rfl,h⟩:=h
  show Rd w S (s.aT y) _
  simpa [Value.cells] using h
 | _ =>
  obtain⟨z,h1,h2⟩:=Rd.tE (lu rfl) h
  simp only[a1C,a1H] at h1
  subst h1
  rw[GY h2]
  exact h
theorem fM.ZA{S:Nat->Prop}{v:TV}{cs:List Value}(h:Rd w S v.aT cs):fM w S v (Dy v.τ cs):=by
 obtain⟨τ,y⟩:=v
 cases τ with
 | st s=>exact⟨cs,rfl,h⟩
 | _ =>
  obtain⟨z,rfl,h2⟩:=Rd.tE (lu rfl) h
  exact h
def SX(G:Gh)(lk:Nat->Option au)(b:Nat):Prop:=G.S b\/(∃ id e τ xs,lk id=some (.row e τ xs)/\fe (G.η id)=some b)\/∃ id τ xs,lk id=some (.aq τ xs)/\b∈G.φ id
theorem bc.Tw{c:Ctx}{G:Gh}{sl:Nat->AV}{n:Nat}{lk:Nat->Option au}{a:Act}{w:World}(h:bc c G sl n lk a w):Em w (SX G lk) :=
 ⟨λ b q=>by
  rcases q with hb|⟨id,e,τ,ys,aN,hb⟩|⟨id,τ,ys,aN,hb⟩
  .exact h.ed b hb
  .exact (h.place id _ b aN hb).2.2
  .exact (h.aI.pl id _ _ b aN hb).2.2.1,h.SU.2.mono (λ _ q => .inl q) λ _ _=>rfl⟩
theorem SX.of{b:Nat}(h:G.S b):SX G lk b := .inl h
theorem Tt{id:Nat}{e:TypeId}{τ:Ty}{xs:List τ.den}(ho:OR c G lk w id (.row e τ xs))(aN:lk id=some (.row e τ xs)):Rd w (SX G lk) (Ty.aT (.slice τ) xs) [G.η id]:=by
 obtain⟨l,h1,h2,h3⟩:=ho
 rcases h1.2 with ⟨hv,hn⟩|⟨g,cap,cur,hv,_,hh,JZ,R8,lU,V0⟩
 .have hx:xs=[]:=a2D hn
  subst hx
  exact⟨none,0,by simp[hv],by simp,by simp[maxLen],by simp, .inl rfl⟩
 .refine⟨some ⟨g,0,none⟩,cap,by simp[hv],by simpa using JZ,R8,by simpa using h3,?_⟩
  refine .inr ⟨g,0,rfl, .inr (.inl ⟨id,e,τ,xs,aN,by rw[hv];rfl⟩),?_⟩
  refine fJ.row _ g 0 (h2.aQ (λ _ h=>SX.of h) (λ _ _=>rfl)) λ j v hj=>?_
  have:=h1.cells (g:=g) (by rw[hv];rfl) j v hj
  rw[a3v] at this
  exact this
theorem jH.rd{S:Nat->Prop}{η:Value}{τ:Ty}{xs:List τ.den}{fp:List Nat}(h:jH w η τ xs fp){x:Value}{l:List Value}(hx:η = .tuple (x::l).toArray)(hS:∀ b∈fp,S b):Rd w S (Ty.aT (.slice τ) xs) [x]:=by
 obtain⟨v,l',a,cap,h1,h2,h3,h4,h5,h6⟩:=h
 rw[hx] at h1
 simp only[a2X,a4g,a1C] at h1
 obtain⟨rfl,rfl⟩:=h1
 refine⟨a,cap,by simp[h2],by simpa using h3,h4,by simpa using h5,?_⟩
 rcases h6 with ⟨rfl,_,_⟩|⟨b,f,t,rfl,rfl,k1,_,k2⟩
 .exact .inl rfl
 .exact .inr ⟨b,0,rfl,hS b (by simp),bV.rd _ (p:=[]) (by simpa using k1) k2 λ b hb=>hS b (by simp[hb])⟩
theorem WL(AX:Eo c G lk w){id:Nat}{τ:Ty}{xs:List τ.den}{x:Value}(aN:lk id=some (.aq τ xs))(hx:C1 c G lk w (.aq id) x):Rd w (SX G lk) (Ty.aT (.slice τ) xs) [x]:=by
 obtain⟨_,l,h2,_⟩:=hx
 exact (AX.tr id τ xs aN).rd h2 λ b hb => .inr (.inr ⟨id,τ,xs,aN,hb⟩)
theorem Yv(AX:Eo c G lk w)(mX:∀ id o,lk id=some o->OR c G lk w id o){lk':Nat->Option au}(cu:∀ id o,lk' id=some o->lk id=some o){τ:Ty}{v:AV}{x:Value}{y:τ.den}(h:lG lk' τ v=some y)
  (hv:C1 c G lk w v x):Rd w (SX G lk) (τ.aT y) [x]:=by
 cases v with
 | az u =>
  have e:=TV.aX h
  subst e
  exact Rd.aQ (λ _ h=>SX.of h) (λ _ _=>rfl) _ hv.2
 | nil =>
  cases τ with
  | slice t =>
   simp only[lG,a1w] at h
   subst h
   exact⟨none,0,by rw[show x=_ from hv];rfl,by simp,by simp[maxLen],by simp, .inl rfl⟩
  | _=>cases h
 | row id =>
  simp only[lG] at h
  split at h
  .rename_i e aV xs hl
   have e1:=TV.aX h
   cases e1
   have oo:=cu _ _ hl
   rw[hv.1]
   exact Tt (mX _ _ oo) oo
  .cases h
 | aq id =>
  simp only[lG] at h
  split at h
  .rename_i aV xs hl
   have e1:=TV.aX h
   cases e1
   exact WL AX (cu _ _ hl) hv
  .cases h
 | _=>cases h
theorem WX{lk':Nat->Option au}(ky:∀ id e τ xs,lk' id≠some (.row e τ xs))(J0:∀ id τ xs,lk' id≠some (.aq τ xs)){τ:Ty}{v:AV}{x:Value}{y:τ.den}(h:lG lk' τ v=some y)(hv:C1 c G lk w v x):Rd w G.S (τ.aT y) [x]:=by
 cases v with
 | az u =>
  have e:=TV.aX h
  subst e
  exact hv.2
 | nil =>
  cases τ with
  | slice t =>
   simp only[lG,a1w] at h
   subst h
   exact⟨none,0,by rw[show x=_ from hv];rfl,by simp,by simp[maxLen],by simp, .inl rfl⟩
  | _=>cases h
 | row id =>
  simp only[lG] at h
  split at h
  .rename_i hl
   exact absurd hl (ky _ _ _ _)
  .cases h
 | aq id =>
  simp only[lG] at h
  split at h
  .rename_i hl
   exact absurd hl (J0 _ _ _)
  .cases h
 | _=>cases h
theorem Kx{τ:Ty}{v:AV}{x:Value}{y:τ.den}(h:lG (λ _=>none) τ v=some y)(hv:C1 c G lk w v x):Rd w G.S (τ.aT y) [x]:=by
 cases v with
 | az u =>
  have e:=TV.aX h
  subst e
  exact hv.2
 | nil =>
  cases τ with
  | slice t =>
   simp only[lG,a1w] at h
   subst h
   exact⟨none,0,by rw[show x=_ from hv];rfl,by simp,by simp[maxLen],by simp, .inl rfl⟩
  | _=>cases h
 | _=>cases h
theorem Jc{lk':Nat->Option au}{R:TV->Value->Prop}{Q:AV->Value->Prop}(hR:∀ t v x y,lG lk' t v=some y->Q v x->R ⟨t,y⟩ x):∀ {cs:List AV} {ts:List Ty} {l:List TV} {vs:List Value},KZ lk' cs ts=some l->aJ Q cs vs->aJ R l vs
 | [],[],l,vs,h,k=>by
  simp only[KZ,a1w] at h
  subst h
  match vs,k with
  | [],_=>trivial
 | v::cs,t::ts,l,vs,h,k=>by
  simp only[KZ] at h
  split at h
  .rename_i x hx
   split at h
   .rename_i r hr
    simp only[a1w] at h
    subst h
    match vs,k with
    | u::us,k=>exact⟨hR _ _ _ _ hx k.1,Jc hR hr k.2⟩
   .cases h
  .cases h
 | [],_::_,_,_,h,_=>by cases h
 | _::_,[],_,_,h,_=>by cases h
theorem Er{S:Nat->Prop}{lk':Nat->Option au}(h1:∀ τ v x (y:τ.den),lG lk' τ v=some y->C1 c G lk w v x->Rd w S (τ.aT y) [x])(hS:∀ b,G.S b->S b)
  {τ:Ty} {v:AV} {x:Value} {y:τ.den} (h:AQ lk' τ v=some y) (hv:VR c G lk w v x):fM w S ⟨τ,y⟩ x:=by
 have tA:∀ (tR:∀ cs,v ≠ .agg cs),lG lk' τ v=some y->fM w S ⟨τ,y⟩ x:=by
  intro tR ha
  cases v with
  | az u =>
   have e:=TV.aX ha
   subst e
   exact fM.mono (G:=G) (G':=⟨S,G.η,G.φ⟩) hv hS (λ _ _=>rfl)
  | nil =>
   have:=h1 τ .nil x y ha hv
   cases τ with
   | st s=>cases ha
   | _=>exact this
  | row i =>
   have:=h1 τ (.row i) x y ha hv
   cases τ with
   | st s =>
    simp only[lG] at ha
    split at ha
    .have e:=TV.aX ha
     cases e
    .cases ha
   | _=>exact this
  | aq i =>
   have:=h1 τ (.aq i) x y ha hv
   cases τ with
   | st s =>
    simp only[lG] at ha
    split at ha
    .have e:=TV.aX ha
     cases e
    .cases ha
   | _=>exact this
  | agg cs=>exact absurd rfl (tR cs)
  | _=>cases ha
 cases v with
 | agg cs =>
  cases τ with
  | st s =>
   simp only[AQ] at h
   split at h
   .rename_i l hl
    obtain⟨vs,rfl,zC⟩:=hv
    refine⟨vs,rfl,?_⟩
    rw[aM.cq,aM.pj h]
    exact dB.vS.2 (Jc (λ t u z k hk hz=>h1 t u z k hk hz) hl zC)
   .cases h
  | _=>cases h
 | _=>exact tA (by intro cs;simp) h
theorem yZ(AX:Eo c G lk w)(mX:∀ id o,lk id=some o->OR c G lk w id o){lk':Nat->Option au}(cu:∀ id o,lk' id=some o->lk id=some o){τ:Ty}{v:AV}{x:Value}{y:τ.den}(h:AQ lk' τ v=some y)
  (hv:VR c G lk w v x):fM w (SX G lk) ⟨τ,y⟩ x :=
 Er (λ τ v x y h hv=>Yv AX mX cu h hv) (λ _ h=>SX.of h) h hv
theorem xT{lk':Nat->Option au}(ky:∀ id e τ xs,lk' id≠some (.row e τ xs))(J0:∀ id τ xs,lk' id≠some (.aq τ xs)){τ:Ty}{v:AV}{x:Value}{y:τ.den}(h:AQ lk' τ v=some y)(hv:VR c G lk w v x):fM w G.S ⟨τ,y⟩ x :=
 Er (λ τ v x y h hv=>WX ky J0 h hv) (λ _ h=>h) h hv
theorem FT{τ:Ty}{v:AV}{x:Value}{y:τ.den}(h:AQ (λ _=>none) τ v=some y)(hv:VR c G lk w v x):fM w G.S ⟨τ,y⟩ x :=
 Er (λ τ v x y h hv=>Kx h hv) (λ _ h=>h) h hv
theorem wZ{τ:Ty}{v:AV}{x:Value}{new:List AV}(h:cellsOf τ v=some new)(hv:VR c G lk w v x) :
  aJ (C1 c G lk w) new x.cells.toList/\(∀ u∈x.cells.toList,u.oneCell'=true)/\new.length=τ.size:=by
 have one:v.cell=true->new=[v]->τ.size=1->aJ (C1 c G lk w) new x.cells.toList/\(∀ u∈x.cells.toList,u.oneCell'=true)/\new.length=τ.size:=by
  intro hc hn hs
  subst hn
  have h1:=hv.OB hc
  obtain⟨h2,h3⟩:=h1.leaf hc
  rw[h3]
  exact⟨⟨h1,trivial⟩,by simpa using h2,by simp[hs]⟩
 cases τ with
 | st s =>
  simp only[cellsOf] at h
  split at h
  .rename_i u
   split at h
   .rename_i y hy
    simp only[a1w] at h
    subst h
    have e:=TV.aX hy
    subst e
    obtain⟨cs,rfl,hr⟩:=hv
    rw[aM.cq] at hr
    have ha:=dB.vS.1 hr
    refine⟨?_,?_,by simp[Ty.size,aM.ki]⟩
    .simp only[Value.cells]
     refine aJ.fG _ (ha.imp λ u z hu hz=>⟨?_,hz⟩)
     have:=aM.qo s y u hu
     obtain⟨aV,z'⟩:=u
     cases aV with
     | st s'=>simp[TV.aT,Ty.aT,aM.cq,D.leaf] at this
     | _=>rfl
    .simp only[Value.cells]
     intro u hu
     obtain⟨i,hi,VJ⟩:=a3C hu
     have hlen:=ha.length
     obtain⟨b,hb,LS⟩:=ha.at_ i (s.cells y)[i] (a2m (by omega))
     have cm:b=u:=by
      have:cs[i]?=some u:=by rw[a2m hi,VJ]
      rw[this] at hb;exact (a3M hb).symm
     subst cm
     obtain⟨z,h1,h2⟩:=Rd.tE (aM.qo s y _ (a4f _)) LS
     simp only[a1C,a1H] at h1
     subst h1
     exact wG h2
   .cases h
  .rename_i cs
   split at h
   .rename_i hb
    simp only[a1w] at h
    subst h
    simp only[a1z] at hb
    obtain⟨l,rfl,hl⟩:=hv
    refine⟨by simpa [Value.cells] using hl,?_,by simpa [Ty.size] using Nat.eq_of_beq_eq_true hb.1⟩
    simp only[Value.cells]
    intro u hu
    obtain⟨i,hi,VJ⟩:=a3C hu
    have hlen:=hl.length
    obtain⟨b,cm,LS⟩:=hl.at_ i cs[i] (a2m (by omega))
    have YS:b=u:=by
     have:l[i]?=some u:=by rw[a2m hi,VJ]
     rw[this] at cm;exact (a3M cm).symm
    subst YS
    exact (LS.leaf (a2e.1 hb.2 _ (a4f _))).1
   .cases h
  .cases h
 | int k =>
  simp only[cellsOf] at h
  split at h
  .rename_i hc;simp only[a1w] at h;exact one hc h.symm rfl
  .cases h
 | bool =>
  simp only[cellsOf] at h
  split at h
  .rename_i hc;simp only[a1w] at h;exact one hc h.symm rfl
  .cases h
 | str =>
  simp only[cellsOf] at h
  split at h
  .rename_i hc;simp only[a1w] at h;exact one hc h.symm rfl
  .cases h
 | ptr =>
  simp only[cellsOf] at h
  split at h
  .rename_i hc;simp only[a1w] at h;exact one hc h.symm rfl
  .cases h
 | mv t =>
  simp only[cellsOf] at h
  split at h
  .rename_i hc;simp only[a1w] at h;exact one hc h.symm rfl
  .cases h
 | slice t =>
  simp only[cellsOf] at h
  split at h
  .rename_i hc;simp only[a1w] at h;exact one hc h.symm rfl
  .cases h
theorem BF{cs:List AV}{l:List Value}(hl:aJ (C1 c G lk w) cs l){off:Nat}{τ:Ty}{u:AV}(h:CL cs off τ=some u) :
  VR c G lk w u (Dy τ ((l.drop off).take τ.size))/\((l.drop off).take τ.size).length=τ.size/\off+τ.size<=l.length:=by
 have hlen:=hl.length
 have one:τ.size=1->(∀ s,τ ≠ .st s)->cs[off]?=some u->VR c G lk w u (Dy τ ((l.drop off).take τ.size))/\((l.drop off).take τ.size).length=τ.size/\off+τ.size<=l.length:=by
  intro hs cy hu
  obtain⟨x,hx,hr⟩:=hl.at_ off u hu
  have bC:off<l.length:=(a2a.1 hx).1
  have he:(l.drop off).take 1=[x]:=by
   rw[a3h bC]
   have:=(a2a.1 hx).2
   simp[this]
  rw[hs,he]
  refine⟨?_,rfl,by omega⟩
  have:Dy τ [x]=x:=by cases τ<;>first|rfl|exact absurd rfl (cy _)
  rw[this]
  exact hr.iA
 cases τ with
 | st s =>
  simp only[CL] at h
  split at h
  .rename_i hb
   simp only[a1w] at h
   subst h
   have hle:=a2n hb
   refine⟨⟨_,rfl,(hl.drop off).take s.size⟩,?_,?_⟩
   .simp only[Ty.size,a3f,a2H];omega
   .simp only[Ty.size];omega
  .cases h
 | int k=>exact one rfl (by intro s;simp) h
 | bool=>exact one rfl (by intro s;simp) h
 | str=>exact one rfl (by intro s;simp) h
 | slice t=>exact one rfl (by intro s;simp) h
 | mv t=>exact one rfl (by intro s;simp) h
 | ptr=>exact one rfl (by intro s;simp) h
theorem dk.part{bk o:Nat}{l:List Value}(h:dk w bk o l)(off n:Nat):dk w bk (o+off) ((l.drop off).take n):=λ j v hj=>by
 rw[a2Z] at hj
 split at hj
 .rw[a3V] at hj
  have:=h (off+j) v hj
  rwa [<-a4o] at this
 .cases hj
theorem dk.of_heap{bk:Nat}{l:List Value}{t:TypeId}{fr:Nat×Nat}(h:w.heap[bk]?=some (.cells l.toArray t fr)):dk w bk 0 l:=λ j v hj=>by
 simp only[World.cell?,h,a3j,Option.isSome_none]
 simpa using hj
theorem SN{S:Nat->Prop}{v u:TV}{off:Nat}{τ:Ty}(h:v.part off τ=some u){l:List Value}(hl:Rd w S v.aT l) :
  u.τ=τ/\((l.drop off).take τ.size).length=τ.size/\Rd w S u.aT ((l.drop off).take τ.size):=by
 have hlen:=Rd.length _ hl
 rw[show v.aT=v.τ.aT v.x from rfl,Ty.cK] at hlen
 unfold TV.part at h
 split at h
 .rename_i hb
  simp only[a1z] at hb
  simp only[a1w] at h
  subst h
  have h0:=a1x hb.1
  have h1:=a2d hb.2
  subst h0
  subst h1
  rw[a3Q,a2F (by omega)]
  exact⟨rfl,hlen,hl⟩
 .split at h
  .rename_i z hz
   split at h
   .rename_i hb
    simp only[a1w] at h
    subst h
    have h1:=a2d hb
    subst h1
    obtain⟨aV,y⟩:=v
    have key:∀ (x:Value),l[off]?=some x->z.τ.agg=false->Rd w S z.aT [x]->z.τ=z.τ/\((l.drop off).take z.τ.size).length=z.τ.size/\Rd w S z.aT ((l.drop off).take z.τ.size):=by
     intro x hx ha hr
     have bC:off<l.length:=(a2a.1 hx).1
     have he:(l.drop off).take 1=[x]:=by
      rw[a3h bC]
      have:=(a2a.1 hx).2
      simp[this]
     rw[Ty.lD ha,he]
     exact⟨rfl,rfl,hr⟩
    cases aV with
    | st s =>
     simp only[TV.cells] at hz
     rw[show TV.aT ⟨.st s,y⟩=s.aT y from rfl,aM.cq] at hl
     obtain⟨x,hx,hr⟩:=(dB.vS.1 hl).at_ off z hz
     refine key x hx ?_ hr
     have:=aM.qo s y z (a2A hz)
     obtain⟨a0S,z'⟩:=z
     cases a0S with
     | st s'=>simp[TV.aT,Ty.aT,aM.cq,D.leaf] at this
     | _=>rfl
    | _ =>
     simp only[TV.cells] at hz
     cases off with
     | zero =>
      simp at hz
      subst hz
      obtain⟨x,rfl,_⟩:=Rd.tE (lu rfl) hl
      exact key x rfl rfl hl
     | succ k=>simp at hz
   .cases h
  .cases h
theorem Uw{id:Nat}{e:TypeId}{τ:Ty}{xs:List τ.den}(ho:OR c G lk w id (.row e τ xs)){b n cap:Nat}(fB:G.η id = .slice (some ⟨b,0,none⟩) n cap){i:Nat}(hi:i<xs.length) :
  ∃ cs,cs.length=τ.size/\dk w b (i * τ.size) cs/\Rd w G.S (τ.aT (xs.getD i τ.zero)) cs:=by
 obtain⟨l,h1,h2,h3⟩:=ho
 have cj:∀ d∈xs.map τ.aT,d.size=τ.size:=by
  intro d hd
  obtain⟨y,_,rfl⟩:=a1D.1 hd
  exact Ty.cK τ y
 have T3:=fJ.length _ h2 cj
 have hat:=fJ.at_ _ h2 cj i (τ.aT (xs.getD i τ.zero)) (by simp[List.getD,hi])
 have hlen:=Rd.length _ hat
 rw[Ty.cK] at hlen
 refine⟨_,hlen,?_,hat⟩
 have hc:dk w b 0 l:=λ j v hj=>by
  have:=h1.cells (g:=b) (by rw[fB];rfl) j v hj
  rwa [a3v] at this
 have:=hc.part (i * τ.size) τ.size
 rwa [a3j] at this
theorem rm(mX:∀ id o,lk id=some o->OR c G lk w id o){lk':Nat->Option au}(cu:∀ id o,lk' id=some o->lk id=some o){τ:Ty}{v u:AV}{x:Value}(h:sG lk' τ v=some u)(hv:VR c G lk w v x) :
  ∃ b o cs,x = .pointer (some ⟨b,o,none⟩)/\dk w b o cs/\cs.length=τ.size/\VR c G lk w u (Dy τ cs):=by
 cases v with
 | gK z =>
  simp only[sG] at h
  split at h
  .rename_i hb
   simp only[a1w] at h
   subst h
   have e:=a2d hb
   subst e
   obtain⟨b,o,cs,h1,h2,h3,h4⟩:=hv
   refine⟨b,o,cs,h1,h3,?_,fM.ZA h4⟩
   rw[Rd.length _ h4]
   exact Ty.cK _ _
  .cases h
 | ptr id off =>
  simp only[sG] at h
  split at h
  .rename_i cs hl
   obtain⟨b,h1,h2,h3⟩:=hv
   obtain⟨b',l,t,k1,k2,k3⟩:=mX _ _ (cu _ _ hl)
   rw[h1] at k1
   simp only[a4p,a1w,a3y,a1H] at k1
   subst k1
   obtain⟨m1,m2,m3⟩:=BF k3 h
   refine⟨b,off,_,h2,?_,m2,m1⟩
   have:=(dk.of_heap k2).part off τ.size
   rwa [a3j] at this
  .cases h
 | fh id i off =>
  simp only[sG] at h
  split at h
  .rename_i e aV xs hl
   split at h
   .rename_i z hz
    simp only[a1w] at h
    subst h
    obtain⟨b,n,cap,e1,Nr,Nq,h1,h2,h3,h4⟩:=hv
    have oo:=cu _ _ hl
    rw[oo] at h2
    simp only[a1w,au.row.injEq] at h2
    obtain⟨rfl,rfl,h2⟩:=h2
    have h2:=a5c h2
    subst h2
    obtain⟨cs,m1,m2,m3⟩:=Uw (mX _ _ oo) h1 h3
    obtain⟨p1,p2,p3⟩:=SN (v:=⟨aV,xs.getD i aV.zero⟩) hz m3
    subst p1
    exact⟨b,_,_,h4,m2.part off _,p2,fM.ZA p3⟩
   .cases h
  .cases h
 | _=>cases h
end
end Go.Proofs.YtaaamahdcpcofaaDoor

namespace Go.Proofs.YtaaamahdcpcofaaDoor
theorem fC{k:IntKind}{n:Int}(h:dD k n):k.min<=n/\n<=k.max:=by
 cases k<;>first
  | exact h
  | (simp only[dD,ah] at h;simp only[IntKind.min,IntKind.max,IntKind.signed,IntKind.bits,a3z];exact⟨by omega,by omega⟩)
theorem tv{k:IntKind}{n:Int}(h:k.min<=n/\n<=k.max):k.wrap n=n:=by
 cases k<;>simp[IntKind.min,IntKind.max,IntKind.signed,IntKind.bits] at h<;>simp[IntKind.wrap,IntKind.signed,IntKind.bits]<;>(try split)<;>omega
theorem M7(n:Int):IntKind.u64.min<=IntKind.u64.wrap n/\IntKind.u64.wrap n<=IntKind.u64.max:=by
 simp[IntKind.min,IntKind.max,IntKind.signed,IntKind.bits,IntKind.wrap];omega
theorem Sz{k:IntKind}{a:Int}(h0:0<=a)(h:k.min<=a/\a<=k.max):a.toNat<2 ^ k.bits:=by
 cases k<;>simp[IntKind.min,IntKind.max,IntKind.signed,IntKind.bits] at h ⊢<;>omega
theorem TD{k:IntKind}{a b:Int}(ha0:0<=a)(Ii:0<=b)(ha:k.min<=a/\a<=k.max)(hb:k.min<=b/\b<=k.max) :
  k.wrap ((BitVec.ofInt k.bits a &&& BitVec.ofInt k.bits b).toNat:Int)=((a.toNat &&& b.toNat:Nat):Int)/\k.min<=((a.toNat &&& b.toNat:Nat):Int)/\((a.toNat &&& b.toNat:Nat):Int)<=k.max:=by
 have h1:∀ x:Int,0<=x->k.min<=x/\x<=k.max->(BitVec.ofInt k.bits x).toNat=x.toNat:=λ x h0 hx=>by
  obtain⟨n,rfl⟩:=Int.eq_ofNat_of_zero_le h0
  have:=Sz h0 hx
  simp only[a1E] at this ⊢
  rw[show BitVec.ofInt k.bits (n:Int)=BitVec.ofNat k.bits n from BitVec.ofInt_natCast ..,BitVec.toNat_ofNat]
  exact Nat.mod_eq_of_lt this
 have hle:((a.toNat &&& b.toNat:Nat):Int)<=a:=by
  have := @Nat.and_le_left a.toNat b.toNat
  omega
 have hr:k.min<=((a.toNat &&& b.toNat:Nat):Int)/\((a.toNat &&& b.toNat:Nat):Int)<=k.max:=by
  refine⟨?_,by omega⟩
  have:k.min<=0:=by cases k<;>decide
  omega
 rw[BitVec.toNat_and,h1 a ha0 ha,h1 b Ii hb]
 exact⟨tv hr,hr⟩
theorem KY{op:BinOp}{k yk:IntKind}{a b r:Int}{p:Vc}(h:arith op k a b=some (p,r))(hp:p.ok)(hk:op = .shl\/op = .shr\/yk=k)(P:Program)(t:TypeId)(w:World) :
  (binOp op t (.int k a) (.int yk b)).run P w = .ok (.int k r) w/\k.min<=r/\r<=k.max:=by
 cases op<;>simp only[arith] at h<;>try cases h
 case add =>
  have hk:yk=k:=by simpa using hk
  subst hk
  split at h<;>simp only[a1w,a1y] at h<;>obtain⟨rfl,rfl⟩:=h
  .exact⟨by simp[binOp_add,Op.intArith],M7 _⟩
  .have:=fC hp
   exact⟨by simp[binOp_add,Op.intArith,tv this],this⟩
 case sub =>
  have hk:yk=k:=by simpa using hk
  subst hk
  have:=fC hp
  exact⟨by simp[binOp_sub,Op.intArith,tv this],this⟩
 case mul =>
  have hk:yk=k:=by simpa using hk
  subst hk
  split at h<;>simp only[a1w,a1y] at h<;>obtain⟨rfl,rfl⟩:=h
  .exact⟨by simp[binOp_mul,Op.intArith],M7 _⟩
  .have:=fC hp
   exact⟨by simp[binOp_mul,Op.intArith,tv this],this⟩
 case quo =>
  have hk:yk=k:=by simpa using hk
  subst hk
  have:=fC hp.2
  exact⟨by simp[binOp_quo,Op.intDiv,hp.1,tv this],this⟩
 case rem =>
  have hk:yk=k:=by simpa using hk
  subst hk
  have:=fC hp.2
  exact⟨by simp[binOp_rem,Op.intDiv,hp.1],this⟩
 case and =>
  have hk:yk=k:=by simpa using hk
  subst hk
  obtain⟨h1,h2⟩:=TD hp.1 hp.2.1 (fC hp.2.2.1) (fC hp.2.2.2)
  exact⟨by simp only[binOp_and,Op.intBits,a2i,h1],h2⟩
 case shl =>
  have QN:b<(k.bits:Int):=hp.2.1
  have:=fC hp.2.2
  have hb:min b.toNat k.bits=b.toNat:=by omega
  exact⟨by simp[binOp_shl,Op.shift,Int.not_lt.2 hp.1,hb,tv this],this⟩
 case shr =>
  have QN:b<(k.bits:Int):=hp.2.1
  have:=fC hp.2.2
  have hb:min b.toNat k.bits=b.toNat:=by omega
  exact⟨by simp[binOp_shr,Op.shift,Int.not_lt.2 hp.1,hb],this⟩
theorem P1(k:IntKind)(n:Int):k.min<=k.wrap n/\k.wrap n<=k.max:=by
 cases k<;>simp[IntKind.min,IntKind.max,IntKind.signed,IntKind.bits,IntKind.wrap]<;>omega
theorem Qb{wr:Bool}{op:BinOp}{k yk:IntKind}{a b r:Int}{p:Vc}(h:ON wr op k a b=some (p,r))(hp:p.ok)(hk:op = .shl\/op = .shr\/yk=k)(P:Program)(t:TypeId)(w:World) :
  (binOp op t (.int k a) (.int yk b)).run P w = .ok (.int k r) w/\k.min<=r/\r<=k.max:=by
 unfold ON at h
 split at h
 .split at h
  .have hk:yk=k:=by simpa using hk
   subst hk
   simp only[a1w,a1y] at h
   obtain⟨rfl,rfl⟩:=h
   exact⟨by simp[binOp_add,Op.intArith],P1 _ _⟩
  .have hk:yk=k:=by simpa using hk
   subst hk
   simp only[a1w,a1y] at h
   obtain⟨rfl,rfl⟩:=h
   exact⟨by simp[binOp_sub,Op.intArith],P1 _ _⟩
  .have hk:yk=k:=by simpa using hk
   subst hk
   simp only[a1w,a1y] at h
   obtain⟨rfl,rfl⟩:=h
   exact⟨by simp[binOp_mul,Op.intArith],P1 _ _⟩
  .exact KY h hp hk P t w
 .exact KY h hp hk P t w
theorem Vi{op:BinOp}{k:IntKind}{a b:Int}{r:Bool}(h:cmp op a b=some r)(P:Program)(t:TypeId)(w:World) :
  (binOp op t (.int k a) (.int k b)).run P w = .ok (.bool r) w:=by
 cases op<;>simp only[cmp,a1w] at h<;>try cases h
 .simp only[binOp_eql,a2i]
  congr 2
 .simp only[binOp_neq,a2i]
  congr 2
 .simp[binOp_lss]
 .simp[binOp_leq]
 .simp[binOp_gtr]
 .simp[binOp_geq]
section
variable {c:Ctx} {G:Gh} {lk:Nat->Option au} {w:World}
theorem NC(a b:ByteArray):(a.toList == b.toList)=decide (a.data.toList=b.data.toList):=by
 rw[a5v,a5v]
 rw[a4r]
 simp
theorem RN(hE:bD c.P c.E){op:BinOp}{T:TypeId}{u v r:AV}{x y:Value}{p:Vc}{wr:Bool}(ox oy:Operand)
  (h:RM (match ae c.E.ty T with
   | some (.bool,_)=>true
   | _=>false) wr op u v=some (p,r)) (hp:p.ok) (hu:VR c G lk w u x) (hv:VR c G lk w v y) :
  ∃ z,(do eqGuard op T ox oy x y;binOp op T x y:Sem Value).run c.P w = .ok z w/\VR c G lk w r z:=by
 unfold RM at h
 split at h
 .rename_i k a k' b
  obtain⟨h1,h2⟩:=hu
  obtain⟨h3,h4⟩:=hv
  simp only[a1C,a1H] at h1 h3
  subst h1 h3
  simp only[eqGuard_at_int,a2h,a2i,a1U]
  split at h
  .rename_i p' r' har
   have key:(op = .shl\/op = .shr\/k'=k)->p'.ok->∃ z,(binOp op T (.int k a) (.int k' b)).run c.P w = .ok z w/\VR c G lk w (.az ⟨.int k,r'⟩) z:=λ hk LQ=>by
    obtain⟨h5,h6⟩:=Qb har LQ hk c.P T w
    exact⟨_,h5,rfl,h6⟩
   split at h
   .simp only[a1w,a1y] at h
    obtain⟨rfl,rfl⟩:=h
    exact key (.inl rfl) hp
   .simp only[a1w,a1y] at h
    obtain⟨rfl,rfl⟩:=h
    exact key (.inr (.inl rfl)) hp
   .split at h
    .rename_i hk
     simp only[a1w,a1y] at h
     obtain⟨rfl,rfl⟩:=h
     exact key (.inr (.inr (a2d hk).symm)) hp
    .cases h
  .split at h
   .rename_i hk
    have hk:=a2d hk
    subst hk
    split at h
    .rename_i cc hc
     simp only[a1w,a1y] at h
     obtain⟨rfl,rfl⟩:=h
     exact⟨_,Vi hc c.P T w,rfl⟩
    .cases h
   .cases h
 .rename_i a b
  have hu:[x]=[.bool a]:=hu
  have hv:[y]=[.bool b]:=hv
  simp only[a1C,a1H] at hu hv
  subst hu hv
  split at h
  .rename_i hT
   split at hT
   .rename_i r' hl
    have hb:=hE.bool hl
    split at h
    .simp only[a1w,a1y] at h
     obtain⟨rfl,rfl⟩:=h
     exact⟨.bool (a == b),by simp[binOp,run_equal_bool w T a b hb,eqGuard_at_bool],rfl⟩
    .simp only[a1w,a1y] at h
     obtain⟨rfl,rfl⟩:=h
     exact⟨.bool !(a == b),by simp[binOp,run_equal_bool w T a b hb,eqGuard_at_bool],rfl⟩
    .cases h
   .cases hT
  .cases h
 .rename_i a b
  obtain⟨s,h1,h2,h3⟩:=hu
  obtain⟨s',h4,h5,h6⟩:=hv
  simp only[a1C,a1H] at h1 h4
  subst h1 h4
  subst h2 h5
  split at h
  .simp only[a1w,a1y] at h
   obtain⟨rfl,rfl⟩:=h
   exact⟨.bool (s.toList == s'.toList),by simp[binOp,Op.stringOp,a4R],by rw[NC];rfl⟩
  .simp only[a1w,a1y] at h
   obtain⟨rfl,rfl⟩:=h
   exact⟨.bool (!(s.toList == s'.toList)),by simp[binOp,Op.stringOp,a4R],by rw[NC];rfl⟩
  .simp only[a1w,a1y] at h
   obtain⟨rfl,rfl⟩:=h
   have cj:s.size+s'.size<=140737488355328:=by
    have:=hp
    simp only[a2y] at this
    exact this
   have Zp:(s++s').size=s.size+s'.size:=ByteArray.size_append
   refine⟨.string (s++s'),?_,s++s',rfl,by simp,by rw[Zp];exact cj⟩
   have:¬ (((s.size+s'.size:Nat):Int)>IntKind.i64.max):=by rw[IntKind.max_i64];omega
   simp only[a4R,a2h,a2i,a1U,binOp,Op.stringOp,a1B this]
  .cases h
 .cases h
theorem mg(hE:bD c.P c.E){T:TypeId}{n:aM}{b e:Nat}(h:ae c.E.ty T=some (.st n,b,e)){bk o:Nat}{i:Nat}(hi:i<n.jd.length)(w:World) :
  (Instr.fieldAt T (.pointer (some ⟨bk,o,none⟩)) i).run c.P w = .ok (.pointer (some ⟨bk,o+n.gF i,none⟩)) w:=by
 obtain⟨fs,h1,h2,h3⟩:=hE.st h
 have hf:fs[i]?=some fs[i]:=a2x (by omega)
 obtain⟨t,b',e',h4,h5,h6⟩:=h3 i _ hf
 have cj:=hE.sizeOf h5 w
 have h0:t.size≠0:=Nat.pos_iff_ne_zero.1 t.size_pos
 simp[Instr.fieldAt,a2w h1,hf,Instr.sureAddr,fieldPlace,cj,h0,a3v,h6]
theorem MI(hE:bD c.P c.E){T:TypeId}{n:aM}{b e:Nat}(h:ae c.E.ty T=some (.st n,b,e)){l:List Value}{i:Nat}{t:Ty}(hi:n.jd[i]?=some t)
  (hl:n.gF i+t.size<=l.length) (w:World) :
  (Instr.field T (.agg l.toArray) i).run c.P w = .ok (Dy t ((l.drop (n.gF i)).take t.size)) w:=by
 obtain⟨fs,h1,h2,h3⟩:=hE.st h
 have bC:i<fs.size:=by have:=(a2a.1 hi).1;omega
 have hf:fs[i]?=some fs[i]:=a2x bC
 obtain⟨t',b',e',h4,h5,h6⟩:=h3 i _ hf
 rw[hi] at h4
 simp only[a1w] at h4
 subst h4
 have cj:=hE.sizeOf h5 w
 have hag:=hE.isAgg h5 w
 simp only[Instr.field,a2h,a2w h1,a1U,hf,asAgg,part,hag,a2i]
 cases kZ:t.agg with
 | true =>
  simp only[a3z,a2h,cj,a1U,a2i,h6]
  cases t<;>first|(cases kZ;done)|skip
  simp only[Dy,Result.ok.injEq,a5d,a1H]
  apply a5m
  simp[List.take_drop]
 | false =>
  have h1:=Ty.lD kZ
  simp only[a1G,a4J,h6]
  have hx:l.toArray[n.gF i]?=some (l[n.gF i]'(by omega)):=by rw[List.getElem?_toArray];exact a2m (by omega)
  rw[hx]
  simp only[a2i,h1]
  have he:(l.drop (n.gF i)).take 1=[l[n.gF i]'(by omega)]:=by
   rw[a3h (by omega),a3t,a3R]
  rw[he]
  cases t<;>first|rfl|cases kZ
end
end Go.Proofs.YtaaamahdcpcofaaDoor

namespace Go.Proofs.YtaaamahdcpcofaaDoor
section
variable {c:Ctx} {G:Gh} {lk:Nat->Option au} {w:World}
theorem S4(k:IntKind):k.min<=0/\0<=k.max:=by cases k<;>decide
theorem CB{τ:Ty}{v:Value}(h:vA τ v=true):C1 c G lk w (zeroCell τ) v:=by
 unfold vA at h
 split at h
 .simp only[a1z] at h
  have h1:=a2d h.1
  have h2:=a2d h.2
  subst h1 h2
  exact⟨rfl,rfl,S4 _⟩
 .rename_i b
  cases b
  .exact⟨rfl,rfl⟩
  .cases h
 .rename_i s
  exact⟨rfl,s,rfl,List.isEmpty_iff.1 h,by simp[List.isEmpty_iff] at h;simp[ByteArray.size,h]⟩
 .rfl
 .exact⟨rfl,_,rfl⟩
 .cases h
theorem mC{τ:Ty}{z:Value}(h:wX τ z=true):aJ (C1 c G lk w) (zeroCells τ) z.cells.toList:=by
 have key:∀ (ts:List Ty) (vs:List Value),HL ts vs=true->aJ (C1 c G lk w) (ts.map zeroCell) vs:=by
  intro ts
  induction ts with
  | nil=>intro vs h;cases vs<;>first|trivial|cases h
  | cons t ts ih =>
   intro vs h
   cases vs with
   | nil=>cases h
   | cons v vs =>
    simp only[HL,a1z] at h
    exact⟨CB h.1,ih vs h.2⟩
 have one:∀ v,vA τ v=true->v.cells = #[v]:=by
  intro v hv
  unfold vA at hv
  split at hv<;>first|rfl|cases hv
 unfold wX at h
 split at h
 .rename_i s cs
  exact key _ _ h
 .cases h
 .rename_i aV v h1 h2
  rw[one _ h]
  have:zeroCells τ=[zeroCell τ]:=by
   cases τ<;>first|rfl|(rename_i s;cases v<;>first|exact absurd rfl (h2 s rfl)|cases h)
  rw[this]
  exact⟨CB h,trivial⟩
theorem HM{S:Nat->Prop}{τ:Ty}{z:Value}(h:wX τ z=true):Rd w S (τ.aT τ.zero) z.cells.toList:=by
 have h1:=mC (c:=⟨{ funcs := #[],goVersion := "",platform := "",initOrder := "",godebug := "",types := #[],rt:=default,cutTypes := #[],globals := #[],inits := #[],main:=0 },{ ty:=[],SP:=[],H6:=λ _ _=>none },w,λ _=>True,S,λ _=>none,λ _=>False,λ _=>none⟩) (G:=⟨S,λ _=>undef,λ _=>[]⟩) (lk:=λ _=>none) (w:=w) h
 have cell:∀ t x,C1 ⟨{ funcs := #[],goVersion := "",platform := "",initOrder := "",godebug := "",types := #[],rt:=default,cutTypes := #[],globals := #[],inits := #[],main:=0 },{ ty:=[],SP:=[],H6:=λ _ _=>none },w,λ _=>True,S,λ _=>none,λ _=>False,λ _=>none⟩ ⟨S,λ _=>undef,λ _=>[]⟩ (λ _=>none) w (zeroCell t) x->Rd w S (t.aT t.zero) [x]:=by
  intro t x hx
  cases t with
  | slice t'=>exact Kx (τ := .slice t') (v := .nil) rfl hx
  | _=>exact hx.2
 cases τ with
 | st s =>
  simp only[zeroCells] at h1
  show Rd w S (s.aT s.zero) _
  rw[aM.cq]
  have hz:(s.cells s.zero).map TV.aT=s.uF.map λ t=>t.aT t.zero:=by cases s<;>rfl
  rw[hz]
  have h2:=aJ.of_map _ h1
  have:∀ (ts:List Ty) (vs:List Value),aJ (λ t x=>Rd w S (t.aT t.zero) [x]) ts vs->dB w S (ts.map λ t=>t.aT t.zero) vs:=by
   intro ts
   induction ts with
   | nil=>intro vs h;cases vs<;>first|rfl|cases h
   | cons t ts ih =>
    intro vs h
    cases vs with
    | nil=>cases h
    | cons v vs=>exact⟨v,vs,rfl,h.1,ih vs h.2⟩
  exact this _ _ (h2.imp λ t x _ hx=>cell t x hx)
 | _ =>
  simp only[zeroCells] at h1
  match hc:z.cells.toList,h1 with
  | [x],h1=>exact cell _ _ h1.1
theorem Lu(off:Nat):∀ (xs:List Value) (k:Nat) (l:List Value),off+k+xs.length<=l.length ->
  (xs.zipIdx k).foldl (λ cs p=>cs.setIfInBounds (off+p.2) p.1) l.toArray=(l.take (off+k)++xs++l.drop (off+k+xs.length)).toArray
 | [],k,l,_=>by simp
 | x::xs,k,l,h=>by
  simp only[a1M] at h
  simp only[List.zipIdx_cons,a4s]
  have:=Lu off xs (k+1) (l.set (off+k) x) (by simp;omega)
  rw[List.setIfInBounds_toArray,this]
  congr 1
  have e:=list_seg_step l (off+k) x xs (by omega)
  simpa [Nat.add_assoc] using e
theorem H9(place:Nat->Option (Nat×Nat))(i off size:Nat)(v:Value)(rest:List (Nat×Value))(l:List Value)(hp:place i=some (off,size))(hs:v.cells.size=size)(hl:off+size<=l.length) :
  Instr.fill place l.toArray ((i,v)::rest)=Instr.fill place (l.take off++v.cells.toList++l.drop (off+size)).toArray rest:=by
 have hn:(decide (v.cells.size≠size)||decide (off+v.cells.size>l.toArray.size))=false:=by
  simp[hs];omega
 simp only[Instr.fill,hp,hn,a1G,a4J]
 congr 1
 rw[<-Array.foldl_toList,Array.toList_zipIdx]
 have:=Lu off v.cells.toList 0 l (by simp[hs];omega)
 simp only[a3w,a2y,hs] at this
 exact this
theorem Ee{E:Env}{s:aM}{place:Nat->Option (Nat×Nat)}(hp:∀ i t,s.jd[i]?=some t->place i=some (s.gF i,t.size)) :
  ∀ {ps:List (Nat×AV)} {vs:List (Nat×Value)} {cs dV:List AV} {l:List Value},partsOf E s cs ps=some dV->aJ (λ p q=>p.1=q.1/\VR c G lk w p.2 q.2) ps vs->aJ (C1 c G lk w) cs l ->
   ∃ l',Instr.fill place l.toArray vs=some l'.toArray/\aJ (C1 c G lk w) dV l'
 | [],[],cs,dV,l,h,_,hl=>by
  simp only[partsOf,a1w] at h
  subst h
  exact⟨l,rfl,hl⟩
 | (i,v)::ps,(j,x)::vs,cs,dV,l,h,hv,hl=>by
  obtain⟨⟨yo,hx⟩,LW⟩:=hv
  have yo:i=j:=yo
  subst yo
  simp only[partsOf] at h
  split at h
  .rename_i τ kZ
   split at h
   .rename_i new rM
    split at h
    .rename_i cs1 uW
     obtain⟨h1,_,h3⟩:=wZ rM hx
     have hlen:=h1.length
     have T3:=hl.length
     unfold putCells at uW
     split at uW
     .rename_i hb
      have hb:=a2n hb
      simp only[a1w] at uW
      subst uW
      have cj:x.cells.size=τ.size:=by rw[<-h3,hlen];simp
      have BM:s.gF i+τ.size<=l.length:=by omega
      rw[H9 place i _ _ x vs l (hp i τ kZ) cj BM]
      refine Ee hp h LW ?_
      rw[a2t,<-h3]
      exact (hl.take _).append (h1.append (hl.drop _))
     .cases uW
    .cases h
   .cases h
  .cases h
 | [],_::_,_,_,_,_,hv,_=>hv.elim
 | _::_,[],_,_,_,_,hv,_=>hv.elim
theorem DT{τ:Ty}{place:Nat->Option (Nat×Nat)}(hp:∀ i,place i=some (i * τ.size,τ.size)) :
  ∀ {ps:List (Nat×AV)} {vs:List (Nat×Value)} {n:Nat} {xs:List τ.den} {l:List Value},sT τ n ps=some xs->aJ (λ p q=>p.1=q.1/\VR c G lk w p.2 q.2) ps vs ->
   (n+ps.length) * τ.size=l.length->∃ r,Instr.fill place l.toArray vs=some (l.take (n * τ.size)++r).toArray/\fJ w G.S (xs.map τ.aT) r
 | [],[],n,xs,l,h,_,hl=>by
  simp only[sT,a1w] at h
  subst h
  refine⟨[],?_,rfl⟩
  simp only[a2b,a3w] at hl
  rw[hl,a4W,a2O]
  rfl
 | (i,v)::ps,(j,x)::vs,n,xs,l,h,hv,hl=>by
  obtain⟨⟨yo,hx⟩,LW⟩:=hv
  have yo:i=j:=yo
  subst yo
  simp only[sT] at h
  split at h
  .rename_i gQ
   have gQ:=a1x gQ
   subst gQ
   split at h
   .rename_i y hy
    split at h
    .rename_i ys L1
     simp only[a1w] at h
     subst h
     have hr:=(FT hy hx).cells
     have cj:x.cells.size=τ.size:=by
      have:=Rd.length _ hr
      rw[show TV.aT ⟨τ,y⟩=τ.aT y from rfl,Ty.cK] at this
      simpa using this
     simp only[a1M] at hl
     have GO:=τ.size_pos
     have e1:(i+(ps.length+1)) * τ.size=i * τ.size+τ.size+ps.length * τ.size:=by
      rw[a2C,a2C];omega
     rw[H9 place i _ _ x vs l (hp i) cj (by omega)]
     obtain⟨r,h1,h2⟩:=DT hp (l:=l.take (i * τ.size)++x.cells.toList++l.drop (i * τ.size+τ.size)) L1 LW (by
      simp[cj]
      rw[show (i+1+ps.length) * τ.size=i * τ.size+τ.size+ps.length * τ.size by rw[a2C,a2C];omega]
      omega)
     refine⟨x.cells.toList++r,?_,_,_,rfl,hr,h2⟩
     rw[h1]
     congr 2
     rw[show (i+1) * τ.size=i * τ.size+τ.size by rw[a2C];omega]
     have ht:(l.take (i * τ.size)++x.cells.toList).length=i * τ.size+τ.size:=by simp[cj];omega
     rw[<-ht,a3F,a2t]
    .cases h
   .cases h
  .cases h
 | [],_::_,_,_,_,_,hv,_=>hv.elim
 | _::_,[],_,_,_,_,hv,_=>hv.elim
theorem At{τ:Ty}:∀ {ps:List (Nat×AV)} {n:Nat} {xs:List τ.den},sT τ n ps=some xs->xs.length=ps.length
 | [],n,xs,h=>by
  simp only[sT,a1w] at h
  subst h;rfl
 | (i,v)::ps,n,xs,h=>by
  simp only[sT] at h
  split at h
  .split at h
   .split at h
    .rename_i ys L1
     simp only[a1w] at h
     subst h
     simp[At L1]
    .cases h
   .cases h
  .cases h
theorem AJ(z:Array Value)(k:Nat):(madeCells z ((k+1) * z.size)).toList=(madeCells z (k * z.size)).toList++z.toList:=by
 apply a4z
 intro j
 have e:(k+1) * z.size=k * z.size+z.size:=by rw[a2C];omega
 by_cases h1:j<k * z.size
 .rw[a2M (by simp[madeCells];exact h1)]
  have h2:j<(k+1) * z.size:=by omega
  simp[madeCells,h1,h2]
 .by_cases h2:j<(k+1) * z.size
  .rw[a3x (by simp[madeCells];omega)]
   have h3:j - k * z.size<z.size:=by omega
   have hm:j % z.size=j - k * z.size:=by
    have h4:(j - k * z.size+z.size * k) % z.size=j - k * z.size:=by rw[Nat.add_mul_mod_self_left,Nat.mod_eq_of_lt h3]
    rwa [Nat.mul_comm z.size k,Nat.sub_add_cancel (Nat.le_of_not_lt h1)] at h4
   simp[madeCells,h2,hm,h3]
  .rw[a3x (by simp[madeCells];omega)]
   have h3:¬ j - k * z.size<z.size:=by omega
   simp[madeCells,h2]
   omega
theorem D8{S:Nat->Prop}{d:D}{z:Array Value}(h:Rd w S d z.toList):∀ k:Nat,fJ w S (List.replicate k d) (madeCells z (k * z.size)).toList
 | 0=>by simp[madeCells,fJ,Array.range_zero']
 | k+1=>by
  rw[AJ,a4h]
  exact fJ.append _ _ (D8 h k) ⟨z.toList,[],by simp,h,rfl⟩
theorem AK(z:Array Value)(n m:Nat)(h:n<=m):(madeCells z m).toList.take n=(madeCells z n).toList:=by
 apply a4z
 intro j
 rw[a2Z]
 by_cases hj:j<n
 .have:j<m:=by omega
  simp[madeCells,hj,this]
 .simp[madeCells,hj]
end
end Go.Proofs.YtaaamahdcpcofaaDoor

namespace Go.Proofs.YtaaamahdcpcofaaDoor
def LV(d:Option Nat)(v:AV):au->Prop
 | .box _=>∃ i,d=some i/\v = .ptr i 0
 | .row .. => ∃ i,d=some i/\v = .row i
 | .aq .. => False
 | .map .. => ∃ i,d=some i/\v = .mp i
def S5(c:Ctx)(G:Gh)(lk:Nat->Option au)(w:World)(x:Value):au->Prop
 | .box cs=>∃ b l t,x = .pointer (some ⟨b,0,none⟩)/\w.heap[b]?=some (.cells l.toArray t (0,0))/\aJ (C1 c G lk w) cs l
 | .row e τ xs=>∃ l,w.ownsRow 0 e τ.size x xs.length l/\fJ w G.S (xs.map τ.aT) l/\xs.length<=140737488355328
 | .aq .. => False
 | .map m=>∃ b es clock,x = .map (some b)/\w.heap[b]?=some (.map es clock)/\FD m es
def vQ(c:Ctx)(G:Gh)(sl:Nat->AV)(n:Nat)(lk:Nat->Option au)(d:Option Nat)(a:Act)(w:World)(v:AV)(ob:Option au)(a':Act)(w':World):Prop :=
 ∃ x S',a'=a.put d x/\bc c ⟨S',G.η,G.φ⟩ sl n lk a w' /\
  match ob with
  | none=>VR c ⟨S',G.η,G.φ⟩ lk w' v x
  | some o=>LV d v o/\S5 c ⟨S',G.η,G.φ⟩ lk w' x o/\∀ b,fe x=some b->w.heap.size<=b/\b<w'.heap.size/\¬ S' b
section
variable {c:Ctx} {G:Gh} {sl:Nat->AV} {n:Nat} {lk:Nat->Option au} {a:Act} {w w':World}
theorem bc.grow(h:bc c G sl n lk a w)(hk:cP (λ _=>False) w w'){S':Nat->Prop}(hS:∀ b,b<w.heap.size->(S' b↔G.S b))(YL:∀ b,S' b->b<w'.heap.size):bc c ⟨S',G.η,G.φ⟩ sl n lk a w':=by
 refine h.world ⟨hk.os,hk.tape,hk.output,hk.size,λ b hb _=>hk.block b hb (λ h=>h)⟩ (λ b hb=>(hS b (h.ed b hb)).2 hb) hS (λ b hb=>?_) YL (λ b hb=>?_) (λ id o b ho hb=>?_) (λ id τ xs b ht hb=>hk.block b (h.aI.pl id τ xs b ht hb).2.2.1 (λ h=>h))
 .have h1:=h.sX b hb
  exact (hS b (h.ed b h1)).2 h1
 .refine hk.block b ?_ (λ h=>h)
  rcases hb with hb|hb
  .exact h.ed b hb
  .exact a2c hb.1 h.aQ.size
 .exact hk.block b (h.place id o b ho hb).2.2 (λ h=>h)
theorem iC(w:World)(o:Obj):cP (λ _=>False) w (w.alloc o):=⟨rfl,rfl,rfl,by simp,λ b hb _=>RowKit.Below.heap_alloc w o b hb⟩
theorem bc.alloc(h:bc c G sl n lk a w)(o:Obj):bc c G sl n lk a (w.alloc o) :=
 h.grow (S':=G.S) (iC w o) (λ _ _=>a3G) (λ b hb=>by have:=h.ed b hb;simp;omega)
theorem bc.PQ(h:bc c G sl n lk a w)(hk:cP (λ _=>False) w w')(b:Nat)(hb:St c G.S b):w'.heap[b]?=w.heap[b]?:=by
 refine hk.block b ?_ (λ h=>h)
 rcases hb with hb|hb
 .exact h.ed b hb
 .exact a2c hb.1 h.aQ.size
theorem bc.YD(h:bc c G sl n lk a w)(hk:cP (λ _=>False) w w'){v:AV}{x:Value}(hv:C1 c G lk w v x):C1 c G lk w' v x :=
 hv.mono (λ _ _=>⟨ft.refl _,rfl⟩) (λ _ h=>h) (h.PQ hk)
theorem cJ{o:Oper}{v:AV}{x:Value}{Q:Exit->Act->World->Prop}(hI:bc c G sl n lk a w)(hr:(execOp a.eval o).run c.P w = .ok (.value x) w)(hv:VR c G lk w v x) :
  o.wp c.P a w (vQ c G sl n lk o.dst a w v none) Q:=by
 unfold Oper.wp
 rw[hr]
 exact⟨x,G.S,rfl,hI,hv⟩
theorem yf{o:Oper}{v:AV}{ob:au}{x:Value}{Q:Exit->Act->World->Prop}(Vs:bc c G sl n lk a w)(hr:(execOp a.eval o).run c.P w = .ok (.value x) w')(hI:bc c G sl n lk a w')
  (hL:LV o.dst v ob) (hN:S5 c G lk w' x ob) (hb:∀ b,fe x=some b->w.heap.size<=b/\b<w'.heap.size) :
  o.wp c.P a w (vQ c G sl n lk o.dst a w v (some ob)) Q:=by
 unfold Oper.wp
 rw[hr]
 exact⟨x,G.S,rfl,hI,hL,hN,λ b h=>⟨(hb b h).1,(hb b h).2,λ hs=>by have:=Vs.ed b hs;have:=(hb b h).1;omega⟩⟩
theorem Oh{e:TypeId}{τ:Ty}{xs:List τ.den}{x:Value}{l:List Value}{S S':Nat->Prop}(h1:w.ownsRow 0 e τ.size x xs.length l)(h2:fJ w S (xs.map τ.aT) l)(h3:xs.length<=140737488355328)(hS:∀ b,S b->S' b)(hb:∀ b,fe x=some b->S' b) :
  Rd w S' (Ty.aT (.slice τ) xs) [x]:=by
 rcases h1.2 with ⟨hv,hn⟩|⟨g,cap,cur,hv,_,hh,JZ,R8,lU,V0⟩
 .have hx:xs=[]:=a2D hn
  subst hx
  exact⟨none,0,by simp[hv],by simp,by simp[maxLen],by simp, .inl rfl⟩
 .refine⟨some ⟨g,0,none⟩,cap,by simp[hv],by simpa using JZ,R8,by simpa using h3,?_⟩
  refine .inr ⟨g,0,rfl,hb g (by rw[hv];rfl),?_⟩
  refine fJ.row _ g 0 (h2.aQ hS (λ _ _=>rfl)) λ j v hj=>?_
  have:=h1.cells (g:=g) (by rw[hv];rfl) j v hj
  rw[a3v] at this
  exact this
theorem TJ{o:Oper}{τ:Ty}{xs:List τ.den}{e:TypeId}{x:Value}{l:List Value}{Q:Exit->Act->World->Prop}(hI:bc c G sl n lk a w)(hr:(execOp a.eval o).run c.P w = .ok (.value x) w')(hk:cP (λ _=>False) w w')
  (h1:w'.ownsRow 0 e τ.size x xs.length l) (h2:fJ w' G.S (xs.map τ.aT) l) (h3:xs.length<=140737488355328) (hb:∀ b,fe x=some b->w.heap.size<=b/\b<w'.heap.size) :
  o.wp c.P a w (vQ c G sl n lk o.dst a w (.az ⟨.slice τ,xs⟩) none) Q:=by
 unfold Oper.wp
 rw[hr]
 refine⟨x,λ b=>G.S b\/fe x=some b,rfl,hI.grow hk (λ b cm=>⟨λ q=>q.elim id λ q=>absurd (hb b q).1 (by omega), .inl⟩) λ b q=>q.elim (λ q=>a2c (hI.ed b q) hk.size) λ q=>(hb b q).2,?_⟩
 exact Oh h1 h2 h3 (λ _ q => .inl q) (λ _ q => .inr q)
theorem Jp{v:TV}(h:v.flat=true){S S':Nat->Prop}{w w':World}{cs:List Value}(hr:Rd w S v.aT cs):Rd w' S' v.aT cs:=by
 have one:∀ u:TV,u.τ.agg=false->(match u.τ with | .slice _=>false | .mv _=>false|_=>true)=true->∀ cs,Rd w S u.aT cs->Rd w' S' u.aT cs:=by
  intro u h1 h2 cs h3
  obtain⟨τ,y⟩:=u
  cases τ<;>first|exact h3|(cases h1;done)|(simp at h2;done)
 obtain⟨τ,y⟩:=v
 cases τ with
 | st s =>
  rw[show TV.aT ⟨.st s,y⟩=s.aT y from rfl,aM.cq] at hr ⊢
  refine dB.vS.2 ((dB.vS.1 hr).imp λ u x hu hx=>?_)
  refine one u ?_ (a2e.1 h u hu) _ hx
  have:=aM.qo s y u hu
  obtain⟨aV,z⟩:=u
  cases aV with
  | st s'=>simp[TV.aT,Ty.aT,aM.cq,D.leaf] at this
  | _=>rfl
 | slice t=>simp[TV.flat,TV.cells] at h
 | mv t=>simp[TV.flat,TV.cells] at h
 | ptr=>exact hr
 | int k=>exact hr
 | bool=>exact hr
 | str=>exact hr
theorem Ls{v:TV}(h:v.flat=true){S S':Nat->Prop}{w w':World}{x:Value}(hr:fM w S v x):fM w' S' v x:=by
 obtain⟨τ,y⟩:=v
 cases τ with
 | st s =>
  obtain⟨cs,h1,h2⟩:=hr
  exact⟨cs,h1,Jp (v:=⟨.st s,y⟩) h h2⟩
 | _=>exact Jp (v:=⟨_,y⟩) (w:=w) (w':=w') (S:=S) (S':=S') h hr
theorem zM{lk':Nat->Option au}(cu:∀ id o,lk' id=some o->lk id=some o):∀ id o,sH lk' id=some o->lk id=some o:=by
 intro id o h
 unfold sH at h
 split at h
 .rename_i cs hc
  simp only[a1w] at h
  subst h
  exact cu _ _ hc
 .cases h
theorem zN{lk':Nat->Option au}:∀ id e τ xs,sH lk' id≠some (.row e τ xs):=by
 intro id e τ xs h
 unfold sH at h
 split at h<;>simp at h
theorem wM{lk':Nat->Option au}:∀ id τ xs,sH lk' id≠some (.aq τ xs):=by
 intro id τ xs h
 unfold sH at h
 split at h<;>simp at h
theorem Sw{τ:Ty}{cs:List Value}{x:τ.den}{S:Nat->Prop}(h:fM w S ⟨τ,x⟩ (Dy τ cs))(hl:cs.length=τ.size):Rd w S (τ.aT x) cs:=by
 cases τ with
 | st s =>
  obtain⟨dV,h1,h2⟩:=h
  simp only[Dy,a5d] at h1
  have:cs=dV:=by have:=congrArg Array.toList h1;simpa using this
  subst this
  exact h2
 | _ =>
  match cs,hl with
  | [v],_=>exact h
theorem CR.iA{v:AV}{x:Value}(h:CR c G lk w v x):VR c G lk w v x:=by
 cases v with
 | az v=>exact h
 | agg cs=>exact h
 | any=>trivial
 | eV=>exact h
 | kr _=>exact h.elim
 | dw _ _=>exact h.elim
 | nil=>exact h
 | gK v=>exact h
 | ptr i o=>exact h
 | row i=>exact h
 | fh i k o=>exact h
 | fn f=>exact h
 | aq i=>exact h
 | sub i k o z=>exact h
 | fL i k o z=>exact h
 | jO v=>exact h
 | mp i=>exact h
theorem C1.Rt{v:AV}{x:Value}(h:C1 c G lk w v x):CR c G lk w v x:=by
 cases v with
 | az v=>exact C1.iA (v := .az v) h
 | agg cs=>exact h.elim
 | kr cs=>exact h.elim
 | dw f cs=>exact h.elim
 | _=>exact h
theorem CR.inv{v:AV}{x:Value}(h:CR c G lk w v x):(∃ u,v = .az u/\fM w G.S u x)\/(∃ cs l,v = .agg cs/\x = .agg l.toArray/\aJ (C1 c G lk w) cs l)\/C1 c G lk w v x:=by
 cases v with
 | az v=>exact .inl ⟨v,rfl,h⟩
 | agg cs =>
  obtain⟨l,h1,h2⟩:=h
  exact .inr (.inl ⟨cs,l,rfl,h1,h2⟩)
 | _=>exact .inr (.inr h)
theorem VR.Rt{v:AV}{x:Value}(h:VR c G lk w v x)(hc:v.Vh=true):CR c G lk w v x:=by
 cases v with
 | kr _=>cases hc
 | dw _ _=>cases hc
 | eV=>cases hc
 | jO _=>cases hc
 | _=>exact h
theorem By{S:Nat->Prop}{lk':Nat->Option au}(hI:bc c G sl n lk a w)(cu:∀ id o,lk' id=some o->lk id=some o)
  (r6:∀ (τ:Ty) v x (y:τ.den),AQ lk' τ v=some y->VR c G lk w v x->fM w S ⟨τ,y⟩ x) {τ:Ty} {v:AV} {x:Value} {y:τ.den} (hy:deref lk' τ v=some y) (hx:VR c G lk w v x):Ej w S (.ref ⟨τ,y⟩) x:=by
 unfold deref at hy
 split at hy
 .rename_i u hu
  obtain⟨b,o,cs,h1,h2,h3,h4⟩:=rm hI.aC cu hu hx
  have h5:=Sw (r6 _ _ _ _ hy h4) h3
  have GO:=τ.size_pos
  have YT:=h2 0 (cs[0]'(by omega)) (a2m (by omega))
  exact⟨b,o,cs,h1,World.block_lt_of_cell? w _ YT,h2,h5⟩
 .cases hy
theorem zk{S:Nat->Prop}{lk':Nat->Option au}(hI:bc c G sl n lk a w)(cu:∀ id o,lk' id=some o->lk id=some o)
  (r6:∀ (τ:Ty) v x (y:τ.den),AQ lk' τ v=some y->VR c G lk w v x->fM w S ⟨τ,y⟩ x) :
  ∀ {ks:List (Bool×Ty)} {vs:List AV} {Z9:List Arg} {xs:List Value},zj lk' ks vs=some Z9->aJ (CR c G lk w) vs xs->aJ (Ej w S) Z9 xs
 | [],[],Z9,xs,h,hv=>by
  simp only[zj,a1w] at h
  subst h
  match xs,hv with
  | [],_=>trivial
 | (true,τ)::ks,v::vs,Z9,xs,h,hv=>by
  simp only[zj] at h
  split at h
  .rename_i y hy
   split at h
   .rename_i r hr
    simp only[a1w] at h
    subst h
    match xs,hv with
    | x::xs,hv=>exact⟨By hI cu r6 hy hv.1.iA,zk hI cu r6 hr hv.2⟩
   .cases h
  .cases h
 | (false,τ)::ks,v::vs,Z9,xs,h,hv=>by
  simp only[zj] at h
  split at h
  .rename_i y hy
   split at h
   .rename_i r hr
    simp only[a1w] at h
    subst h
    match xs,hv with
    | x::xs,hv=>exact⟨r6 _ _ _ _ hy hv.1.iA,zk hI cu r6 hr hv.2⟩
   .cases h
  .cases h
 | [],_::_,_,_,h,_=>by cases h
 | (true,_)::_,[],_,_,h,_=>by cases h
 | (false,_)::_,[],_,_,h,_=>by cases h
theorem ED(hE:bD c.P c.E){f:FuncId}{iw:List Arg}:∀ (ps:List Ty) (r:Ty) (acc:List Arg),CC c.P f iw ps r (Lc c.E f iw ps r acc) acc
 | [],r,acc=>by
  show (Lc c.E f iw [] r acc).1->_
  intro hp
  generalize hF:Lc c.E f iw [] r acc=F at hp ⊢
  rw[Lc] at hF
  split at hF
  .rename_i pre v hc
   split at hF
   .rename_i y hy
    subst hF
    have:=TV.aX hy
    subst this
    obtain⟨h1,h2⟩:=hE.H6 f _ _ _ hc hp
    exact⟨h1,h2.ok0⟩
   .subst hF
    exact hp.elim
  .subst hF
   exact hp.elim
 | t::ts,r,acc=>λ x=>ED hE ts r (acc++[.val ⟨t,x⟩])
theorem Ja{P:Program}{f:FuncId}{iw:List Arg}:∀ {ps:List Ty} {r:Ty} {F:FN ps r} {acc Z9:List Arg} {p:Prop} {y:r.den},CC P f iw ps r F acc->tx ps r F Z9=some (p,y)->p ->
  (lF P f/\FE P f (acc++Z9++iw) (·=[⟨r,y⟩]))/\∀ z∈Z9,∃ v,z = .val v
 | [],r,F,acc,[],p,y,h,e,hp=>by
  simp only[tx,a1w] at e
  have h':F.1->lF P f/\FE P f (acc++iw) (·=[⟨r,F.2⟩]):=h
  rw[e] at h'
  refine⟨by simpa using h' hp,by simp⟩
 | t::ts,r,F,acc, .val z::zs,p,y,h,e,hp=>by
  simp only[tx] at e
  split at e
  .rename_i x hx
   have h':∀ x,CC P f iw ts r (F x) (acc++[.val ⟨t,x⟩]):=h
   obtain⟨h1,h2⟩:=Ja (h' x) e hp
   have:=TV.aX hx
   subst this
   refine⟨by simpa using h1,λ z hz=>?_⟩
   rcases a1N.1 hz with rfl|hz
   .exact⟨_,rfl⟩
   .exact h2 z hz
  .cases e
 | [],_,_,_,_::_,_,_,_,e,_=>by simp[tx] at e
 | _::_,_,_,_,[],_,_,_,e,_=>by simp[tx] at e
 | _::_,_,_,_, .ref _::_,_,_,_,e,_=>by simp[tx] at e
 | _::_,_,_,_, .fn _::_,_,_,_,e,_=>by simp[tx] at e
 | _::_,_,_,_, .dw _::_,_,_,_,e,_=>by simp[tx] at e
theorem zm(hE:bD c.P c.E){S:Nat->Prop}{lk':Nat->Option au}(hI:bc c G sl n lk a w)(cu:∀ id o,lk' id=some o->lk id=some o)(Vw:∀ b,G.S b->S b)
  (r6:∀ (τ:Ty) v x (y:τ.den),AQ lk' τ v=some y->VR c G lk w v x->fM w S ⟨τ,y⟩ x) {g:AV} {x:Value} {q:FV} (h:F9 c.E lk' g=some q) (hx:VR c G lk w g x):vP c.P w S (.dw q) x:=by
 unfold F9 at h
 split at h
 .rename_i f cs
  split at h
  .rename_i k _
   split at h
   .rename_i Z9 has
    simp only[a1w] at h
    subst h
    obtain⟨l,h1,h2⟩:=hx
    exact⟨f,Z9,l,h1,ED hE _ _ _,zk hI cu r6 has h2⟩
   .cases h
  .cases h
 .simp only[a1w] at h
  subst h
  obtain⟨f,iw,l,h1,h2,h3⟩:=hx
  refine⟨f,iw,l,h1,h2,h3.imp λ u y _ hy=>?_⟩
  cases u with
  | val v=>exact fM.mono (G:=G) (G':=⟨S,G.η,G.φ⟩) hy Vw (λ _ _=>rfl)
  | ref v =>
   obtain⟨b,o,cs,k1,k2,k3,k4⟩:=hy
   refine⟨b,o,cs,k1,?_,k3,Rd.aQ Vw (λ _ _=>rfl) _ k4⟩
   exact k2.elim (hI.ed b) λ k=>a2c k.1 hI.aQ.size
  | fn f=>exact hy
  | dw v=>exact hy.elim
  | own v=>exact hy.elim
  | box k=>exact hy.elim
 .rename_i f
  split at h
  .rename_i k _
   split at h
   .simp only[a1w] at h
    subst h
    exact⟨f,[],[],hx,ED hE _ _ _,trivial⟩
   .cases h
  .cases h
 .cases h
theorem jI(hE:bD c.P c.E){S:Nat->Prop}{lk':Nat->Option au}(hI:bc c G sl n lk a w)(cu:∀ id o,lk' id=some o->lk id=some o)(Vw:∀ b,G.S b->S b)
  (r6:∀ (τ:Ty) v x (y:τ.den),AQ lk' τ v=some y->VR c G lk w v x->fM w S ⟨τ,y⟩ x) :
  ∀ {Ts:List TypeId} {vs:List AV} {Z9:List Arg} {xs:List Value},nX c.E lk' Ts vs=some Z9->aJ (VR c G lk w) vs xs->aJ (vP c.P w S) Z9 xs
 | [],[],Z9,xs,h,hv=>by
  simp only[nX,a1w] at h
  subst h
  match xs,hv with
  | [],_=>trivial
 | T::Ts,v::vs,Z9,xs,h,hv=>by
  simp only[nX] at h
  split at h
  .rename_i p hp
   split at h
   .rename_i r hr
    simp only[a1w] at h
    subst h
    match xs,hv with
    | x::xs,hv =>
     refine⟨?_,jI hE hI cu Vw r6 hr hv.2⟩
     have hx:=hv.1
     unfold KX at hp
     split at hp
     .split at hp
      .rename_i y hy
       simp only[a1w] at hp
       subst hp
       exact r6 _ _ _ _ hy hx
      .cases hp
     .split at hp
      .rename_i τ _
       split at hp
       .rename_i y hy
        simp only[a1w] at hp
        subst hp
        exact By hI cu r6 hy hx
       .cases hp
      .split at hp
       .rename_i q hq
        simp only[a1w] at hp
        subst hp
        exact zm hE hI cu Vw r6 hq hx
       .split at hp
        .simp only[a1w] at hp
         subst hp
         exact hx
        .cases hp
   .cases h
  .cases h
 | [],_::_,_,_,h,_=>by cases h
 | _::_,[],_,_,h,_=>by cases h
theorem wP{S:Nat->Prop}{res:List TV}{x:Value}(h:DH w S res x){η:Nat->Value}{φ:Nat->List Nat}:VR c ⟨S,η,φ⟩ lk w (zW res) x:=by
 match res,h with
 | [v],h=>exact h
 | [],h =>
  obtain⟨l,h1,h2⟩:=h
  exact⟨l,h1,aJ.fG _ h2⟩
 | v::u::r,h =>
  obtain⟨l,h1,h2⟩:=h
  exact⟨l,h1,aJ.fG _ h2⟩
theorem NT{S S':Nat->Prop}{res:List TV}{x:Value}(hf:res.all TV.flat=true)(h:DH w S res x):DH w S' res x:=by
 have nw:∀ v∈res,v.flat=true:=a2e.1 hf
 match res,h,nw with
 | [v],h,nw=>exact Ls (nw v (by simp)) h
 | [],h,nw =>
  obtain⟨l,h1,h2⟩:=h
  exact⟨l,h1,h2.imp λ v y hv hy=>Ls (nw v hv) hy⟩
 | v::u::r,h,nw =>
  obtain⟨l,h1,h2⟩:=h
  exact⟨l,h1,h2.imp λ v y hv hy=>Ls (nw v hv) hy⟩
theorem Jk(hE:bD c.P c.E)(hI:bc c G sl n lk a w){lk':Nat->Option au}(cu:∀ id o,lk' id=some o->lk id=some o){o:Oper}{f:FuncId}{Ts:List TypeId}{vs:List AV}{xs:List Value}
  {vc:Vc} {v:AV} {ob:Option au} (hq:CE c.E lk' f Ts vs=some (vc,v,ob)) (fi:vc.ok) (oX:aJ (VR c G lk w) vs xs)
  (cH:lF c.P f->(execOp a.eval o).run c.P w = .ok (.enter f xs.toArray) w) {Q:Exit->Act->World->Prop}:o.wp c.P a w (vQ c G sl n lk o.dst a w v ob) Q:=by
 have fin:∀ (S:Nat->Prop) (Z9:List Arg) (pre:Vc) (res:List TV),c.E.H6 f Z9=some (pre,res)->pre.ok->aJ (vP c.P w S) Z9 xs->Em w S ->
   (∀ S' w' x,cP (λ _=>False) w w'->(∀ b,b<w.heap.size->(S' b↔S b))->(∀ b,S' b->b<w'.heap.size)->DH w' S' res x->vQ c G sl n lk o.dst a w (zW res) none (a.put o.dst x) w') ->
   o.wp c.P a w (vQ c G sl n lk o.dst a w (zW res) none) Q:=by
  intro S Z9 pre res hc kv has bC EW
  obtain⟨oU,kl⟩:=hE.H6 f Z9 pre res hc kv
  unfold Oper.wp
  rw[cH oU]
  simp only[Oper.upon]
  refine (kl w S xs bC has).mono ?_
  rintro e w' ⟨x,S',a0N,rfl,rfl,h1,h2,h3,h4⟩
  exact EW S' w' x h1 h2 h3 h4
 unfold CE at hq
 split at hq
 .rename_i Z9 has
  split at hq
  .rename_i pre res hc
   simp only[a1w,a1y] at hq
   obtain⟨rfl,rfl,rfl⟩:=hq
   refine fin G.S Z9 _ _ hc fi (jI hE hI (zM cu) (λ _ h=>h) (λ τ v x y h1 h2=>xT zN wM h1 h2) has oX) hI.SU ?_
   intro S' w' x h1 h2 h3 h4
   exact⟨x,S',rfl,hI.grow h1 h2 h3,wP h4⟩
  .cases hq
 .split at hq
  .rename_i Z9 has
   split at hq
   .rename_i pre res hc
    split at hq
    .rename_i Xc
     simp only[a1w,a1y] at hq
     obtain⟨rfl,rfl,rfl⟩:=hq
     refine fin (SX G lk) Z9 _ _ hc fi (jI hE hI cu (λ _ h => .inl h) (λ τ v x y h1 h2=>yZ hI.aI hI.aC cu h1 h2) has oX) ?_ ?_
     .exact hI.Tw
     .intro S' w' x h1 h2 h3 h4
      exact⟨x,G.S,rfl,hI.grow (S':=G.S) h1 (λ _ _=>a3G) (λ b hb=>a2c (hI.ed b hb) h1.size),wP (NT Xc h4)⟩
    .cases hq
   .cases hq
  .cases hq
theorem Nn{o:Oper}{cl:Call}{fo:Operand}{f:FuncId}{l:List Value}(ho:o.op = .call cl)(hc:cl.callee = .value fo)(hf:a.eval fo = .func (.func f) #[] l.toArray)(oU:lF c.P f) :
  (execOp a.eval o).run c.P w = .ok (.enter f (cl.args.toList.map a.eval++l).toArray) w:=by
 obtain⟨fn,h1,h2,h3⟩:=oU
 have W7:(fn.name = "runtime.NumGoroutine")=False:=by simpa using h3
 have YJ:fn.body≠none:=by intro e;simp[e] at h2
 simp[execOp,ho,resolve,hc,Deferred.ofValue,hf,invoke,callFunc,h1,YJ,W7]
theorem Bt(hE:bD c.P c.E)(hI:bc c G sl n lk a w){lk':Nat->Option au}(cu:∀ id o,lk' id=some o->lk id=some o){o:Oper}{cl:Call}{fo:Operand}{g:AV}{Ts:List TypeId}{vs:List AV}
  {vc:Vc} {v:AV} {ob:Option au} (hq:yb c.E lk' g Ts vs=some (vc,v,ob)) (fi:vc.ok) (oX:aJ (VR c G lk w) vs (cl.args.toList.map a.eval)) (bl:o.op = .call cl) (ku:cl.callee = .value fo) (hg:VR c G lk w g (a.eval fo))
  {Q:Exit->Act->World->Prop}:o.wp c.P a w (vQ c G sl n lk o.dst a w v ob) Q:=by
 have fin:∀ (S:Nat->Prop) (Z9:List Arg) (q:FV) (pre:Prop) (y:q.r.den),tx q.ps q.r q.F Z9=some (pre,y)->pre->aJ (vP c.P w S) Z9 (cl.args.toList.map a.eval)->vP c.P w S (.dw q) (a.eval fo)->Em w S ->
   (∀ S' w' x,cP (λ _=>False) w w'->(∀ b,b<w.heap.size->(S' b↔S b))->(∀ b,S' b->b<w'.heap.size)->DH w' S' [⟨q.r,y⟩] x->vQ c G sl n lk o.dst a w (zW [⟨q.r,y⟩]) none (a.put o.dst x) w') ->
   o.wp c.P a w (vQ c G sl n lk o.dst a w (zW [⟨q.r,y⟩]) none) Q:=by
  intro S Z9 q pre y O8 kv has a0p bC EW
  obtain⟨f,iw,l,h1,h2,h3⟩:=a0p
  obtain⟨⟨oU,kl⟩,QQ⟩:=Ja h2 O8 kv
  unfold Oper.wp
  rw[Nn bl ku h1 oU]
  simp only[Oper.upon]
  simp only[a2K] at kl
  have a0k:aJ (Ej w S) Z9 (cl.args.toList.map a.eval):=has.imp λ u z hu hz=>by
   obtain⟨v,rfl⟩:=QQ u hu
   exact hz
  refine (kl w S _ bC (a0k.append h3)).mono ?_
  rintro e w' ⟨x,S',a0N,rfl,rfl,h1,h2,h3,h4⟩
  exact EW S' w' x h1 h2 h3 h4
 unfold yb at hq
 split at hq
 .rename_i r0 LU
  split at LU
  .rename_i Z9 has
   split at LU
   .rename_i q Zn
    split at LU
    .rename_i pre y O8
     simp only[a1w] at LU hq
     subst LU
     simp only[a1y] at hq
     obtain⟨rfl,rfl,rfl⟩:=hq
     refine fin G.S Z9 q pre y O8 fi (jI hE hI (zM cu) (λ _ h=>h) (λ τ v x y h1 h2=>xT zN wM h1 h2) has oX) (zm hE hI (zM cu) (λ _ h=>h) (λ τ v x y h1 h2=>xT zN wM h1 h2) Zn hg) hI.SU ?_
     intro S' w' x h1 h2 h3 h4
     exact⟨x,S',rfl,hI.grow h1 h2 h3,wP h4⟩
    .cases LU
   .cases LU
  .cases LU
 .split at hq
  .rename_i Z9 has
   split at hq
   .rename_i q Zn
    split at hq
    .rename_i pre y O8
     split at hq
     .rename_i Xc
      simp only[a1w,a1y] at hq
      obtain⟨rfl,rfl,rfl⟩:=hq
      refine fin (SX G lk) Z9 q pre y O8 fi (jI hE hI cu (λ _ h => .inl h) (λ τ v x y h1 h2=>yZ hI.aI hI.aC cu h1 h2) has oX) (zm hE hI cu (λ _ h => .inl h) (λ τ v x y h1 h2=>yZ hI.aI hI.aC cu h1 h2) Zn hg) ?_ ?_
      .exact hI.Tw
      .intro S' w' x h1 h2 h3 h4
       exact⟨x,G.S,rfl,hI.grow (S':=G.S) h1 (λ _ _=>Iff.rfl) (λ b hb=>Nat.lt_of_lt_of_le (hI.ed b hb) h1.size),wP (NT (res:=[⟨q.r,y⟩]) (by simpa using Xc) h4)⟩
     .cases hq
    .cases hq
   .cases hq
  .cases hq
theorem ji{o:Oper}{cl:Call}{fo:Operand}{f:FuncId}(ho:o.op = .call cl)(hc:cl.callee = .value fo)(hf:a.eval fo = .func (.func f) #[] #[])(oU:lF c.P f) :
  (execOp a.eval o).run c.P w = .ok (.enter f (cl.args.toList.map a.eval).toArray) w:=by
 obtain⟨fn,h1,h2,h3⟩:=oU
 have W7:(fn.name = "runtime.NumGoroutine")=False:=by simpa using h3
 have YJ:fn.body≠none:=by intro e;simp[e] at h2
 simp[execOp,ho,resolve,hc,Deferred.ofValue,hf,invoke,callFunc,h1,YJ,W7]
 apply a5m
 simp
theorem aJ.pI{ev:Operand->AV}(c8:∀ x,VR c G lk w (ev x) (a.eval x)):∀ l:List Operand,aJ (VR c G lk w) (l.map ev) (l.map a.eval)
 | []=>trivial
 | x::r=>⟨c8 x,aJ.pI c8 r⟩
theorem aJ.CT{ev:Operand->AV}(c8:∀ x,VR c G lk w (ev x) (a.eval x)):∀ l:List (Nat×Operand),
  aJ (λ p q=>p.1=q.1/\VR c G lk w p.2 q.2) (l.map λ p=>(p.1,ev p.2)) (l.map λ p=>(p.1,a.eval p.2))
 | []=>trivial
 | x::r=>⟨⟨rfl,c8 x.2⟩,aJ.CT c8 r⟩
theorem nS{S:Nat->Prop}{t:Ty}{xs:List t.den}{x:Value}(h:fM w S ⟨.slice t,xs⟩ x):∃ ad cap,x = .slice ad xs.length cap/\xs.length<=cap/\xs.length<=140737488355328 /\
  (xs=[]\/∃ b o,ad=some ⟨b,o,none⟩/\S b/\dJ w S (xs.map t.aT) b o):=by
 obtain⟨ad,cap,h1,h2,h3,h4,h5⟩:=h
 simp only[a1C,a1H,a2J] at h1
 exact⟨ad,cap,h1,by simpa using h2,by simpa using h4,h5.imp (λ h=>by simpa using h) id⟩
theorem UA{S:Nat->Prop}{t:Ty}{ys:List t.den}{ad:Option Addr}{m cap:Nat}(h1:ys.length=m)(h2:m<=cap)(h3:cap<=maxLen)(h4:m<=140737488355328)
  (h5:ys=[]\/∃ b o,ad=some ⟨b,o,none⟩/\S b/\dJ w S (ys.map t.aT) b o):fM w S ⟨.slice t,ys⟩ (.slice ad m cap):=by
 subst h1
 exact⟨ad,cap,by simp,by simpa using h2,h3,by simpa using h4,h5.imp (λ h=>by simp[h]) id⟩
theorem rC(hE:bD c.P c.E){T:TypeId}{t:Ty}{b e:Nat}(h:ae c.E.ty T=some (.slice t,b,e)){bk o len cap:Nat}{k:IntKind}{i:Int}(h0:0<=i)(h1:i<len)(w:World) :
  (Instr.indexAt T (.slice (some ⟨bk,o,none⟩) len cap) (.int k i)).run c.P w = .ok (.pointer (some ⟨bk,o+i.toNat * t.size,none⟩)) w:=by
 obtain⟨h2,⟨b',e',h3⟩,_⟩:=hE.slice h
 simp[Instr.indexAt,a2w h2,asIntOf,h0,h1,hE.sizeOf h3 w,a3v]
theorem DU(s:aM)(y:s.den)(i:Nat){f:TV}(hf:(s.fields y)[i]?=some f):((s.cells y).drop (s.gF i)).take f.τ.size=f.cells/\s.gF i+f.τ.size<=s.size:=by
 have Dr:∀ v:TV,v.cells.length=v.τ.size:=by
  rintro⟨τ,x⟩
  cases τ<;>first|rfl|exact aM.ki _ _
 have key:∀ (l:List TV) (i:Nat) (f:TV),l[i]?=some f->((l.flatMap TV.cells).drop ((l.map TV.τ).take i |>.map Ty.size).sum).take f.τ.size=f.cells/\(((l.map TV.τ).take i).map Ty.size).sum+f.τ.size<=(l.flatMap TV.cells).length:=by
  intro l
  induction l with
  | nil=>intro i f h;simp at h
  | cons g l ih =>
   intro i f h
   cases i with
   | zero =>
    simp at h
    subst h
    have:=Dr g
    simp only[a3R,a3K,List.sum_nil,a3Q,a4S,a1T,a3j]
    exact⟨by rw[<-this,a3F],by omega⟩
   | succ i =>
    obtain⟨h1,h2⟩:=ih i f (by simpa using h)
    simp only[a2p,a3t,a5s,a4S,a1T,<-Dr g]
    refine⟨?_,by omega⟩
    rw[<-a3n,a3E]
    exact h1
 have:=key _ i f hf
 rw[<-aM.DP,aM.wg,aM.ki] at this
 exact this
theorem BA{S:Nat->Prop}{s:aM}{y:s.den}{i:Nat}{f:TV}(hf:(s.fields y)[i]?=some f){cs:List Value}(h:Rd w S (TV.aT ⟨.st s,y⟩) cs):Rd w S f.aT ((cs.drop (s.gF i)).take f.τ.size):=by
 obtain⟨h1,_⟩:=DU s y i hf
 rw[show TV.aT ⟨.st s,y⟩=s.aT y from rfl,aM.cq] at h
 have h2:=((dB.vS.1 h).drop (s.gF i)).take f.τ.size
 rw[h1] at h2
 obtain⟨τ,x⟩:=f
 cases τ with
 | st s' =>
  show Rd w S (s'.aT x) _
  rw[aM.cq]
  exact dB.vS.2 h2
 | _ =>
  simp only[TV.cells] at h2
  match hc:(cs.drop (s.gF i)).take (Ty.size _),h2 with
  | [v],h2=>exact h2.1
theorem Qs{S:Nat->Prop}{s:aM}{y:s.den}{i:Nat}{f:TV}(hf:(s.fields y)[i]?=some f){cs:List Value}(h:Rd w S (s.aT y) cs):s.gF i+f.τ.size<=cs.length/\True:=by
 obtain⟨_,h1⟩:=DU s y i hf
 have:=Rd.length _ h
 rw[aM.cq] at this
 simp only[D.size,a2J,aM.ki] at this
 exact⟨by omega,trivial⟩
theorem Ty.size_le(τ:Ty):τ.size<=100:=by
 have:∀ s:aM,s.size<=100:=by intro s;cases s<;>decide
 cases τ<;>first|exact this _|(simp[Ty.size];done)
theorem Rd.sq{S:Nat->Prop}{τ:Ty}{x:τ.den}{cs:List Value}(h:Rd w S (τ.aT x) cs):∀ u∈cs,u.oneCell'=true:=by
 cases τ with
 | st s =>
  rw[show Ty.aT (.st s) x=s.aT x from rfl,aM.cq] at h
  have ha:=dB.vS.1 h
  intro u hu
  obtain⟨i,hi,VJ⟩:=a3C hu
  have hlen:=ha.length
  obtain⟨b,hb,hr⟩:=ha.at_ i (s.cells x)[i] (a2m (by omega))
  have YS:b=u:=by
   have:cs[i]?=some u:=by rw[a2m hi,VJ]
   rw[this] at hb;exact (a3M hb).symm
  subst YS
  obtain⟨z,h1,h2⟩:=Rd.tE (aM.qo s x _ (a4f _)) hr
  simp only[a1C,a1H] at h1
  subst h1
  exact wG h2
 | _ =>
  obtain⟨z,rfl,h2⟩:=Rd.tE (lu (v:=⟨_,x⟩) rfl) h
  intro u hu
  simp only[a2g] at hu
  subst hu
  exact wG h2
theorem fJ.sq{S:Nat->Prop}{τ:Ty}:∀ {xs:List τ.den} {l:List Value},fJ w S (xs.map τ.aT) l->∀ u∈l,u.oneCell'=true
 | [],l,h=>by rw[show l=[] from h];simp
 | x::xs,l,h=>by
  obtain⟨c1,r,rfl,h2,h3⟩:=h
  intro u hu
  rcases a1A.1 hu with hu|hu
  .exact Rd.sq h2 u hu
  .exact fJ.sq h3 u hu
def Src(w:World)(S:Nat->Prop)(τ:Ty)(ys:List τ.den)(z:Value):Prop :=
 ∃ ad cap,z = .slice ad ys.length cap/\(ys=[]\/∃ b o news,ad=some ⟨b,o,none⟩/\dk w b o news/\fJ w S (ys.map τ.aT) news)
theorem Cf{lk lk':Nat->Option au}(cu:∀ id o,lk' id=some o->lk id=some o)(id:Nat)(o:au)(h:Ha lk' id=some o):lk id=some o:=by
 unfold Ha at h
 split at h
 .cases h
 .exact cu id o h
theorem Q4{lk:Nat->Option au}(id:Nat)(τ:Ty)(xs:List τ.den):Ha lk id≠some (.aq τ xs):=by
 unfold Ha
 split
 .simp
 .rename_i ky;exact ky _ _
theorem S6(mX:∀ id o,lk id=some o->OR c G lk w id o){lk':Nat->Option au}(cu:∀ id o,lk' id=some o->lk id=some o)(J0:∀ id τ xs,lk' id≠some (.aq τ xs)){τ:Ty}{v:AV}{z:Value}{ys:List τ.den}(h:lG lk' (.slice τ) v=some ys)
  (hv:C1 c G lk w v z):Src w G.S τ ys z:=by
 cases v with
 | az u =>
  have e:=TV.aX h
  subst e
  obtain⟨ad,cap,h1,h2,h3,h4⟩:=nS (show fM w G.S ⟨.slice τ,ys⟩ z from hv.2)
  refine⟨ad,cap,h1,h4.imp id ?_⟩
  rintro⟨b,o,h5,h6,h7⟩
  obtain⟨news,h8,h9⟩:=dJ.cells _ b o h7
  exact⟨b,o,news,h5,h9,h8⟩
 | nil =>
  simp only[lG,a1w] at h
  subst h
  exact⟨none,0,hv, .inl rfl⟩
 | row id =>
  simp only[lG] at h
  split at h
  .rename_i e aV xs hl
   have e1:=TV.aX h
   cases e1
   have oo:=cu _ _ hl
   obtain⟨l,h1,h2,h3⟩:=mX _ _ oo
   rcases h1.2 with ⟨E3,hn⟩|⟨g,cap,cur,E3,_⟩
   .exact⟨none,0,by rw[hv.1,E3,hn], .inl (a2D hn)⟩
   .refine⟨some ⟨g,0,none⟩,cap,by rw[hv.1,E3], .inr ⟨g,0,l,rfl,?_,h2⟩⟩
    intro j u hj
    have:=h1.cells (g:=g) (by rw[E3];rfl) j u hj
    rw[a3v] at this
    exact this
  .cases h
 | aq id =>
  simp only[lG] at h
  split at h
  .rename_i hl
   exact absurd hl (J0 _ _ _)
  .cases h
 | _=>cases h
theorem Jb{S:Nat->Prop}{base:Nat}(hE:bD c.P c.E){T:TypeId}{τ:Ty}{b e n:Nat}{v z:Value}{l:List Value}{ys:List τ.den}(hT:ae c.E.ty T=some (.slice τ,b,e))(sY:w.ownsRow base e τ.size v n l)
  (VB:base<=w.heap.size) (r6:Src w S τ ys z) (zA:fI (n+ys.length) b) (ty:TypeId) :
  ∃ v' w' news,(Builtin.append_ #[T,T] ty #[v,z]).run c.P w = .ok v' w'/\w'.ownsRow base e τ.size v' (n+ys.length) (l++news)/\w.grownBy w' v.ownBlock/\(v'.ownBlock=v.ownBlock\/v'.ownBlock=some w.heap.size) /\
   fJ w S (ys.map τ.aT) news/\n+ys.length<=140737488355328:=by
 obtain⟨k1,⟨b',e',k2⟩,i,zv,k3,k4,k5,k6,k7⟩:=hE.slice hT
 have Sm:zv.cells.size=τ.size:=by
  have:=Rd.length _ (HM (w:=w) (S:=S) k7)
  rwa [Ty.cK,a2y] at this
 have GO:=τ.size_pos
 have J2:(n+ys.length) * b<=140737488355328/\n+ys.length<=140737488355328:=by
  unfold fI at zA
  rw[Nat.mul_add,Nat.mul_one] at zA
  omega
 have GL:n+ys.length<=maxLen:=by simp only[maxLen];omega
 obtain⟨ad,cap,h1,h4⟩:=r6
 subst h1
 by_cases hy:ys=[]
 .subst hy
  simp only[a2b,a3w] at *
  cases ad with
  | none =>
   refine⟨v,w,[],?_,by simpa using sY,⟨rfl,rfl,rfl,Nat.le_refl _,λ _ _ _=>rfl⟩, .inl rfl,rfl,J2.2⟩
   rcases sY.2 with ⟨rfl,rfl⟩|⟨g,S8,cur,rfl,_,_,JZ,_⟩
   .simp[Builtin.append_,a2w k1,sizeOf,typeInfo,k3,Builtin.lenOf,Builtin.firstCells]
   .simp[Builtin.append_,a2w k1,sizeOf,typeInfo,k3,Builtin.lenOf,Builtin.firstCells,JZ,storeCells]
  | some ad =>
   obtain⟨v',w',m1,m2,m3,_,m5⟩:=run_append_own_at (P:=c.P) w base T ty e i zv τ.size b k1 k3 k6 k4 k5 Sm GO v n l sY ad 0 cap [] (by simp) (by simp) (by simp) GL J2.1 VB
   exact⟨v',w',[],m1,m2,m3,m5,rfl,J2.2⟩
 .rcases h4 with h4|⟨bk,o',news,rfl,h8,h7⟩
  .exact absurd h4 hy
  .skip
   have hlen:news.length=ys.length * τ.size:=by
    have:=fJ.length (n:=τ.size) _ h7 (by
     intro d hd
     obtain⟨y,_,rfl⟩:=a1D.1 hd
     exact Ty.cK τ y)
    simpa using this
   obtain⟨v',w',m1,m2,m3,_,m5⟩:=run_append_own_at (P:=c.P) w base T ty e i zv τ.size b k1 k3 k6 k4 k5 Sm GO v n l sY ⟨bk,o',none⟩ ys.length cap news hlen (λ j u hj=>by rw[a3v];exact h8 j u hj) (fJ.sq h7) GL J2.1 VB
   exact⟨v',w',news,m1,m2,m3,m5,h7,J2.2⟩
theorem K8{ev:Operand->AV}(c8:∀ x,VR c G lk w (ev x) (a.eval x)){d l:Int}{lo:Option Operand}(h:qO d (lo.map ev)=some l):(lo=none/\l=d)\/∃ k,lo.map a.eval=some (.int k l):=by
 cases lo with
 | none =>
  simp only[a4F,qO,a1w] at h
  exact .inl ⟨rfl,h.symm⟩
 | some x =>
  simp only[a5e,qO] at h
  split at h
  .rename_i hn
   cases hn
  .rename_i k n hn
   simp only[a1w] at h hn
   subst h
   have hx:=c8 x
   rw[hn] at hx
   obtain⟨hx,_⟩:=hx
   simp only[a1C,a1H] at hx
   exact .inr ⟨k,by simp[hx]⟩
  .cases h
theorem Ji{ev:Operand->AV}(c8:∀ x,VR c G lk w (ev x) (a.eval x)){l h:Int}{len cap:Nat}{lo hi:Option Operand}(sl:Bool)(hl:qO 0 (lo.map ev)=some l)(hh:qO (len:Int) (hi.map ev)=some h)
  (hc:eM l h len) (GF:len<=cap) (P:Program) (w':World):(Instr.sliceBounds sl len cap (lo.map a.eval) (hi.map a.eval) none).run P w' = .ok (l.toNat,h.toNat,cap) w':=by
 obtain⟨h0,h1,h2⟩:=hc
 have e1:(h.toNat:Int)=h:=Int.toNat_of_nonneg (by omega)
 rcases K8 c8 hl with ⟨rfl,rfl⟩|⟨k,hk⟩<;>rcases K8 c8 hh with ⟨rfl,rfl⟩|⟨k',oW⟩
 .simp[Instr.sliceBounds]
 .simp[Instr.sliceBounds,oW,a5i,show 0<=h from by omega,show h<=(cap:Int) from by omega]
 .simp[Instr.sliceBounds,hk,a5i,h0,h1]
 .simp[Instr.sliceBounds,hk,oW,a5i,h0,h1,show 0<=h from by omega,show h<=(cap:Int) from by omega,e1]
theorem Jz{n m:Int}{b:Nat}(h:j0 n m b):0<=n/\n<=m/\m<=140737488355328/\(b:Int) * m<=140737488355328:=by
 obtain⟨h1,h2,h3⟩:=h
 have e:m * ((b:Int)+1)=m * b+m:=by rw[Int.mul_add,Int.mul_one]
 have p:0<=m * (b:Int):=Int.mul_nonneg (by omega) (by omega)
 have q:(b:Int) * m=m * b:=Int.mul_comm _ _
 exact⟨h1,h2,by omega,by omega⟩
theorem Uh(hE:bD c.P c.E){T:TypeId}{τ:Ty}{b e:Nat}(hT:ae c.E.ty T=some (.slice τ,b,e)){n m:Int}(h:j0 n m b)(w:World)
  (cy:∀ w',cP (λ _=>False) w w'->∀ b,G.S b->w'.heap[b]?=w.heap[b]?) :
  ∃ cap cs,(Instr.makeSlice T (.int .i64 n) (.int .i64 m)).run c.P w = .ok (.slice (some ⟨w.heap.size,0,none⟩) n.toNat cap) (w.alloc (.cells cs e)) /\
   S5 c G lk (w.alloc (.cells cs e)) (.slice (some ⟨w.heap.size,0,none⟩) n.toNat cap) (.row e τ (List.replicate n.toNat τ.zero)):=by
 obtain⟨v1,v2,v3,v4⟩:=Jz h
 obtain⟨h1,_,i,z,h3,h4,h5,h6,h7⟩:=hE.slice hT
 have Xt:=HM (w:=w) (S:=G.S) h7
 have Ua:=Rd.length _ Xt
 rw[Ty.cK,a2y] at Ua
 have hr:=run_make (P:=c.P) w T e i z h1 h3 h6 .i64 .i64 n m v1 v2 (by rw[h5];omega) (by omega)
 refine⟨m.toNat,madeCells z.cells (m.toNat * i.size),hr,(madeCells z.cells (n.toNat * z.cells.size)).toList,?_,?_,by simp;omega⟩
 .refine⟨by simp[madeCells,Ua], .inr ⟨w.heap.size,m.toNat,madeCells z.cells (m.toNat * i.size),by simp,a3g _,a4b w _,by simp;omega,by simp only[maxLen];omega,by simp[size_madeCells,h4],?_⟩⟩
  rw[h4,Ua,List.length_replicate]
  exact AK _ _ _ (a3A _ (by omega))
 .rw[a5A]
  exact fJ.aQ (λ _ h=>h) (cy _ (iC w _)) _ (D8 Xt n.toNat)
theorem bD.map(hE:bD c.P c.E){T:TypeId}{κ ε:Ty}(h:ae c.E.Q2 T=some (κ,ε))(w:World) :
  ∃ kT eT,c.P.underlying T=some (.map kT eT)/\c.P.underlying kT=some (descOf κ)/\κ.key=true/\ε.key=true/\∃ z,(zeroValue eT).run c.P w = .ok z w/\ua ε ε.zero z:=by
 have:=hE.Q2 T κ ε h
 unfold Mc at this
 split at this
 .rename_i k e hu
  split at this
  .rename_i XS r XR r' hk he
   simp only[a1z,a1F] at this
   obtain⟨rfl,rfl,h3,h4⟩:=this
   obtain⟨i,z,k1,k2,k3,k4⟩:=(hE.info he).ex
   have hz:=HM (w:=w) (S:=λ _=>False) k4
   refine⟨k,e,hu,?_,h3,h4,z,by simp[zeroValue,typeInfo,k1,k3],?_⟩
   .obtain⟨b,e'⟩:=r
    cases XS with
    | int q=>exact hE.int hk
    | bool=>exact hE.bool hk
    | str=>exact hE.str hk
    | _=>cases h3
   .have hc:z.cells.toList=[z]:=by
     cases XR<;>cases z<;>first|rfl|(cases h4;done)|(simp[wX,vA] at k4;done)
    rw[hc] at hz
    exact ua.of h4 hz
  .cases this
 .cases this
theorem Fo(hE:bD c.P c.E)(hI:bc c G sl n lk a w){lk':Nat->Option au}(cu:∀ id o,lk' id=some o->lk id=some o){ev:Operand->AV}(c8:∀ x,VR c G lk w (ev x) (a.eval x))
  {o:Oper} {vc:Vc} {v:AV} {ob:Option au} (hq:Fm c.E lk' ev o=some (vc,v,ob)) (fi:vc.ok) {Q:Exit->Act->World->Prop} :
  o.wp c.P a w (vQ c G sl n lk o.dst a w v ob) Q:=by
 unfold Fm at hq
 split at hq
 case h_1 x bl =>
  simp only[a1w,a1y] at hq
  obtain⟨rfl,rfl,rfl⟩:=hq
  exact cJ hI (by simp[execOp,bl]) (c8 x)
 case h_2 x bl =>
  simp only[a1w,a1y] at hq
  obtain⟨rfl,rfl,rfl⟩:=hq
  exact cJ hI (by simp[execOp,bl]) (c8 x)
 case h_3 cc x y bl =>
  split at hq
  .rename_i hc
   simp only[a1w,a1y] at hq
   obtain⟨rfl,rfl,rfl⟩:=hq
   have h1:=c8 cc
   rw[hc] at h1
   have h1:[a.eval cc]=[.bool true]:=h1
   simp only[a1C,a1H] at h1
   exact cJ hI (by simp[execOp,bl,h1,asBool]) (c8 x)
  .rename_i hc
   simp only[a1w,a1y] at hq
   obtain⟨rfl,rfl,rfl⟩:=hq
   have h1:=c8 cc
   rw[hc] at h1
   have h1:[a.eval cc]=[.bool false]:=h1
   simp only[a1C,a1H] at h1
   exact cJ hI (by simp[execOp,bl,h1,asBool]) (c8 y)
  .cases hq
 case h_4 T bl =>
  split at hq
  .rename_i d τ r hd hT
   simp only[a1w,a1y] at hq
   obtain⟨rfl,rfl,rfl⟩:=hq
   obtain⟨i,z,h1,h2,h3,h4⟩:=(hE.info hT).ex
   refine yf hI (x := .pointer (some ⟨w.heap.size,0,none⟩)) (w':=w.alloc (.cells z.cells T)) ?_ (hI.alloc _) ⟨d,hd,rfl⟩ ?_ ?_
   .simp[execOp,bl,Instr.alloc,zeroValue,typeInfo,h1,h3,newVar,newRow]
   .exact⟨_,z.cells.toList,T,rfl,by simpa using heap_alloc_new w _,mC h4⟩
   .intro b hb
    simp only[fe,a1w] at hb
    subst hb
    simp
  .cases hq
 case h_5 T x bl =>
  split at hq
  .rename_i d τ r hd hT
   split at hq
   .split at hq
    .rename_i y hy
     simp only[a1w,a1y] at hq
     obtain⟨rfl,rfl,rfl⟩:=hq
     have r6:=fM.cells (FT (c:=c) (G:=G) (lk:=lk) hy (c8 x))
     have hk:=iC w (.cells (a.eval x).cells T)
     have cj:(w.alloc (.cells (a.eval x).cells T)).heap.size=w.heap.size+1:=by simp
     have ug:=hI.grow (S':=λ b=>G.S b\/b=w.heap.size) hk (λ b hb=>⟨λ h=>h.elim id λ e=>by omega, .inl⟩) (λ b hb=>by
      rcases hb with hb|hb
      .have:=hI.ed b hb;omega
      .omega)
     have cH:(execOp a.eval o).run c.P w = .ok (.value (.pointer (some ⟨w.heap.size,0,none⟩))) (w.alloc (.cells (a.eval x).cells T)):=by
      simp[execOp,bl,Instr.box,newVar,newRow]
     unfold Oper.wp
     rw[cH]
     refine⟨_,_,rfl,ug,?_⟩
     refine⟨w.heap.size,0,(a.eval x).cells.toList,rfl, .inl (.inr rfl),?_,Rd.aQ (λ _ h => .inl h) (λ b hb=>hk.block b (hI.ed b hb) λ h=>h) _ r6⟩
     have:=a4b w (.cells (a.eval x).cells T)
     exact Bu (p:=[]) (c:=(a.eval x).cells.toList) (r:=[]) (by simpa using this)
    .cases hq
   .split at hq
    .rename_i cs lU
     simp only[a1w,a1y] at hq
     obtain⟨rfl,rfl,rfl⟩:=hq
     obtain⟨h1,_,_⟩:=wZ lU (c8 x)
     refine yf hI (x := .pointer (some ⟨w.heap.size,0,none⟩)) (w':=w.alloc (.cells (a.eval x).cells T)) ?_ (hI.alloc _) ⟨d,hd,rfl⟩ ?_ ?_
     .simp[execOp,bl,Instr.box,newVar,newRow]
     .exact⟨_,(a.eval x).cells.toList,T,rfl,by simpa using heap_alloc_new w _,h1.imp λ u y _ hy=>hI.YD (iC w _) hy⟩
     .intro b hb
      simp only[fe,a1w] at hb
      subst hb
      simp
    .cases hq
  .cases hq
 case h_6 T parts bl =>
  split at hq
  .rename_i s r hT
   split at hq
   .rename_i cs lU
    simp only[a1w,a1y] at hq
    obtain⟨rfl,rfl,rfl⟩:=hq
    obtain⟨i,z,h1,h2,h3,h4⟩:=(hE.info hT).ex
    obtain⟨fs,h5,h6,h7⟩:=hE.st hT
    have T7:fs.toList.mapM (λ f=>(c.P.info? f.type).map λ i=>(f.offset,i.size))=some (fs.toList.map λ f=>(f.offset,c.P.cellsOf f.type)):=by
     have:∀ l:List Field,(∀ f∈l,∃ i,c.P.info? f.type=some i)->l.mapM (λ f=>(c.P.info? f.type).map λ i=>(f.offset,i.size))=some (l.map λ f=>(f.offset,c.P.cellsOf f.type)):=by
      intro l
      induction l with
      | nil=>intro _;rfl
      | cons f l ih =>
       intro hl
       obtain⟨i,hi⟩:=hl f (by simp)
       simp[a4x,hi,ih λ f hf=>hl f (by simp[hf]),Program.cellsOf]
     refine this _ λ f hf=>?_
     obtain⟨j,hj,hjf⟩:=a3C hf
     obtain⟨t,b,e,_,k2,_⟩:=h7 j f (by rw[Array.getElem?_eq_getElem (by simpa using hj)];simpa using hjf)
     obtain⟨i,_,hi,_⟩:=(hE.info k2).ex
     exact⟨i,hi⟩
    have Xk:∀ i t,s.jd[i]?=some t->(fs.toList.map λ f=>(f.offset,c.P.cellsOf f.type)).toArray[i]?=some (s.gF i,t.size):=by
     intro i t hi
     have bC:i<fs.size:=by have:=(a2a.1 hi).1;omega
     obtain⟨t',b,e,k1,k2,k3⟩:=h7 i fs[i] (a2x bC)
     rw[hi] at k1
     simp only[a1w] at k1
     subst k1
     obtain⟨i',_,oV,cj,_⟩:=(hE.info k2).ex
     simp[bC,k3,Program.cellsOf,oV,cj]
    obtain⟨l',h8,h9⟩:=Ee (c:=c) (G:=G) (lk:=lk) (w:=w) Xk lU (aJ.CT c8 _) (mC h4)
    have hb:c.P.built T ((parts.map λ (i,x)=>(i,a.eval x)).toList)=some l'.toArray:=by
     unfold Program.built
     rw[h1,h5]
     simp only[h3,T7]
     rw[<-h8]
     congr 1
     simp
    refine cJ hI (x := .agg l'.toArray) ?_ ⟨l',rfl,h9⟩
    simp[execOp,bl,run_build w T _ _ hb]
   .cases hq
  .cases hq
 case h_7 T len parts bl =>
  split at hq
  .rename_i d τ b e hd hT
   split at hq
   .rename_i hlen
    split at hq
    .rename_i xs oX
     simp only[a1z] at hlen
     have VK:=a1x hlen.1
     have QI:=a2n hlen.2
     subst VK
     obtain⟨h1,⟨b',e',h2⟩,i,z,h3,h4,h5,h6,h7⟩:=hE.slice hT
     have GO:=τ.size_pos
     have GL:τ.size<=100:=Ty.size_le τ
     have a0m:parts.size * τ.size<=16777216:=a4a (Nat.mul_le_mul QI GL) (by decide)
     obtain⟨r,h8,h9⟩:=DT (c:=c) (G:=G) (lk:=lk) (w:=w) (τ:=τ) (place:=λ i=>some (i * τ.size,τ.size)) (λ _=>rfl) (l:=((Array.range (parts.size * τ.size)).map (λ j=>((if parts.size * τ.size=0 then #[] else z.cells:Array Value)[j % (if parts.size * τ.size=0 then #[] else z.cells:Array Value).size]!))).toList) oX (aJ.CT c8 _) (by simp)
     have uj:=At oX
     simp only[a2J,a2y] at uj
     have cj:∀ d∈xs.map τ.aT,d.size=τ.size:=by
      intro d hd
      obtain⟨y,_,rfl⟩:=a1D.1 hd
      exact Ty.cK τ y
     have VX:=fJ.length _ h9 cj
     simp only[a2J,uj] at VX
     simp only[a4E,a3R,a2K,a2G] at h8
     have cH:(execOp a.eval o).run c.P w = .ok (.value (.slice (some ⟨w.heap.size,0,none⟩) parts.size parts.size)) (w.alloc (.cells r.toArray e)):=by
      have e2:(parts.map λ (i,x)=>(i,a.eval x)).toList=parts.toList.map λ p=>(p.1,a.eval p.2):=by simp
      have ky:¬ (parts.size * τ.size>2 ^ 24):=by omega
      simp only[execOp,bl,Instr.buildSlice,a2h,a2w h1,a1U,hE.sizeOf h2,a1B ky,a2i]
      by_cases h0:parts.size * τ.size=0
      .simp only[h0,a3z,a2h,a2i,a1U,e2] at h8 ⊢
       rw[h8]
       simp[newRow]
      .simp only[h0,a4J,a2h,zeroValue,typeInfo,run_program,a1U,h3,h6,a2i,e2] at h8 ⊢
       rw[h8]
       simp[newRow]
     have ho:(w.alloc (.cells r.toArray e)).ownsRow 0 e τ.size (.slice (some ⟨w.heap.size,0,none⟩) parts.size parts.size) xs.length r:=by
      rw[uj]
      have:=World.ownsRow_lit (base:=0) (e:=e) (size:=τ.size) w r.toArray parts.size (Nat.zero_le _) (by simp only[maxLen];omega) (by simpa using VX)
      simpa using this
     have r6:=fJ.aQ (λ _ h=>h) (λ b hb=>hI.PQ (iC w (.cells r.toArray e)) b (.inl hb)) _ h9
     have jP:∀ b,fe (.slice (some ⟨w.heap.size,0,none⟩) parts.size parts.size)=some b->w.heap.size<=b/\b<(w.alloc (.cells r.toArray e)).heap.size:=by
      intro b hb
      simp only[fe,a1w] at hb
      subst hb
      simp
     split at hq
     .simp only[a1w,a1y] at hq
      obtain⟨rfl,rfl,rfl⟩:=hq
      exact TJ hI cH (iC w _) ho r6 (by omega) jP
     .simp only[a1w,a1y] at hq
      obtain⟨rfl,rfl,rfl⟩:=hq
      exact yf hI cH (hI.alloc _) ⟨d,hd,rfl⟩ ⟨r,ho,r6,by omega⟩ jP
    .cases hq
   .cases hq
  .cases hq
 case h_8 T ad bl =>
  split at hq
  .rename_i τ r hT
   split at hq
   .rename_i u hu
    simp only[a1w,a1y] at hq
    obtain⟨rfl,rfl,rfl⟩:=hq
    obtain⟨b,o',cs,h1,h2,h3,h4⟩:=rm hI.aC cu hu (c8 ad)
    refine cJ hI ?_ h4
    simp only[execOp,bl,h1,a2h,qH hE hT h2 h3,a1U,a2i]
   .cases hq
  .cases hq
 case h_9 x bl =>
  have key:∀ u,ev x=u->(∃ b o,a.eval x = .pointer (some ⟨b,o,none⟩))->vc = .none->v=u->ob=none->o.wp c.P a w (vQ c G sl n lk o.dst a w v ob) Q:=by
   rintro u hu ⟨b,o',hx⟩ _ rfl rfl
   refine cJ hI (x:=a.eval x) ?_ (hu ▸ c8 x)
   simp only[execOp,bl,hx,a2i]
  have hx:=c8 x
  split at hq
  .rename_i u hu
   simp only[a1w,a1y] at hq
   rw[hu] at hx
   obtain⟨b,o',cs,h1,_⟩:=hx
   exact key _ hu ⟨b,o',h1⟩ hq.1.symm hq.2.1.symm hq.2.2.symm
  .rename_i id off hu
   simp only[a1w,a1y] at hq
   rw[hu] at hx
   obtain⟨b,_,h1,_⟩:=hx
   exact key _ hu ⟨b,off,h1⟩ hq.1.symm hq.2.1.symm hq.2.2.symm
  .rename_i id i off hu
   simp only[a1w,a1y] at hq
   rw[hu] at hx
   obtain⟨b,_,_,_,_,_,_,_,_,h1⟩:=hx
   exact key _ hu ⟨b,_,h1⟩ hq.1.symm hq.2.1.symm hq.2.2.symm
  .cases hq
 case h_10 T x i bl =>
  split at hq
  .rename_i s r hT
   have hx:=c8 x
   split at hq
   .rename_i u hu
    rw[hu] at hx
    split at hq
    .rename_i y hy
     have e:=TV.aX hy
     subst e
     split at hq
     .rename_i f hf
      simp only[a1w,a1y] at hq
      obtain⟨rfl,rfl,rfl⟩:=hq
      obtain⟨b,o',cs,h1,h2,h3,h4⟩:=hx
      have bC:i<s.jd.length:=by
       have:=(a2a.1 hf).1
       rw[<-aM.wg s y,a2J];exact this
      refine cJ hI (x := .pointer (some ⟨b,o'+s.gF i,none⟩)) ?_ ?_
      .simp only[execOp,bl,h1,a2h,mg hE hT bC,a1U,a2i]
      .refine⟨b,o'+s.gF i,(cs.drop (s.gF i)).take f.τ.size,rfl,h2,h3.part _ _,?_⟩
       exact BA hf h4
     .cases hq
    .cases hq
   .rename_i id off hu
    rw[hu] at hx
    split at hq
    .rename_i bC
     simp only[a1w,a1y] at hq
     obtain⟨rfl,rfl,rfl⟩:=hq
     have bC:i<s.jd.length:=by simpa [Nat.blt_eq] using bC
     obtain⟨b,h1,h2,h3⟩:=hx
     refine cJ hI (x := .pointer (some ⟨b,off+s.gF i,none⟩)) ?_ ⟨b,h1,rfl,h3⟩
     simp only[execOp,bl,h2,a2h,mg hE hT bC,a1U,a2i]
    .cases hq
   .rename_i id k off hu
    rw[hu] at hx
    split at hq
    .rename_i bC
     simp only[a1w,a1y] at hq
     obtain⟨rfl,rfl,rfl⟩:=hq
     have bC:i<s.jd.length:=by simpa [Nat.blt_eq] using bC
     obtain⟨b,m,cap,e,τ,xs,h1,h2,h3,h4⟩:=hx
     refine cJ hI (x := .pointer (some ⟨b,k * τ.size+(off+s.gF i),none⟩)) ?_ ⟨b,m,cap,e,τ,xs,h1,h2,h3,rfl⟩
     simp only[execOp,bl,h4,a2h,mg hE hT bC,a1U,a2i,a4o]
    .cases hq
   .cases hq
  .cases hq
 case h_11 T x i bl =>
  split at hq
  .rename_i s r hT
   have hx:=c8 x
   split at hq
   .rename_i u hu
    rw[hu] at hx
    split at hq
    .rename_i y hy
     have e:=TV.aX hy
     subst e
     split at hq
     .rename_i f hf
      simp only[a1w,a1y] at hq
      obtain⟨rfl,rfl,rfl⟩:=hq
      obtain⟨cs,h1,h2⟩:=hx
      have hty:s.jd[i]?=some f.τ:=by rw[<-aM.wg s y,a3d,hf];rfl
      obtain⟨h3,h4⟩:=Qs hf h2
      refine cJ hI (x:=Dy f.τ ((cs.drop (s.gF i)).take f.τ.size)) ?_ (fM.ZA (BA hf h2))
      simp only[execOp,bl,h1,a2h,MI hE hT hty h3,a1U,a2i]
     .cases hq
    .cases hq
   .rename_i cs hu
    rw[hu] at hx
    split at hq
    .rename_i τ kZ
     split at hq
     .rename_i u hg
      simp only[a1w,a1y] at hq
      obtain⟨rfl,rfl,rfl⟩:=hq
      obtain⟨l,h1,h2⟩:=hx
      obtain⟨h3,h4,h5⟩:=BF h2 hg
      refine cJ hI (x:=Dy τ ((l.drop (s.gF i)).take τ.size)) ?_ h3
      simp only[execOp,bl,h1,a2h,MI hE hT kZ h5,a1U,a2i]
     .cases hq
    .cases hq
   .cases hq
  .cases hq
 case h_12 T x ix bl =>
  split at hq
  .rename_i τ r hT
   split at hq
   .rename_i k i hi
    have tD:=c8 ix
    rw[hi] at tD
    obtain⟨tD,_⟩:=tD
    simp only[a1C,a1H] at tD
    have hx:=c8 x
    split at hq
    .rename_i u hu
     rw[hu] at hx
     split at hq
     .rename_i xs oX
      have e:=TV.aX oX
      subst e
      simp only[a1w,a1y] at hq
      obtain⟨rfl,rfl,rfl⟩:=hq
      obtain⟨h0,h1⟩:=fi
      obtain⟨ad,cap,h2,h3,h4,h5⟩:=nS hx
      rcases h5 with h5|⟨b,o',h5,h6,h7⟩
      .subst h5
       simp only[a2b] at h1
       omega
      .subst h5
       have bC:i.toNat<xs.length:=by omega
       obtain⟨cs,m1,m2,m3⟩:=dJ.at_ (n:=τ.size) _ b o' h7 (by
        intro d hd
        obtain⟨y,_,rfl⟩:=a1D.1 hd
        exact Ty.cK τ y) i.toNat (τ.aT (xs.getD i.toNat τ.zero)) (by simp[List.getD,bC])
       refine cJ hI (x := .pointer (some ⟨b,o'+i.toNat * τ.size,none⟩)) ?_ ⟨b,_,cs,rfl, .inl h6,m3,m2⟩
       simp only[execOp,bl,h2,tD,a2h,rC hE hT h0 h1,a1U,a2i]
     .cases hq
    .rename_i id hu
     rw[hu] at hx
     split at hq
     .rename_i e' aV xs hl
      split at hq
      .rename_i kZ
       have kZ:=a2d kZ
       subst kZ
       simp only[a1w,a1y] at hq
       obtain⟨rfl,rfl,rfl⟩:=hq
       obtain⟨h0,h1⟩:=fi
       obtain⟨h2,_,_⟩:=hx
       have oo:=cu _ _ hl
       obtain⟨l,m1,_,_⟩:=hI.aC _ _ oo
       have bC:i.toNat<xs.length:=by omega
       rcases m1.2 with ⟨_,hn⟩|⟨g,cap,cur,hv,_⟩
       .omega
       .refine cJ hI (x := .pointer (some ⟨g,0+i.toNat * aV.size,none⟩)) ?_ ⟨g,_,cap,e',aV,xs,hv,oo,bC,by simp⟩
        simp only[execOp,bl,h2,hv,tD,a2h,rC hE hT h0 h1,a1U,a2i]
      .cases hq
     .cases hq
    .cases hq
   .cases hq
  .cases hq
 case h_13 T x ix bl =>
  split at hq
  .rename_i r hT
   split at hq
   .rename_i k i hi
    have tD:=c8 ix
    rw[hi] at tD
    obtain⟨tD,_⟩:=tD
    simp only[a1C,a1H] at tD
    have hx:=c8 x
    split at hq
    .rename_i xs hu
     rw[hu] at hx
     simp only[a1w,a1y] at hq
     obtain⟨rfl,rfl,rfl⟩:=hq
     obtain⟨s,h1,h2,h3⟩:=hx
     simp only[a1C,a1H] at h1
     subst h2
     have cj:s.data.toList.length=s.size:=a2y
     have fi:aZ i s.data.toList.length:=fi
     unfold aZ at fi
     rw[cj] at fi
     have bC:Int.toNat i<s.size:=by omega
     have he:s.data.toList.getD (Int.toNat i) 0=s[Int.toNat i]'bC:=by
      have h5:Int.toNat i<s.data.size:=bC
      rw[List.getD_eq_getElem?_getD,List.getElem?_eq_getElem (by simpa using h5)]
      rfl
     have hr:(execOp a.eval o).run c.P w = .ok (.value (.int .u8 (s[Int.toNat i]'bC).toNat)) w:=by
      simp only[execOp,bl,h1,tD,a2h,run_index_string w T s k i (hE.str hT)]
      rw[dif_pos fi]
      rfl
     refine cJ hI hr ⟨by rw[he],?_⟩
     have:=(s.data.toList.getD (Int.toNat i) 0).toNat_lt
     exact⟨Int.natCast_nonneg _,by simp only[IntKind.max,IntKind.signed,IntKind.bits,a1G,a4J];omega⟩
    .cases hq
   .cases hq
  .cases hq
 case h_14 op T x y yt bl =>
  split at hq
  .rename_i p u hu
   simp only[a1w,a1y] at hq
   obtain⟨rfl,rfl,rfl⟩:=hq
   obtain⟨z,h1,h2⟩:=RN hE x y hu fi (c8 x) (c8 y)
   refine cJ hI ?_ h2
   simp only[execOp,bl]
   rw[a2h,h1]
   rfl
  .cases hq
 case h_15 op xt x bl =>
  split at hq
  .rename_i b hb
   simp only[a1w,a1y] at hq
   obtain⟨rfl,rfl,rfl⟩:=hq
   have hx:=c8 x
   rw[hb] at hx
   have hx:[a.eval x]=[.bool b]:=hx
   simp only[a1C,a1H] at hx
   exact cJ hI (x := .bool !b) (by simp[execOp,bl,hx,Op.unary]) rfl
  .rename_i k i hb
   simp only[a1w,a1y] at hq
   obtain⟨rfl,rfl,rfl⟩:=hq
   have hx:=c8 x
   rw[hb] at hx
   obtain⟨hx,_⟩:=hx
   simp only[a1C,a1H] at hx
   have hr:=fC fi
   have h0:(0:Int) - i = -i:=Int.zero_sub _
   exact cJ hI (x := .int k (-i)) (by simp[execOp,bl,hx,Op.unary,Op.intArith,h0,tv hr]) ⟨rfl,hr⟩
  .cases hq
 case h_16 src dst x bl =>
  split at hq
  .rename_i k1 r1 k2 r2 hs hd
   split at hq
   .rename_i k3 i yq
    simp only[a1w,a1y] at hq
    obtain⟨rfl,rfl,rfl⟩:=hq
    have hx:=c8 x
    rw[yq] at hx
    obtain⟨hx,_⟩:=hx
    simp only[a1C,a1H] at hx
    have hr:=fC fi
    refine cJ hI (x := .int k2 i) ?_ ⟨rfl,hr⟩
    simp[execOp,bl,hx,convert,a2w (hE.int hs),a2w (hE.int hd),Conv.intToInt,tv hr]
   .cases hq
  .cases hq
 case h_18 t i bl =>
  split at hq
  .rename_i vs ht
   split at hq
   .rename_i u hu
    simp only[a1w,a1y] at hq
    obtain⟨rfl,rfl,rfl⟩:=hq
    have hx:=c8 t
    rw[ht] at hx
    obtain⟨l,h1,h2⟩:=hx
    obtain⟨z,h3,h4⟩:=h2.at_ i u hu
    refine cJ hI (x:=z) ?_ ?_
    .simp[execOp,bl,Instr.extract,h1,h3]
    .cases u<;>first|exact h4|exact h4.elim|trivial
   .cases hq
  .cases hq
 case h_19 T l cc bl =>
  split at hq
  .rename_i d τ b e hd hT
   split at hq
   .rename_i m m' hm hm'
    simp only[a1w,a1y] at hq
    obtain⟨rfl,rfl,rfl⟩:=hq
    have hl:=c8 l
    have hc:=c8 cc
    rw[hm] at hl
    rw[hm'] at hc
    obtain⟨hl,_⟩:=hl
    obtain⟨hc,_⟩:=hc
    simp only[a1C,a1H] at hl hc
    obtain⟨cap,cs,h1,h2⟩:=Uh (c:=c) (G:=G) (lk:=lk) hE hT fi w (λ w' hk b hb=>hI.PQ hk b (.inl hb))
    refine yf hI ?_ (hI.alloc _) ⟨d,hd,rfl⟩ h2 ?_
    .simp only[execOp,bl,hl,hc,a2h,h1,a1U,a2i]
    .intro b hb
     simp only[fe,a1w] at hb
     subst hb
     simp
   .cases hq
  .cases hq
 case h_17 T x lo hi mx bl =>
  split at hq
  .rename_i τ r hT
   have hx:=c8 x
   split at hq
   .rename_i u hu
    rw[hu] at hx
    split at hq
    .rename_i xs oX
     have e:=TV.aX oX
     subst e
     split at hq
     .rename_i l h hl hh
      simp only[a1w,a1y] at hq
      obtain⟨rfl,rfl,rfl⟩:=hq
      obtain⟨ad,cap,h2,h3,h4,h5⟩:=nS hx
      obtain⟨k1,⟨b',e',k2⟩,_⟩:=hE.slice hT
      have hb:=Ji c8 true hl hh fi h3 c.P w
      obtain⟨v0,v1,v2⟩:=fi
      have cH:(execOp a.eval o).run c.P w = .ok (.value (.slice (if cap=l.toNat then ad else ad.map (·.add (l.toNat * τ.size))) (h.toNat - l.toNat) (cap - l.toNat))) w:=by
       simp only[execOp,bl,h2,Instr.sliceAt,a2h,a2w k1,a1U,Instr.slice,a4F,hb,hE.sizeOf k2,a2i]
      refine cJ hI cH ?_
      have hlen:((xs.take h.toNat).drop l.toNat).length=h.toNat - l.toNat:=by
       rw[a2H,a3f];omega
      refine UA hlen (by omega) ?_ (by omega) ?_
      .have:=hx
       obtain⟨ad',S8,m1,m2,m3,_⟩:=this
       rw[h2] at m1
       simp only[a1C,a3o,a1H] at m1
       obtain⟨_,_,rfl⟩:=m1
       omega
      .rcases a2B l.toNat h.toNat with bC|Ph
       .right
        rcases h5 with h5|⟨b,o',rfl,h6,h7⟩
        .subst h5
         simp only[a2b] at v2
         omega
        .refine⟨b,o'+l.toNat * τ.size,?_,h6,?_⟩
         .rw[a1B (by omega)]
          simp[a3v]
         .rw[List.map_drop,List.map_take]
          refine dJ.Vm _ _ _ _ (dJ.WJ _ _ _ _ h7) ?_
          intro d hd
          obtain⟨y,_,rfl⟩:=a1D.1 (List.mem_of_mem_take hd)
          exact Ty.cK τ y
       .left
        exact a2D (by omega)
     .cases hq
    .cases hq
   .cases hq
  .rename_i r hT
   have hx:=c8 x
   split at hq
   .rename_i xs hu
    rw[hu] at hx
    split at hq
    .rename_i l h hl hh
     simp only[a1w,a1y] at hq
     obtain⟨rfl,rfl,rfl⟩:=hq
     obtain⟨s,h1,h2,h3⟩:=hx
     simp only[a1C,a1H] at h1
     subst h2
     have cj:s.data.toList.length=s.size:=a2y
     rw[cj] at fi hh
     have hb:=Ji c8 false hl hh fi (a2u _) c.P w
     obtain⟨v0,v1,v2⟩:=fi
     refine cJ hI (x := .string (s.extract l.toNat h.toNat)) ?_ ⟨_,rfl,?_,?_⟩
     .have ky:¬ ((none:Option Value).isSome=true):=by simp
      simp only[execOp,bl,h1,Instr.sliceAt,a2h,a2w (hE.str hT),a1U,Instr.slice,a4F,a1B ky,hb,a2i]
     .rw[Lib.extract_data,a4K]
     .have:(s.extract l.toNat h.toNat).size<=s.size:=by
       rw[ByteArray.size_extract];omega
      omega
    .cases hq
   .cases hq
  .cases hq
 case h_20 cl bl =>
  have e7:=aJ.pI c8 cl.args.toList
  split at hq
  .rename_i ku
   split at hq
   .rename_i T v1 O7 zC
    rw[zC] at e7
    match oX:cl.args.toList.map a.eval,e7 with
    | [x],e7 =>
     have hx:=e7.1
     have GA:cl.argTypes = #[T]:=by rw[<-a2G (xs:=cl.argTypes),O7]
     have GR:cl.args.map a.eval = #[x]:=by rw[<-a2G (xs:=cl.args.map a.eval),a3H,oX]
     have zz:(execOp a.eval o)=(do let d <-resolve a.eval cl o.type;invoke d.target d.args):=by simp[execOp,bl]
     have Js:(execOp a.eval o).run c.P w=((Builtin.len_ #[T] o.type #[x]).run c.P w).andThen λ v w => .ok (.value v) w:=by
      rw[zz]
      simp[resolve,ku,invoke,builtin,GA,GR]
     split at hq
     .rename_i t r hT
      obtain⟨k1,_,_⟩:=hE.slice hT
      have QC:c.P.elem T=r.2:=by simp[Program.elem,k1]
      have cH:∀ ad len cap,x = .slice ad len cap->(execOp a.eval o).run c.P w = .ok (.value (.int .i64 len)) w:=by
       intro ad len cap hxx
       rw[Js,hxx,run_len_slice w T o.type ad len cap (by rw[QC];exact k1)]
       rfl
      have gQ:∀ m:Nat,m<=140737488355328->IntKind.i64.min<=(m:Int)/\(m:Int)<=IntKind.i64.max:=λ m hm=>fC (k := .i64) ⟨by omega,by omega⟩
      split at hq
      .simp only[a1w,a1y] at hq
       obtain⟨rfl,rfl,rfl⟩:=hq
       exact cJ hI (cH _ _ _ hx) ⟨rfl,gQ 0 (by omega)⟩
      .rename_i t' xs
       simp only[a1w,a1y] at hq
       obtain⟨rfl,rfl,rfl⟩:=hq
       obtain⟨ad,cap,h2,h3,h4,h5⟩:=nS hx
       exact cJ hI (cH _ _ _ h2) ⟨rfl,gQ _ h4⟩
      .rename_i id
       split at hq
       .rename_i e' aV xs hl
        simp only[a1w,a1y] at hq
        obtain⟨rfl,rfl,rfl⟩:=hq
        obtain⟨h2,_,_⟩:=hx
        have oo:=cu _ _ hl
        obtain⟨ad,cap,h3,_,h4,_⟩:=nS (t:=aV) (Tt (hI.aC _ _ oo) oo)
        exact cJ hI (cH _ _ _ (h2.trans h3)) ⟨rfl,gQ _ h4⟩
       .cases hq
      .cases hq
     .rename_i r hT
      split at hq
      .rename_i xs
       simp only[a1w,a1y] at hq
       obtain⟨rfl,rfl,rfl⟩:=hq
       obtain⟨s,h1,h2,h3⟩:=hx
       simp only[a1C,a1H] at h1
       subst h2
       have cj:s.data.toList.length=s.size:=a2y
       have gQ:dD .i64 (s.size:Int):=⟨by omega,by omega⟩
       refine cJ hI (x := .int .i64 s.size) ?_ ⟨by rw[cj],by rw[cj];exact fC gQ⟩
       rw[Js,h1,run_len_string w T o.type s (hE.str hT)]
       rfl
      .cases hq
     .rename_i hT
      split at hq
      .cases hq
      .cases hq
     .cases hq
   .cases hq
  .rename_i ku
   split at hq
   .rename_i d T T' hd O7
    split at hq
    .rename_i τ b e LB hT
     split at hq
     .rename_i y zC
      split at hq
      .rename_i ys L1
       simp only[a1w,a1y] at hq
       obtain⟨rfl,rfl,rfl⟩:=hq
       have LB:=a1x LB
       subst LB
       rw[zC] at e7
       match oX:cl.args.toList.map a.eval,e7 with
       | [x,z],e7 =>
        obtain⟨hx,hz,_⟩:=e7
        have hx:x = .slice none 0 0:=hx
        subst hx
        have GA:cl.argTypes = #[T,T]:=by rw[<-a2G (xs:=cl.argTypes),O7]
        have GR:cl.args.map a.eval = #[.slice none 0 0,z]:=by rw[<-a2G (xs:=cl.args.map a.eval),a3H,oX]
        have Js:(execOp a.eval o).run c.P w=((Builtin.append_ #[T,T] o.type #[.slice none 0 0,z]).run c.P w).andThen λ v w => .ok (.value v) w:=by
         simp[execOp,bl,resolve,ku,invoke,builtin,GA,GR]
        have Zv:C1 c G lk w y z:=by
         refine hz.OB ?_
         cases y with
         | az u =>
          have e:=TV.aX L1
          subst e
          rfl
         | nil=>rfl
         | row i=>rfl
         | aq i=>rfl
         | _=>cases L1
        have r6:=S6 hI.aC (Cf cu) Q4 L1 Zv
        obtain⟨v',w',news,m1,m2,m3,m4,m5,m6⟩:=Jb (w:=w) (base:=w.heap.size) hE hT (World.ownsRow_nil w _ e τ.size) (a2u _) r6 (n:=0) (by rw[a3j];exact fi) o.type
        have hk:cP (λ _=>False) w w':=⟨m3.os,m3.tape,m3.output,m3.size,λ b hb _=>m3.block b hb (by simp[Value.ownBlock])⟩
        simp only[a3j,a2K] at m2
        refine yf hI (x:=v') (w':=w') ?_ (hI.grow (S':=G.S) hk (λ _ _=>Iff.rfl) (λ b hb=>Nat.lt_of_lt_of_le (hI.ed b hb) hk.size)) ⟨d,hd,rfl⟩ ⟨news,?_,?_,by simpa using m6⟩ ?_
        .rw[Js,m1];rfl
        .exact⟨m2.1,m2.2.imp id λ ⟨g,cap,cur,q1,q2,q3⟩=>⟨g,cap,cur,q1,a3g _,q3⟩⟩
        .exact fJ.aQ (λ _ h=>h) (λ b hb=>hI.PQ hk b (.inl hb)) _ m5
        .intro b hb
         have J1:=(sr (w:=w') (v:=v') (e:=e) ⟨m2.1,m2.2.imp id λ ⟨g,cap,cur,q1,q2,q3⟩=>⟨g,cap,cur,q1,a3g _,q3⟩⟩)
         have cm:v'.ownBlock=some b:=J1.trans hb
         exact m2.lt b cm
      .cases hq
     .cases hq
    .cases hq
   .cases hq
  .rename_i f ku
   exact Jk hE hI cu hq fi e7 (λ oU=>ji bl ku rfl oU)
  .rename_i t ku
   split at hq
   .rename_i f hf
    have hx:=c8 (.tmp t)
    rw[hf] at hx
    exact Jk hE hI cu hq fi e7 (λ oU=>ji bl ku hx oU)
   .rename_i f cs hf
    have hx:=c8 (.tmp t)
    rw[hf] at hx
    exact Bt hE hI cu hq fi e7 bl ku hx
   .rename_i v hf
    have hx:=c8 (.tmp t)
    rw[hf] at hx
    exact Bt hE hI cu hq fi e7 bl ku hx
   .cases hq
  .cases hq
 case h_21 T bl =>
  cases hq
 case h_22 T x ix ok bl=>cases hq
 case h_23 fn first captured bl =>
  split at hq
  .rename_i f Xb GF
   have lU:=aJ.pI c8 captured.toList
   have cH:(execOp a.eval o).run c.P w = .ok (.value (.func (.func f) #[] (captured.toList.map a.eval).toArray)) w:=by
    have hf:first = #[]:=by rw[<-a2G (xs:=first),Xb]
    simp[execOp,bl,Instr.makeFunc,hf]
    apply a5m
    simp
   split at hq
   .rename_i uV
    simp only[a1w,a1y] at hq
    obtain⟨rfl,rfl,rfl⟩:=hq
    rw[uV] at lU
    match hl:captured.toList.map a.eval,lU with
    | [],_ =>
     rw[hl] at cH
     exact cJ hI cH rfl
   .simp only[a1w,a1y] at hq
    obtain⟨rfl,rfl,rfl⟩:=hq
    exact cJ hI cH ⟨_,rfl,lU.imp λ u y hu hy=>hy.Rt (a2e.1 GF u hu)⟩
  .cases hq
 case h_24=>cases hq
end
end Go.Proofs.YtaaamahdcpcofaaDoor

namespace Go.Proofs.YtaaamahdcpcofaaDoor
theorem CP(f:au->au):∀ (l:List (Nat×au)) (j:Nat),ae (l.map λ p=>(p.1,f p.2)) j=(ae l j).map f
 | [],_=>rfl
 | (k,o)::r,j=>by
  simp only[a2p,ae]
  split
  .rfl
  .exact CP f r j
theorem fj(id:Nat):∀ (l:List (Nat×au)) (j:Nat),ae (bK id l) j=if j=id then none else ae l j
 | [],_=>by simp[bK,ae]
 | (k,o)::r,j=>by
  simp only[bK]
  split
  .rename_i h
   have h:=a1x h
   subst h
   rw[fj k r j]
   by_cases hj:j=k
   .simp[hj]
   .rw[a1B hj,a1B hj]
    simp only[ae]
    split
    .rename_i h;exact absurd (a1x h).symm hj
    .rfl
  .rename_i h
   have hk:k≠id:=λ e=>by subst e;simp at h
   simp only[ae]
   split
   .rename_i h'
    have h':=a1x h'
    subst h'
    rw[a1B hk]
   .exact fj id r j
theorem dM(k:Nat)(o:au)(l:List (Nat×au))(j:Nat):ae ((k,o)::l) j=if j=k then some o else ae l j:=by
 simp only[ae]
 split
 .rename_i h;rw[a1S (a1x h).symm]
 .rename_i h
  have:j≠k:=λ e=>by subst e;simp at h
  rw[a1B this]
theorem rD(l:List AV)(d:Nat)(v:AV)(o:List (Nat×au)):ag.sl ⟨l.set d v,o⟩=lN l.length (ag.sl ⟨l,o⟩) (some d) v:=by
 funext i
 simp only[ag.sl,lN,a2j,a4Q,a1w]
 by_cases h:d=i
 .subst h
  by_cases hl:d<l.length
  .simp[hl]
  .simp[hl]
 .simp[h]
theorem Tv(s:ag)(d:Option Nat)(v:AV):(s.put d v).sl=lN s.ar.length s.sl d v:=by
 cases d with
 | none=>funext i;simp[ag.put,lN]
 | some d=>exact rD s.ar d v s.aC
theorem N9(s:ag)(d:Option Nat)(v:AV):(s.put d v).ae=s.ae:=by cases d<;>rfl
theorem B6(s:ag)(d:Option Nat)(v:AV):(s.put d v).ar.length=s.ar.length:=by cases d<;>simp[ag.put]
theorem Oy(s:ag)(id:Nat):(s.b8 id).sl=λ i=>(s.sl i).kill id:=by
 funext i
 simp only[ag.sl,ag.b8,a2j,a3d]
 cases s.ar[i]?<;>simp[AV.kill,AV.refs]
theorem eU(s:ag)(id:Nat):(s.b8 id).ae=λ i=>(s.ae i).map (au.kill id):=by
 funext i;exact CP _ _ _
section
variable {c:Ctx} {G:Gh} {s:ag} {a:Act} {w w':World}
theorem Inv.put(h:Inv c G s a w){d:Option Nat}{v:AV}{x:Value}(hv:VR c G s.ae w v x):Inv c G (s.put d v) (a.put d x) w:=by
 unfold Inv
 rw[Tv,N9,B6]
 exact bc.put h hv
theorem Inv.clear(h:Inv c G s a w)(id:Nat):bc c G (s.b8 id).sl s.ar.length (λ i=>if i=id then none else (s.b8 id).ae i) a w /\
  (∀ i,((s.b8 id).sl i).refs id=false)/\∀ i o,(s.b8 id).ae i=some o->o.refs id=false:=by
 have h1:=bc.b8 h id
 have hs:∀ i,((s.b8 id).sl i).refs id=false:=λ i=>by rw[Oy];exact zF id _
 have ho:∀ i o,(s.b8 id).ae i=some o->o.refs id=false:=λ i o cr=>by
  rw[eU] at cr
  simp only[a2r] at cr
  obtain⟨o',_,rfl⟩:=cr
  cases o' with
  | box cs=>exact Cp id cs
  | row e τ xs=>rfl
  | aq τ xs=>rfl
  | map m=>rfl
 refine⟨?_,hs,ho⟩
 rw[Oy,eU]
 exact bc.W1 h1 id (λ i=>zF id _) (λ i o cr _=>by
  have:=ho i o (by rw[eU];exact cr)
  exact this)
theorem Ni(id:Nat)(o:au):(o.kill id).refs id=false:=by
 cases o with
 | box cs=>exact Cp id cs
 | row e τ xs=>rfl
 | aq τ xs=>rfl
 | map m=>rfl
theorem Inv.Tl(h:Inv c G s a w){id:Nat}{v:AV}{o:au}{x:Value}(bC:id<400000)(hN:S5 c G s.ae w x o)(hL:LV (some id) v o)
  (kY:∀ b,fe x=some b->(c.w0.heap.size<=b\/c.X b)/\¬ G.S b/\b<w.heap.size/\(∀ i o',i≠id->s.ae i=some o'->fe (G.η i)≠some b)/\∀ j τ xs,s.ae j=some (.aq τ xs)->b∉G.φ j) :
  Inv c ⟨G.S,λ i=>if i=id then x else G.η i,G.φ⟩ (s.lay (some id) v (some o)) (a.put (some id) x) w:=by
 obtain⟨h1,h2,h3⟩:=h.clear id
 have cu:(s.lay (some id) v (some o)).ae=λ i=>if i=id then some (o.kill id) else (if i=id then none else (s.b8 id).ae i):=by
  funext i
  show ae ((id,o.kill id)::bK id (s.b8 id).aC) i=_
  rw[dM,fj]
  rfl
 have Dw:(s.lay (some id) v (some o)).sl=lN s.ar.length (s.b8 id).sl (some id) v:=by
  have:=rD (s.b8 id).ar id v ((id,o.kill id)::bK id (s.b8 id).aC)
  rw[show (s.b8 id).ar.length=s.ar.length from by simp[ag.b8]] at this
  exact this
 have hlen:(s.lay (some id) v (some o)).ar.length=s.ar.length:=by simp[ag.lay,ag.b8]
 have rM:OR c ⟨G.S,λ i=>if i=id then x else G.η i,G.φ⟩ (λ i=>if i=id then some (o.kill id) else (if i=id then none else (s.b8 id).ae i)) w id (o.kill id):=by
  cases o with
  | box cs =>
   obtain⟨b,l,t,k1,k2,k3⟩:=hN
   refine⟨b,l,t,by simp[k1],k2,aJ.fG _ (k3.imp λ u y _ hy=>?_)⟩
   refine (hy.kill id).mono (λ j hj=>?_) (λ _ h=>h) (λ _ _=>rfl)
   have fP:j≠id:=λ e=>by subst e;rw[zF] at hj;cases hj
   simp only[a1B fP]
   exact⟨by rw[eU];exact Fs id _,trivial⟩
  | row e τ xs =>
   obtain⟨l,k1,k2,k3⟩:=hN
   exact⟨l,by simpa using k1,k2,k3⟩
  | aq τ xs=>exact hN.elim
  | map m =>
   obtain⟨b,es,clock,k1,k2,k3⟩:=hN
   exact⟨b,es,clock,by simp[k1],k2,k3⟩
 have QM:cp (some (o.kill id))=false:=by
  cases o with
  | aq τ xs=>exact hN.elim
  | _=>rfl
 have h4:=bc.newObj h1 id (o.kill id) x (by simp) h2 (λ i p uh=>by
  by_cases hi:i=id
  .simp[hi] at uh
  .rw[a1B hi] at uh
   exact h3 i p uh) (Ni id o) rM QM (.inr bC) (λ b hb=>by
  obtain⟨q1,q2,q3,q4,q5⟩:=kY b hb
  refine⟨q1,q2,q3,λ i p uh=>?_,λ j τ xs hj=>?_⟩
  .by_cases hi:i=id
   .simp[hi] at uh
   .rw[a1B hi,eU] at uh
    simp only[a2r] at uh
    obtain⟨p',LQ,_⟩:=uh
    exact q4 i p' hi LQ
  .by_cases hi:j=id
   .simp[hi] at hj
   .rw[a1B hi,eU] at hj
    exact q5 j τ xs (lv hj))
 unfold Inv
 rw[Dw,cu,hlen]
 refine bc.put h4 ?_
 cases o with
 | box cs =>
  obtain⟨i,hi,rfl⟩:=hL
  simp only[a1w] at hi
  subst hi
  obtain⟨b,l,t,k1,k2,k3⟩:=hN
  exact⟨b,by simp[k1],k1,by simp[au.kill,im]⟩
 | row e τ xs =>
  obtain⟨i,hi,rfl⟩:=hL
  simp only[a1w] at hi
  subst hi
  obtain⟨l,k1,k2,k3⟩:=hN
  refine⟨by simp,by simp[au.kill,isRow],?_⟩
  rcases k1.2 with ⟨rfl,_⟩|⟨g,cap,cur,rfl,_⟩
  .exact⟨_,_,_,rfl⟩
  .exact⟨_,_,_,rfl⟩
 | aq τ xs=>exact hN.elim
 | map m =>
  obtain⟨i,hi,rfl⟩:=hL
  simp only[a1w] at hi
  subst hi
  obtain⟨b,es,clock,k1,k2,k3⟩:=hN
  exact⟨by simp,by simp[au.kill,E6],b,k1⟩
theorem L7(h0:Inv c G s a w){d:Option Nat}(EV:tz d=true){v:AV}{ob:Option au}{a':Act}(h:vQ c G s.sl s.ar.length s.ae d a w v ob a' w'):∃ G',Inv c G' (s.lay d v ob) a' w':=by
 obtain⟨x,S',rfl,hI,hx⟩:=h
 cases ob with
 | none=>exact⟨_,by cases d<;>exact Inv.put (s:=s) hI hx⟩
 | some o =>
  obtain⟨hL,hN,hb⟩:=hx
  have hd:∃ i,d=some i:=by cases o<;>first|exact⟨_,hL.choose_spec.1⟩|exact hL.elim
  obtain⟨i,rfl⟩:=hd
  refine⟨_,Inv.Tl (s:=s) hI (a2n EV) hN hL λ b LI=>?_⟩
  obtain⟨h1,h2,h3⟩:=hb b LI
  have hle:=h0.aQ.size
  refine⟨by omega,h3,h2,λ j o' _ hj JX=>?_,λ j τ xs hj JX=>?_⟩
  .have:=(h0.place j o' b hj JX).2.2
   omega
  .have:=(h0.aI.pl j τ xs b hj JX).2.2.1
   omega
theorem Qm{k:IntKind}{n:Int}(h:Li k n=true):k.min<=n/\n<=k.max:=by
 unfold Li at h
 split at h
 .rename_i m
  split at h<;>have h:=a2n h<;>try (simp[IntKind.min,IntKind.max,IntKind.signed,IntKind.bits];omega)
  cases k<;>simp_all [IntKind.min,IntKind.max,IntKind.signed,IntKind.bits]<;>omega
 .rename_i m
  split at h
  .have h:=a2n h
   simp[IntKind.min,IntKind.max,IntKind.signed,IntKind.bits]
   omega
  .cases h
theorem DO(lk:Nat->Option au)(v:Value):C1 c G lk w (F7 v) v:=by
 unfold F7
 split
 .split
  .rename_i h
   exact⟨rfl,rfl,Qm h⟩
  .trivial
 .exact⟨rfl,rfl⟩
 .split
  .rename_i sv _ h
   have h:=a2n h
   exact⟨rfl,sv,rfl,rfl,by have:sv.size=sv.data.size:=rfl;omega⟩
  .trivial
 .rfl
 .trivial
theorem bf(h:Inv c G s a w)(x:Operand):VR c G s.ae w (s.eval x) (a.eval x):=by
 cases x with
 | tmp t=>exact h.ar t
 | const v =>
  simp only[ag.eval,Act.eval]
  unfold Ql
  split
  .rename_i cs
   refine⟨cs.toList,rfl,aJ.fG _ ?_⟩
   have:∀ l:List Value,aJ (λ u y=>C1 c G s.ae w (F7 u) y) l l:=by
    intro l
    induction l with
    | nil=>trivial
    | cons u r ih=>exact⟨DO _ u,ih⟩
   exact this _
  .rename_i cs
   split
   .rename_i hz
    have:cs = #[]:=a3W (a1x hz)
    subst this
    exact rfl
   .trivial
  .exact (DO _ v).iA
 | global g=>trivial
 | func f=>rfl
theorem om{g:Nat}{Up cs:Array Value}{t:TypeId}{fr:Nat×Nat}(w:World)(hg:w.heap[g]?=some (.cells Up t fr))(k:Nat)(hk:k≠g):(w.setRow g cs).heap[k]?=w.heap[k]?:=setRow_other w g k cs hk
theorem zY(hE:bD c.P c.E){T:TypeId}{τ:Ty}{b e:Nat}(hT:ae c.E.ty T=some (τ,b,e)){g o:Nat}{l:List Value}{t:TypeId}{x:Value}(hg:w.heap[g]?=some (.cells l.toArray t (0,0)))
  (hx:x.cells.toList.length=τ.size) (h1:∀ u∈x.cells.toList,u.oneCell'=true) (BM:o+τ.size<=l.length) :
  (Instr.storeAt T (.pointer (some ⟨g,o,none⟩)) x).run c.P w = .ok () (w.setRow g (l.take o++x.cells.toList++l.drop (o+τ.size)).toArray):=by
 have hn:¬ (x.cells.size≠τ.size):=by simpa using hx
 simp only[Instr.storeAt,Instr.sureAddr,storeVar,a2h,a2i,a1U,hE.sizeOf hT,a1B hn]
 have:=run_storeCells_at c.P g o t x.cells.toList 0 l.toArray w hg (by simp at hx ⊢;omega) h1
 simpa [hx] using this
theorem Nk{cs new dV:List AV}{off:Nat}(h:putCells cs off new=some dV):off+new.length<=cs.length/\dV=cs.take off++(new++cs.drop (off+new.length)):=by
 unfold putCells at h
 split at h
 .rename_i hb
  simp only[a1w] at h
  exact⟨a2n hb,h.symm⟩
 .cases h
theorem Inv.store(hE:bD c.P c.E)(h:Inv c G s a w){T:TypeId}{τ:Ty}{bt e:Nat}(hT:ae c.E.ty T=some (τ,bt,e)){id off:Nat}{cs new dV:List AV}{x p:Value}(aN:s.ae id=some (.box cs))(hp:VR c G s.ae w (.ptr id off) p)
  (rM:∃ v,cellsOf τ v=some new/\VR c G s.ae w v x) (uW:putCells cs off new=some dV) :
  ∃ w',(Instr.storeAt T p x).run c.P w = .ok () w'/\Inv c G { s with aC:=(id, .box dV)::bK id s.aC } a w':=by
 obtain⟨v,hv,hx⟩:=rM
 obtain⟨h1,h2,h3⟩:=wZ hv hx
 obtain⟨h4,rfl⟩:=Nk uW
 obtain⟨b,k1,rfl,_⟩:=hp
 obtain⟨b',l,t,k2,k3,k4⟩:=h.aC id _ aN
 rw[k1] at k2
 simp only[a4p,a1w,a3y,a1H] at k2
 subst k2
 have hlen:=h1.length
 have T3:=k4.length
 have cH:=zY (c:=c) hE hT (o:=off) (x:=x) k3 (by omega) h2 (by omega)
 refine⟨_,cH,?_⟩
 have Dw:ag.sl { s with aC:=(id, .box (cs.take off++(new++cs.drop (off+new.length))))::bK id s.aC }=s.sl:=rfl
 have cu:ag.ae { s with aC:=(id, .box (cs.take off++(new++cs.drop (off+new.length))))::bK id s.aC }=λ i=>if i=id then some (.box (cs.take off++(new++cs.drop (off+new.length)))) else s.ae i:=by
  funext i
  show ae (_::bK id s.aC) i=_
  rw[dM,fj]
  by_cases hi:i=id
  .simp[hi]
  .simp[hi];rfl
 unfold Inv
 rw[Dw,cu]
 have cy:∀ k,St c G.S k->(w.setRow b (l.take off++x.cells.toList++l.drop (off+τ.size)).toArray).heap[k]?=w.heap[k]?:=λ k hk=>om w k3 k λ e=>by
  subst e
  obtain⟨q1,q2,q3⟩:=h.place id _ k aN (by rw[k1];rfl)
  rcases hk with hk|hk
  .exact q2 hk
  .exact q1.elim (λ q=>by omega) hk.2.1
 have fQ:∀ j,ft (s.ae j) ((λ i=>if i=id then some (au.box (cs.take off++(new++cs.drop (off+new.length)))) else s.ae i) j):=λ j=>by
  by_cases hj:j=id
  .subst hj
   simp only[a3z]
   exact⟨λ _=>rfl,(λ e τ xs hh=>by rw[aN] at hh;cases hh),(λ hh=>by rw[aN] at hh;cases hh),λ hh=>by rw[aN] at hh;cases hh⟩
  .simp only[a1B hj];exact ft.refl _
 refine bc.Pw h id _ _ b aN (by rw[k1];rfl) ⟨λ _=>rfl,(λ e τ xs hh=>by cases hh),(λ hh=>by cases hh),λ hh=>by cases hh⟩ rfl (λ k hk=>om w k3 k hk) rfl rfl rfl (by simp[World.setRow]) ?_
 refine⟨b,_,t,k1,a5B w b _ _ t _ k3,?_⟩
 have key:aJ (C1 c G s.ae w) (cs.take off++(new++cs.drop (off+new.length))) (l.take off++x.cells.toList++l.drop (off+τ.size)):=by
  rw[a2t,<-h3]
  exact aJ.append (k4.take off) (aJ.append h1 (k4.drop _))
 exact key.imp λ u y _ hy=>hy.mono (λ j _=>⟨fQ j,rfl⟩) (λ _ h=>h) cy
theorem L9(cur dc:List Value)(o sz N:Nat)(hv:dc.length=sz)(hN:o+sz<=N)(hc:N<=cur.length) :
  (cur.take o++dc++cur.drop (o+sz)).take N=(cur.take N).take o++dc++(cur.take N).drop (o+sz):=by
 have h1:(cur.take o++dc).length=o+sz:=by simp[hv];omega
 rw[a4V,h1,a2F (by omega),List.take_take,Nat.min_eq_left (by omega),a4K]
theorem fJ.Yl{S:Nat->Prop}{n:Nat}{d':D}{c':List Value}(hd:Rd w S d' c')(xe:c'.length=n):∀ (ds:List D) {l:List Value} (i:Nat),fJ w S ds l->(∀ d∈ds,d.size=n)->i<ds.length->fJ w S (ds.set i d') (l.take (i * n)++c'++l.drop (i * n+n))
 | [],l,i,_,_,hi=>by simp at hi
 | e::ds,l,0,h,hn,_=>by
  obtain⟨c1,r,rfl,h2,h3⟩:=h
  have hc:c1.length=n:=by rw[Rd.length _ h2];exact hn _ (by simp)
  refine⟨c',r,?_,hd,h3⟩
  simp only[a4E,a3R,a2K,a3j]
  rw[<-hc,a3E]
 | e::ds,l,i+1,h,hn,hi=>by
  obtain⟨c1,r,rfl,h2,h3⟩:=h
  have hc:c1.length=n:=by rw[Rd.length _ h2];exact hn _ (by simp)
  refine⟨c1,r.take (i * n)++c'++r.drop (i * n+n),?_,h2,fJ.Yl hd xe ds i h3 (λ d hd=>hn d (by simp[hd])) (by simpa using hi)⟩
  have e1:(i+1) * n=c1.length+i * n:=by rw[a2C,hc];omega
  rw[e1,a4V,a2F (by omega),show c1.length+i * n - c1.length=i * n by omega,a4o,List.drop_append,a3u (by omega),a2K,
   show c1.length+(i * n+n) - c1.length=i * n+n by omega]
  simp
theorem Inv.UE(hE:bD c.P c.E)(h:Inv c G s a w){T:TypeId}{τ:Ty}{bt e:Nat}(hT:ae c.E.ty T=some (τ,bt,e)){id i:Nat}{e':TypeId}{xs:List τ.den}{v:AV}{y:τ.den}{x p:Value}(aN:s.ae id=some (.row e' τ xs))
  (hp:VR c G s.ae w (.fh id i 0) p) (hx:VR c G s.ae w v x) (hy:AQ (λ _=>none) τ v=some y) :
  ∃ w',(Instr.storeAt T p x).run c.P w = .ok () w'/\Inv c G { s with aC:=(id, .row e' τ (xs.set i y))::bK id s.aC } a w':=by
 obtain⟨b,n,cap,e1,Nr,Nq,k1,k2,k3,rfl⟩:=hp
 rw[aN] at k2
 simp only[a1w,au.row.injEq] at k2
 obtain⟨rfl,rfl,k2⟩:=k2
 have k2:=a5c k2
 subst k2
 have hr:=(FT hy hx).cells
 have uj:x.cells.toList.length=τ.size:=by
  have:=Rd.length _ hr
  rwa [show TV.aT ⟨τ,y⟩=τ.aT y from rfl,Ty.cK] at this
 have BQ:∀ u∈x.cells.toList,u.oneCell'=true:=Rd.sq (x:=y) hr
 obtain⟨l,m1,m2,m3⟩:=h.aC id _ aN
 have cj:∀ d∈xs.map τ.aT,d.size=τ.size:=by
  intro d hd
  obtain⟨z,_,rfl⟩:=a1D.1 hd
  exact Ty.cK τ z
 have T3:=fJ.length _ m2 cj
 simp only[a2J] at T3
 have BM:i * τ.size+τ.size<=xs.length * τ.size:=by
  have:=a3A τ.size (show i+1<=xs.length by omega)
  rw[a2C] at this
  omega
 rcases m1.2 with ⟨hv,_⟩|⟨g,S8,cur,hv,_,hh,JZ,R8,lU,V0⟩
 .rw[k1] at hv;cases hv
 .rw[k1] at hv
  simp only[a3o,a1w,a3y,a1H] at hv
  obtain⟨rfl,rfl,rfl⟩:=hv
  have Dr:xs.length * τ.size<=cur.toList.length:=by
   rw[a2y (xs:=cur),lU];exact a3A _ JZ
  have cH:=zY (c:=c) (l:=cur.toList) hE hT (o:=i * τ.size+0) (x:=x) (by simpa using hh) uj BQ (by omega)
  refine⟨_,cH,?_⟩
  have cu:ag.ae { s with aC:=(id, .row e' τ (xs.set i y))::bK id s.aC }=λ j=>if j=id then some (.row e' τ (xs.set i y)) else s.ae j:=by
   funext j
   show ae (_::bK id s.aC) j=_
   rw[dM,fj]
   by_cases hj:j=id
   .simp[hj]
   .simp[hj];rfl
  unfold Inv
  rw[cu]
  refine bc.Pw h id _ _ b aN (by rw[k1];rfl) ⟨λ hh=>(by cases hh),λ e2 mD oH hh=>?_,(λ hh=>by cases hh),λ hh=>by cases hh⟩ rfl (λ k hk=>om w hh k hk) rfl rfl rfl (by simp[World.setRow]) ?_
  .simp only[a1w,au.row.injEq] at hh
   obtain⟨rfl,rfl,hh⟩:=hh
   have hh:=a5c hh
   subst hh
   exact⟨_,_,rfl,by simp⟩
  .refine⟨(l.take (i * τ.size)++x.cells.toList++l.drop (i * τ.size+τ.size)),⟨?_, .inr ⟨b,cap,_,by simpa using k1,Nat.zero_le _,setRow_heap w b cur _ e' _ hh,by simpa using JZ,R8,?_,?_⟩⟩,?_,by simpa using m3⟩
   .rw[a3r,a1T,a1T,a3f,a2H,uj,T3];omega
   .rw[List.size_toArray,a1T,a1T,a3f,a2H,uj,<-lU,<-a2y (xs:=cur)];omega
   .simp only[a3w,a3r]
    rw[L9 _ _ _ _ _ uj BM Dr,V0]
   .rw[a4v]
    have:=fJ.Yl hr (by rw[uj]) _ i m2 cj (by simpa using k3)
    refine fJ.aQ (λ _ h=>h) (λ k hk=>om w hh k λ e=>?_) _ this
    subst e
    exact (h.place id _ k aN (by rw[k1];rfl)).2.1 hk
theorem Inv.KE(hE:bD c.P c.E)(h:Inv c G s a w){T:TypeId}{κ ε:Ty}(hT:ae c.E.Q2 T=some (κ,ε)){id:Nat}{f:κ.den->Option ε.den}{n:Nat}(aN:s.ae id=some (.map ⟨κ,ε,f,n⟩))
  {k:κ.den} {x:ε.den} {p y z:Value} (hp:VR c G s.ae w (.mp id) p) (hy:fM w G.S ⟨κ,k⟩ y) (hz:fM w G.S ⟨ε,x⟩ z) (hn:n<1000000000) :
  ∃ w',(Instr.mapUpdate T p y z).run c.P w = .ok () w'/\Inv c G { s with aC:=(id, .map ⟨κ,ε,Eb f k x,JC (f k) n⟩)::bK id s.aC } a w':=by
 obtain⟨kT,eT,u1,u2,u3,u4,_⟩:=hE.map hT w
 obtain⟨b,es,clock,k1,k2,k3⟩:=h.aC id _ aN
 have sc:∀ {τ:Ty} {q:τ.den} {v:Value},τ.key=true->fM w G.S ⟨τ,q⟩ v->ua τ q v:=λ {τ q v} hs hv=>by
  refine ua.of (w:=w) (S:=G.S) hs ?_
  cases τ with
  | int _=>exact hv
  | bool=>exact hv
  | str=>exact hv
  | _=>cases hs
 obtain⟨Vn,Ky,m1,m2⟩:=k3.store (P:=c.P) u1 u2 k2 (sc u3 hy) (sc u4 hz) hn
 obtain⟨QN,_⟩:=hp
 refine⟨_,by rw[QN,k1];exact m1,?_⟩
 have cu:ag.ae { s with aC:=(id, .map ⟨κ,ε,Eb f k x,JC (f k) n⟩)::bK id s.aC }=λ i=>if i=id then some (.map ⟨κ,ε,Eb f k x,JC (f k) n⟩) else s.ae i:=by
  funext i
  show ae ((id,_)::bK id s.aC) i=_
  rw[dM,fj]
  by_cases hi:i=id
  .simp[hi]
  .simp[hi];rfl
 unfold Inv
 rw[cu]
 obtain⟨q1,q2⟩:=MapKept.heap_set (o' := .map Vn Ky) k2
 refine bc.Pw h id _ _ b aN (by rw[k1];rfl) ⟨λ hh=>(by cases hh),(λ e τ xs hh=>by cases hh),(λ hh=>by cases hh),λ _=>rfl⟩ rfl q2 rfl rfl rfl (by simp) ?_
 exact⟨b,Vn,Ky,k1,q1,m2⟩
theorem Inv.append(hE:bD c.P c.E)(h:Inv c G s a w){T:TypeId}{τ:Ty}{bt e id d:Nat}(hT:ae c.E.ty T=some (.slice τ,bt,e)){xs ys:List τ.den}{y:AV}{v z:Value}(aN:s.ae id=some (.row e τ xs))
  (hv:VR c G s.ae w (.row id) v) (hz:VR c G s.ae w y z) (hy:lG (Ha s.ae) (.slice τ) y=some ys) (zA:fI (xs.length+ys.length) bt) (ty:TypeId) :
  ∃ v' w' G',(Builtin.append_ #[T,T] ty #[v,z]).run c.P w = .ok v' w' /\
   Inv c G' { ar:=(s.b8 id).ar.set d (.row id),aC:=(id, .row e τ (xs++ys))::bK id (s.b8 id).aC } (a.put (some d) v') w':=by
 obtain⟨rfl,_,_⟩:=hv
 have Zv:C1 c G s.ae w y z:=by
  refine hz.OB ?_
  cases y with
  | az u =>
   have e:=TV.aX hy
   subst e
   rfl
  | nil=>rfl
  | row i=>rfl
  | aq i=>rfl
  | _=>cases hy
 obtain⟨l,m1,m2,m3⟩:=h.aC id _ aN
 obtain⟨v',w',news,k1,k2,k3,k4,k5,k6⟩:=Jb (w:=w) (base:=0) hE hT m1 (a3g _) (S6 h.aC (Cf λ _ _ h=>h) Q4 hy Zv) zA ty
 have J1:=sr m1
 have Yf:=sr k2
 obtain⟨h1,h2,h3⟩:=h.clear id
 have lJ:∀ b,fe (G.η id)=some b->(c.w0.heap.size<=b\/c.X b)/\¬ G.S b/\b<w.heap.size:=λ b hb=>h.place id _ b aN hb
 have hw:∀ b,b<w.heap.size->fe (G.η id)≠some b->w'.heap[b]?=w.heap[b]?:=λ b hb fP=>k3.block b hb (by rw[J1];exact λ e=>fP e.symm)
 have cy:∀ b,St c G.S b->w'.heap[b]?=w.heap[b]?:=λ b hb=>by
  refine hw b ?_ λ e=>?_
  .rcases hb with hb|hb
   .exact h.ed b hb
   .exact a2c hb.1 h.aQ.size
  .obtain⟨q1,q2,q3⟩:=lJ b e
   rcases hb with hb|hb
   .exact q2 hb
   .exact q1.elim (λ q=>by omega) hb.2.1
 have a0E:∀ j τ xs b,s.ae j=some (.aq τ xs)->b∈G.φ j->w'.heap[b]?=w.heap[b]?:=λ j τ xs b hj hb =>
  hw b (h.aI.pl j τ xs b hj hb).2.2.1 ((h.aI.pl j τ xs b hj hb).2.2.2 id _ aN)
 have yp:∀ j o b,j≠id->s.ae j=some o->fe (G.η j)=some b->w'.heap[b]?=w.heap[b]?:=λ j o b hj ho hb=>by
  refine hw b (h.place j o b ho hb).2.2 λ e=>?_
  exact hj (h.apart j id o _ b ho aN hb e)
 have h4:bc c ⟨G.S,G.η,G.φ⟩ (s.b8 id).sl s.ar.length (λ i=>if i=id then none else (s.b8 id).ae i) a w':=by
  refine h1.world (S':=G.S) ⟨k3.os,k3.tape,k3.output,k3.size,λ b hb hx=>hw b hb λ e=>hx (lJ b e).1⟩ (λ _ h=>h) (λ _ _=>a3G) h1.sX (λ b hb=>a2c (h1.ed b hb) k3.size) cy ?_ (λ j τ xs b hj hb=>by
   by_cases qX:j=id
   .simp[qX] at hj
   .rw[a1B qX,eU] at hj
    exact a0E j τ xs b (lv hj) hb)
  intro j o b hj hb
  by_cases qX:j=id
  .simp[qX] at hj
  .rw[a1B qX,eU] at hj
   simp only[a2r] at hj
   obtain⟨o',cF,_⟩:=hj
   exact yp j o' b qX cF hb
 have Za:((xs++ys).length)=xs.length+ys.length:=by simp
 have h5:=bc.newObj h4 id (.row e τ (xs++ys)) v' (by simp) h2 (λ i p uh=>by
  by_cases hi:i=id
  .simp[hi] at uh
  .rw[a1B hi] at uh
   exact h3 i p uh) rfl ⟨l++news,by simpa using k2,by
    rw[a3s]
    exact fJ.append _ _ (fJ.aQ (λ _ h=>h) (λ b hb=>cy b (.inl hb)) _ m2) (fJ.aQ (λ _ h=>h) (λ b hb=>cy b (.inl hb)) _ k5),by rw[Za];exact k6⟩ rfl (.inl rfl) (λ b hb=>by
  have bC:=(k2.lt b (Yf.trans hb)).2
  have uP:fe (G.η id)=some b\/b=w.heap.size:=by
   rw[<-Yf,] at hb
   rcases k4 with q|q
   .left;rw[<-J1,<-q];exact hb
   .right;rw[q] at hb;exact (a3M hb).symm
  refine⟨?_,?_,bC,λ j p TZ JX=>?_,λ j mD oH GJ JX=>?_⟩
  .rcases uP with q|q
   .exact (lJ b q).1
   .have:=h.aQ.size;omega
  .rcases uP with q|q
   .exact (lJ b q).2.1
   .intro hs;have:=h.ed b hs;omega
  .by_cases qX:j=id
   .simp[qX] at TZ
   .rw[a1B qX,eU] at TZ
    simp only[a2r] at TZ
    obtain⟨o',cF,_⟩:=TZ
    rcases uP with q|q
    .exact qX (h.apart j id o' _ b cF aN JX q)
    .have:=(h.place j o' b cF JX).2.2
     omega
  .by_cases qX:j=id
   .simp[qX] at GJ
   .rw[a1B qX,eU] at GJ
    obtain⟨_,_,q3,q4⟩:=h.aI.pl j mD oH b (lv GJ) JX
    rcases uP with q|q
    .exact q4 id _ aN q
    .omega)
 refine⟨v',w',⟨G.S,λ i=>if i=id then v' else G.η i,G.φ⟩,k1,?_⟩
 unfold Inv
 have cu:ag.ae { ar:=(s.b8 id).ar.set d (.row id),aC:=(id, .row e τ (xs++ys))::bK id (s.b8 id).aC }=λ i=>if i=id then some (.row e τ (xs++ys)) else (if i=id then none else (s.b8 id).ae i):=by
  funext i
  show ae (_::bK id (s.b8 id).aC) i=_
  rw[dM,fj]
  rfl
 have Dw:ag.sl { ar:=(s.b8 id).ar.set d (.row id),aC:=(id, .row e τ (xs++ys))::bK id (s.b8 id).aC }=lN s.ar.length (s.b8 id).sl (some d) (.row id):=by
  have:=rD (s.b8 id).ar d (.row id) ((id, .row e τ (xs++ys))::bK id (s.b8 id).aC)
  rw[show (s.b8 id).ar.length=s.ar.length from by simp[ag.b8]] at this
  exact this
 rw[Dw,cu,show ({ ar:=(s.b8 id).ar.set d (.row id),aC:=(id, .row e τ (xs++ys))::bK id (s.b8 id).aC }:ag).ar.length=s.ar.length from by simp[ag.b8]]
 refine bc.put h5 ⟨by simp,by simp[isRow],?_⟩
 rcases k2.2 with ⟨rfl,_⟩|⟨g,cap,cur,rfl,_⟩
 .exact⟨_,_,_,rfl⟩
 .exact⟨_,_,_,rfl⟩
end
end Go.Proofs.YtaaamahdcpcofaaDoor

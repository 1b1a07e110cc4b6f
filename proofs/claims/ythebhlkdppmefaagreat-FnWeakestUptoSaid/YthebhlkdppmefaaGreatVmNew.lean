/- Calls that make a variable and hand back a pointer to it: spec.l00From. -/
import Derived.Test.YthebhlkdppmefaaGreatVmTab
import Derived.WalkKit
set_option linter.unusedVariables false
set_option maxRecDepth 4000
set_option maxHeartbeats 4000000
namespace Go.Proofs.YthebhlkdppmefaaGreat
open Go.RowKit Go.Proofs
set_option maxRecDepth 100000 in
theorem h9j(a:Option Addr)(n m:Nat)(w:World) :
  Calls prog c3m #[.slice a n m] w fun e w'=>e = .returned (.pointer (some ⟨w.heap.size,0,none⟩))∧w'=w.alloc (.cells #[.slice a n m, .int .i64 0, .int .u64 0] 86):=by
 go_enter Tryz.func13,Tryz.ntmps13
 go_wp2
 go_ret
 exact⟨rfl,rfl⟩
def d3c:Nat→List Arg→Option (Vc×List TV):=fun f zs=>match Nat.beq f c3m with
 | true=>match zs with
  | [.val ⟨.slice (.int .u8),code⟩]=>some (.none,[⟨.slice (.int .u8),code⟩,⟨.int .i64,(0:Int)⟩,⟨.int .u64,(0:Int)⟩])
  | _=>none
 | false=>none
theorem i1t(code:List Int):h7d prog c3m [.val ⟨.slice (.int .u8),code⟩] [⟨.slice (.int .u8),code⟩,⟨.int .i64,(0:Int)⟩,⟨.int .u64,(0:Int)⟩]:=by
 intro w S vals hS ha
 match vals,ha with
 | [v],ha =>
  have h1:Rd w S (TV.toD ⟨.slice (.int .u8),code⟩) [v]:=ha.1
  obtain⟨a,c,e,_⟩:=id h1
  simp only[List.cons.injEq,and_true] at e
  rw[show (List.map (Ty.int IntKind.u8).toD code).length=code.length from List.length_map _] at e
  subst e
  refine (h9j a _ c w).mono ?_
  rintro e w' ⟨rfl,rfl⟩
  have hk:=b0f w (.cells #[.slice a code.length c, .int .i64 0, .int .u64 0] 86)
  refine⟨w.heap.size,S,[_, .int .i64 0, .int .u64 0],86,rfl,hk,fun _ _=>Iff.rfl,fun k hk'=>Nat.lt_of_lt_of_le (hS.1 k hk') hk.size,⟨Nat.le_refl _,by simp,fun q=>Nat.lt_irrefl _ (hS.1 _ q)⟩,by simpa using heap_alloc_new w _,?_⟩
  refine⟨⟨rfl,Rd.keep (fun _ h=>h) (fun b hb=>hk.block b (hS.1 b hb) fun h=>h) _ h1⟩,⟨rfl,?_⟩,⟨rfl,?_⟩,trivial⟩
  ·exact⟨rfl,by decide,by decide⟩
  ·exact⟨rfl,by decide,by decide⟩
theorem h1d:∀ f args pre cells,d3c f args=some (pre,cells)→pre.ok→b4h prog f∧h7d prog f args cells:=by
 intro f args pre cells h _
 unfold d3c at h
 split at h
 ·rename_i hf
  have hf:=Nat.eq_of_beq_eq_true hf
  subst hf
  split at h
  ·simp only[Option.some.injEq,Prod.mk.injEq] at h
   obtain⟨rfl,rfl⟩:=h
   exact⟨⟨_,g3w,rfl,by decide⟩,i1t _⟩
  ·cases h
 ·cases h
end Go.Proofs.YthebhlkdppmefaaGreat

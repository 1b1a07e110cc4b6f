/- Calls that make a variable or a slice: spec.l00From, slices.Clone of programs. -/
import Derived.Test.YtlaoejdeanljgaaVmTab
import Derived.WalkKit
import Derived.Lib.Walk
import Derived.Lib.SliceRun
import Derived.Deep.LoopGhost
set_option linter.unusedVariables false
set_option maxRecDepth 4000
set_option maxHeartbeats 4000000
namespace Go.Proofs.Ytlaoejdeanljgaa
open Go.RowKit Go.Proofs
set_option maxRecDepth 100000 in
theorem g4v(a:Option Addr)(n m:Nat)(w:World) :
  Calls prog b9f #[.slice a n m] w fun e w'=>e = .returned (.pointer (some ⟨w.heap.size,0,none⟩))∧w'=w.alloc (.cells #[.slice a n m, .int .i64 0, .int .u64 0] 91):=by
 go_enter Try.func19,Try.ntmps19
 go_wp2
 go_ret
 exact⟨rfl,rfl⟩
def c6e:Nat→List Arg→Option (Vc×f9a):=fun f zs=>match Nat.beq f b9f with
 | true=>match zs with
  | [.val ⟨.slice (.int .u8),code⟩]=>some (.none, .box [⟨.slice (.int .u8),code⟩,⟨.int .i64,(0:Int)⟩,⟨.int .u64,(0:Int)⟩])
  | _=>none
 | false=>match Nat.beq f a5k with
  | true=>match zs with
   | [.val ⟨.slice (.st .prog),xs⟩]=>some (.some (xs.length≤1048576), .row 31 (.st .prog) xs)
   | _=>none
  | false=>none
theorem g6g(code:List Int):f8q prog b9f [.val ⟨.slice (.int .u8),code⟩] (.box [⟨.slice (.int .u8),code⟩,⟨.int .i64,(0:Int)⟩,⟨.int .u64,(0:Int)⟩]):=by
 intro w S vals hS ha
 match vals,ha with
 | [v],ha =>
  have h1:Rd w S (TV.toD ⟨.slice (.int .u8),code⟩) [v]:=ha.1
  obtain⟨a,c,e,_⟩:=id h1
  simp only[List.cons.injEq,and_true] at e
  rw[show (List.map (Ty.int IntKind.u8).toD code).length=code.length from List.length_map _] at e
  subst e
  refine (g4v a _ c w).mono ?_
  rintro e w' ⟨rfl,rfl⟩
  have hk:=a6g w (.cells #[.slice a code.length c, .int .i64 0, .int .u64 0] 91)
  refine⟨_,S,rfl,hk,fun _ _=>Iff.rfl,fun k hk'=>Nat.lt_of_lt_of_le (hS.1 k hk') hk.size,fun b hb=>?_,w.heap.size,[_, .int .i64 0, .int .u64 0],91,rfl,by simpa using heap_alloc_new w _,?_⟩
  ·simp only[blk,Option.some.injEq] at hb
   subst hb
   exact⟨Nat.le_refl _,by simp,fun q=>Nat.lt_irrefl _ (hS.1 _ q)⟩
  refine⟨⟨rfl,Rd.keep (fun _ h=>h) (fun b hb=>hk.block b (hS.1 b hb) fun h=>h) _ h1⟩,⟨rfl,?_⟩,⟨rfl,?_⟩,trivial⟩
  ·exact⟨rfl,by decide,by decide⟩
  ·exact⟨rfl,by decide,by decide⟩
open Go.Lib in
set_option maxRecDepth 100000 in
theorem g2m(i0:TypeInfo)(z:Value)(bytes:Nat)(hi:prog.info? 31=some i0)(hz0:i0.zero=some z)(hz1:i0.size=6)(hz2:i0.bytes=bytes)(hzs:z.cells.size=6)
  (a:Addr) (n c:Nat) (news:List Value) (w:World) (hl:news.length=n * 6) (hn:n≤maxLen) (hbig:n * bytes≤140737488355328)
  (hc:∀ j u,news[j]?=some u→w.cell? (a.add j)=some u) (h1:∀ u∈news,u.oneCell'=true) :
  Calls prog a5k #[.slice (some a) n c] w fun e w'=>∃ v',e = .returned v'∧w'.ownsRow w.heap.size 31 6 v' n news∧Below w.heap.size w w':=by
 have t22:prog.underlying 29=some (.slice 31):=by kernel_rfl
 have q22:∀ (w:World) (a:Option Addr) (n c n' c':Nat),(binOp .eql 29 (.slice a n c) (.slice none n' c')).run prog w = .ok (.bool a.isNone) w:=fun w a n c n' c'=>Lib.run_eql_slice_nil w _ _ a n c n' c' t22
 have u22:∀ w,Sem.run prog (underlying 29) w = .ok (TypeDesc.slice 31) w:=run_underlying t22
 have z23:∀ w,(Go.sizeOf 31).run prog w = .ok 6 w:=fun w=>by simp[Go.sizeOf,typeInfo,hi,hz1,Result.andThen]
 have A:Aside (∀ j u,news[j]?=some u→w.cell? (a.add j)=some u):=hc
 clear hc
 go_enter Try.func82,Try.ntmps82
 go_wp2_with (at_builtin;refine wpList_append_own _ rfl _ _ 29 rfl w.heap.size 31 i0 z 6 bytes t22 hi hz0 hz1 hz2 hzs (by decide) _ _ _ rfl (World.ownsRow_made w #[] 0 (Nat.le_refl _) (Nat.zero_le _) (by simp)) a n c news rfl ?qc1 ?qc2 ?qc3 ?qc4 ?qc5 ?qc6 ?_)
 case qc1=>exact hl
 case qc2 =>
  intro j u hj
  exact Lib.cell?_alloc_some _ (A.out j u hj)
 case qc3=>exact h1
 case qc4=>rw[Nat.zero_add];exact hn
 case qc5=>rw[Nat.zero_add];exact hbig
 case qc6=>simp
 intro v' w1 hown hgrow hnil
 go_wp2
 go_ret
 refine⟨v',rfl,by simpa using hown,?_⟩
 exact ((Below.refl _ w).alloc (Nat.le_refl _) _).grown hgrow (by simp) (by intro k hk;simp[Value.ownBlock] at hk;omega)
theorem g4q(n c:Nat)(w:World):Calls prog a5k #[.slice none n c] w fun e w'=>e = .returned (.slice none 0 0)∧w'=w:=by
 have t22:prog.underlying 29=some (.slice 31):=by kernel_rfl
 have q22:∀ (w:World) (a:Option Addr) (n c n' c':Nat),(binOp .eql 29 (.slice a n c) (.slice none n' c')).run prog w = .ok (.bool a.isNone) w:=fun w a n c n' c'=>Lib.run_eql_slice_nil w _ _ a n c n' c' t22
 go_enter Try.func82,Try.ntmps82
 go_wp2
 go_ret
 exact⟨rfl,rfl⟩
theorem g4p(xs:List a0a)(hx:xs.length≤1048576):f8q prog a5k [.val ⟨.slice (.st .prog),xs⟩] (.row 31 (.st .prog) xs):=by
 intro w S vals hS ha
 match vals,ha with
 | [v],ha =>
  have h1:Rd w S (TV.toD ⟨.slice (.st .prog),xs⟩) [v]:=ha.1
  obtain⟨a,c,e,h2,h3,h4,h5⟩:=id h1
  simp only[List.cons.injEq,and_true] at e
  rw[show (List.map (Ty.st a0o.prog).toD xs).length=xs.length from List.length_map _] at e h2
  subst e
  have done:∀ (v:Value) (w':World) (l:List Value),w'.ownsRow w.heap.size 31 6 v xs.length l→Below w.heap.size w w'→RdL w S (xs.map (Ty.st a0o.prog).toD) l→∃ x S',Ending.returned v = .returned x∧a1t (fun _=>False) w w'∧(∀ k,k<w.heap.size→(S' k↔S k))∧(∀ k,S' k→k<w'.heap.size) ∧
    (∀ b,blk x=some b→w.heap.size≤b∧b<w'.heap.size∧¬ S' b)∧f8p w' S' x (.row 31 (.st .prog) xs):=fun v w' l ho hb hr=>by
   have hk:a1t (fun _=>False) w w':=⟨hb.os,hb.tape,hb.output,hb.size,fun k hk _=>hb.block k hk⟩
   refine⟨v,S,rfl,hk,fun _ _=>Iff.rfl,fun k q=>Nat.lt_of_lt_of_le (hS.1 k q) hk.size,fun b q=>?_,l,?_,hr.keep (fun _ q=>q) (fun b q=>hk.block b (hS.1 b q) fun q=>q),by omega⟩
   ·rcases ho.2 with ⟨rfl,_⟩|⟨g,cap,cur,rfl,hg,hh,_⟩
    ·cases q
    ·simp only[blk,Option.some.injEq] at q
     subst q
     exact⟨hg,(Array.getElem?_eq_some_iff.1 hh).1,fun q=>by have:=hS.1 _ q;omega⟩
   ·exact⟨ho.1,ho.2.imp id fun ⟨g,cap,cur,q1,q2,q3⟩=>⟨g,cap,cur,q1,Nat.zero_le _,q3⟩⟩
  have hi:∃ i0 z bytes,prog.info? 31=some i0∧i0.zero=some z∧i0.size=6∧i0.bytes=bytes∧z.cells.size=6∧bytes≤100:=by
   have q:(match prog.info? 31 with
    | some i=>match i.zero with
     | some z=>decide (i.size=6)&&(decide (z.cells.size=6)&&decide (i.bytes≤100))
     | none=>false
    | none=>false)=true:=by kernel_rfl
   split at q
   ·rename_i i hi
    split at q
    ·rename_i z hz
     simp only[Bool.and_eq_true,decide_eq_true_eq] at q
     exact⟨i,z,_,hi,hz,q.1,rfl,q.2.1,q.2.2⟩
    ·cases q
   ·cases q
  obtain⟨i0,z,bytes,k1,k2,k3,k4,k5,k6⟩:=hi
  have hbig:xs.length * bytes≤140737488355328:=Nat.le_trans (Nat.mul_le_mul hx k6) (by decide)
  have key:∀ (ad:Addr) (l:List Value),a=some ad→RdL w S (xs.map (Ty.st a0o.prog).toD) l→(∀ j u,l[j]?=some u→w.cell? (ad.add j)=some u) →
    Calls prog a5k #[.slice a xs.length c] w fun e w'=>∃ x S',e = .returned x∧a1t (fun _=>False) w w'∧(∀ k,k<w.heap.size→(S' k↔S k))∧(∀ k,S' k→k<w'.heap.size) ∧
    (∀ b,blk x=some b→w.heap.size≤b∧b<w'.heap.size∧¬ S' b)∧f8p w' S' x (.row 31 (.st .prog) xs):=fun ad l e hr hc=>by
   subst e
   have hl:=RdL.length _ hr (n:=6) fun d hd=>by
    obtain⟨y,_,rfl⟩:=List.mem_map.1 hd
    exact Ty.size_toD (.st .prog) y
   rw[List.length_map] at hl
   refine (g2m i0 z bytes k1 k2 k3 k4 k5 ad xs.length c l w hl (Nat.le_trans h2 h3) hbig hc (RdL.oneCells hr)).mono ?_
   rintro e w' ⟨v',rfl,ho,hb⟩
   exact done v' w' l ho hb hr
  rcases h5 with h5|⟨b,o,rfl,hb,h5⟩
  ·have hn:xs=[]:=List.map_eq_nil_iff.1 h5
   cases a with
   | none =>
    subst hn
    refine (g4q _ c w).mono ?_
    rintro e w' ⟨rfl,rfl⟩
    exact done _ _ [] (World.ownsRow_nil w' _ _ _) (Below.refl _ _) rfl
   | some ad=>exact key ad [] rfl (by subst hn;rfl) (fun j u hj=>by simp at hj)
  ·obtain⟨l,hl,hc⟩:=a3o.cells _ _ _ h5
   exact key ⟨b,o,none⟩ l rfl hl fun j u hj=>by rw[Addr.add_lit];exact hc j u hj
theorem f7f:∀ f args pre cells,c6e f args=some (pre,cells)→pre.ok→b1f prog f∧f8q prog f args cells:=by
 intro f args pre cells h hp
 unfold c6e at h
 split at h
 ·rename_i hf
  have hf:=Nat.eq_of_beq_eq_true hf
  subst hf
  split at h
  ·simp only[Option.some.injEq,Prod.mk.injEq] at h
   obtain⟨rfl,rfl⟩:=h
   exact⟨⟨_,f0z,rfl,by decide⟩,g6g _⟩
  ·cases h
 ·split at h
  ·rename_i hf
   have hf:=Nat.eq_of_beq_eq_true hf
   subst hf
   split at h
   ·simp only[Option.some.injEq,Prod.mk.injEq] at h
    obtain⟨rfl,rfl⟩:=h
    exact⟨⟨_,d6z,rfl,by decide⟩,g4p _ hp⟩
   ·cases h
  ·cases h
end Go.Proofs.Ytlaoejdeanljgaa

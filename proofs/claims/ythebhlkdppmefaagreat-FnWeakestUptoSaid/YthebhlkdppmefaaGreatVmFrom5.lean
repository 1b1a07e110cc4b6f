/- Triples under premises; weakest and strongest conditions. Printed by vmk.py. -/
import Derived.Test.YthebhlkdppmefaaGreatVmUse
import Derived.Test.YthebhlkdppmefaaGreatVmLib
import Derived.Test.YthebhlkdppmefaaGreatVmAllows
import Derived.Test.YthebhlkdppmefaaGreatVmProg
import Derived.Test.YthebhlkdppmefaaGreatVmLeads2
import Derived.Test.YthebhlkdppmefaaGreatVmLeads3
import Derived.Test.YthebhlkdppmefaaGreatVmFrom2
import Derived.Test.YthebhlkdppmefaaGreatVmFrom3
import Derived.Test.YthebhlkdppmefaaGreatVmFrom4
set_option linter.unusedVariables false
set_option linter.unusedSimpArgs false
set_option linter.unusedSectionVars false
set_option maxRecDepth 4000
set_option maxHeartbeats 4000000
namespace Go.Proofs.YthebhlkdppmefaaGreat
noncomputable section
def b0c(c:a0b)(k:Nat):Bool:=a1b (k:Int) c
theorem h6x(c:a0b)(k:Nat):b0c c k=a1b (k:Int) c:=rfl
def atN(gg:a0h)(c:a0b):List Int:=a0y (b0c c) (a0a gg).toNat
theorem g8d(gg:a0h)(c:a0b):a3k (a0a gg) (atN gg c):=b1y _ _
theorem h8x(gg:a0h)(c:a0b)(k:Nat)(h1:a0a gg≤(k:Int))(h2:k≤(a0a gg).toNat):a0y (b0c c) k=atN gg c:=by
 have:k=(a0a gg).toNat:=by omega
 rw[this];rfl
theorem f3n(gg:a0h)(k:Nat)(h:(k:Int)<a0a gg):a3k (a0a gg) [(k:Int)]:=by
 have:∀ n,k<n→a0y (fun j=>decide (k=j)) n=[(k:Int)]:=by
  intro n
  induction n with
  | zero=>intro h;omega
  | succ n ih =>
   intro hk
   rw[a0y]
   rcases Nat.lt_or_ge k n with h'|h'
   ·rw[ih h'];simp[Nat.ne_of_lt h']
   ·have e:k=n:=by omega
    subst e
    have:a0y (fun j=>decide (k=j)) k=[]:=by
     rw[a3f _ (fun _=>false) k fun j hj=>by simp;omega,g6k]
    rw[this];simp
 rw[←this (a0a gg).toNat (by omega)]
 exact b1y _ _
theorem i2h(gg:a0h)(xs:List a0e)(p:a0d)(c:a0b)(h:okL gg xs p)(k:Nat)(hk:(k:Int)<a0a gg) :
  ((noL c (a0x gg xs p [(k:Int)])).length=0↔a3i (a0g (a0a gg) xs p) c k=true):=by
 rw[e0l gg xs p h _ (f3n gg k hk),f4i,List.length_eq_zero_iff,a3i]
 have hs:=b6t gg (a0a gg) xs p h.tree
 rw[hs.row k (by omega)]
 have hb:∀ y,y<(a0a gg).toNat→(a4w (fun x=>c4p [(k:Int)] x&&gt2 (a0g (a0a gg) xs p) (x:Int) (y:Int)) (a0a gg).toNat && !a1b (y:Int) c) = !a9h (a0g (a0a gg) xs p) c k y:=fun y hy=>by
  have e:a4w (fun x=>c4p [(k:Int)] x&&gt2 (a0g (a0a gg) xs p) (x:Int) (y:Int)) (a0a gg).toNat=gt2 (a0g (a0a gg) xs p) (k:Int) (y:Int):=by
   refine b4n ?_
   simp only[a5n,c4p,List.mem_singleton,Bool.and_eq_true,decide_eq_true_eq]
   constructor
   ·rintro⟨x,_,h1,h2⟩
    rw[←h1];exact h2
   ·intro h1;exact⟨k,by omega,rfl,h1⟩
  rw[e,a9h]
  cases gt2 (a0g (a0a gg) xs p) (k:Int) (y:Int)<;>cases a1b (y:Int) c<;>rfl
 rw[a3f _ _ _ hb]
 have gen:∀ (q:Nat→Bool) n,a0y (fun y => !q y) n=[]↔a4n q n=true:=by
  intro q n
  induction n with
  | zero=>simp[a0y,a4n]
  | succ n ih =>
   rw[a0y,a4n,List.append_eq_nil_iff,ih,Bool.and_eq_true]
   cases q n<;>simp
 exact gen _ _
def hoB(gg:a0h)(xs:List a0e)(t:a1g):Bool:=a0v (fun x=>decide (x∈wkL (a0g (a0a gg) xs t.prog) t.post)) (atN gg t.pre)
def i3e(gg:a0h)(xs:List a0e)(c:a0b)(p:a0d):List Int:=a0x gg xs p (atN gg c)
def a5u(gg:a0h)(xs:List a0e)(c:a0b)(p:a0d)(y:Nat):Bool:=(atN gg c).any fun x=>gt2 (a0g (a0a gg) xs p) x (y:Int)
theorem i4v(gg:a0h)(xs:List a0e)(c:a0b)(p:a0d)(h:okL gg xs p):i3e gg xs c p=a0y (a5u gg xs c p) (a0a gg).toNat:=by
 rw[i3e,e0l gg xs p h _ (g8d gg c)]
 refine a3f _ _ _ fun y hy=>?_
 rw[a5u,atN,f9z]
 exact c2x _ _ _ fun x hx=>by rw[f4f _ _ _ hx]
theorem i2g(gg:a0h)(p:a0d)(h:isP gg p=true):a2g gg p=true:=by
 simp only[isP,b2b,Bool.and_eq_true] at h;exact h.1.1
theorem h9y(gg:a0h)(xs:List a0e)(p:a0d)(h1:a1t gg xs=true)(h2:isP gg p=true):okL gg xs p:=⟨c0k gg xs h1,e8i gg xs h1,i2g gg p h2⟩
theorem i4o(gg:a0h)(xs:List a0e)(p:a0d)(h1:a1t gg xs=true)(h2:okP gg p=true):okL gg xs p:=by
 simp only[okP,Bool.and_eq_true] at h2
 exact h9y gg xs p h1 h2.2
theorem i4m(gg:a0h)(c:a0b)(h:okC gg c=true):isC gg c=true:=by rw[e5y,Bool.and_eq_true] at h;exact h.2
def a4u:Ctr:=⟨d0t,[.v (.st .sig), .v (.st .expr)],fun (gg:a0h) (c:a0b)=>⟨(some (a1i gg=true∧a1k c=true),[⟨(.slice (.int .i64)),atN gg c⟩])⟩⟩
def e4r(gg:a0h)(c:a0b):Nat→a0p:=(fun zb=>if Nat.beq zb 0 then .mk (Nat) (fun k=>k≤(a0a gg).toNat) (fun k=>(a0a gg).toNat - k) [] [0,1,2,7,8] (fun k=>[(10, .imm ⟨(.int .i64),((k:Int):Int)⟩),(5, .row 7)]) [3,4,5,6,9,10,11,12,13,14,15,16,17,18,19,20,21] (fun k=>[(7, .row c0f (.int .i64) (a0y (b0c c) k:List Int))]) [] [] (fun k=>fun _ => .none) else .none)
theorem g7a(gg:a0h)(c:a0b):awp (a0r [a3o,a2r] [] [] [2,3]) (a0j b2i) (e4r gg c) 0 (a1c (a0r [a3o,a2r] [] [] [2,3]) b2i fun r=>a1f r [⟨(.slice (.int .i64)),atN gg c⟩]) (a0m b2i [.val ⟨(.st .sig),gg⟩, .val ⟨(.st .expr),c⟩]) =
 (((0≤gg.tests∧gg.tests≤3)∧(a0c (a0a gg) →
 ((∃ k1:Nat,(k1≤(a0a gg).toNat∧((c=c∧(True∧(True∧((a0a gg)=(a0a gg)∧((0:Int)=(k1:Int)∧True)))))∧([]=(a0y (b0c c) k1)∧True))))∧(∀ k1:Nat,(k1≤(a0a gg).toNat →
 (((decide ((k1:Int)<(a0a gg)))=true →
 ((a1k c=true∧0≤(k1:Int)∧(k1:Int)≤4096)∧(((a1b (k1:Int) c)=true →
 (a1p ((a0y (b0c c) k1).length+([(k1:Int)]).length) 8∧(a0c ((k1:Int)+(1:Int))∧(∃ k2:Nat,(k2≤(a0a gg).toNat∧((a0a gg).toNat - k2<(a0a gg).toNat - k1∧((c=c∧(True∧(True∧((a0a gg)=(a0a gg)∧(((k1:Int)+(1:Int))=(k2:Int)∧True)))))∧(((a0y (b0c c) k1)++([(k1:Int)]))=(a0y (b0c c) k2)∧True))))))))∧((a1b (k1:Int) c)=false →
 (a0c ((k1:Int)+(1:Int))∧(∃ k2:Nat,(k2≤(a0a gg).toNat∧((a0a gg).toNat - k2<(a0a gg).toNat - k1∧((c=c∧(True∧(True∧((a0a gg)=(a0a gg)∧(((k1:Int)+(1:Int))=(k2:Int)∧True)))))∧((a0y (b0c c) k1)=(a0y (b0c c) k2)∧True))))))))))∧((decide ((k1:Int)<(a0a gg)))=false →
 (a0y (b0c c) k1)=(atN gg c))))))))):=by kernel_rfl
theorem g5f(hE:a0o [a3o,a2r]):Ctr.Good a4u:=by
 refine⟨a0l d9s rfl (by decide),?_⟩
 show ∀ (gg:a0h) (c:a0b),(a1i gg=true∧a1k c=true)→a1e prog d0t [.val ⟨(.st .sig),gg⟩, .val ⟨(.st .expr),c⟩] (·=[⟨(.slice (.int .i64)),atN gg c⟩])
 intro gg c hp
 refine a0w (wr:=[]) (cl:=[]) (ro:=[2,3]) hE d9s f6g (e4r gg c) ?_
 rewrite [g7a gg c]
 have f1:=(a5w gg hp.1)
 have f3:([]:List Int)=a0y (b0c c) 0:=rfl
 refine⟨?_,fun a0=>⟨⟨0,⟨?_,⟨⟨rfl,⟨trivial,⟨trivial,⟨rfl,⟨?_,trivial⟩⟩⟩⟩⟩,⟨?_,trivial⟩⟩⟩⟩,fun k1 a1=>have b1x0:=c9d (b0c c) k1;have b1x1:=c9c (b0c c) k1;have b1x2:=a6b (b0c c) k1;have b1x3:=h8x gg c k1;have b1x4:=h6x c k1;⟨fun a2=>⟨?_,⟨fun a3=>⟨?_,⟨?_,⟨k1+1,⟨?_,⟨?_,⟨⟨rfl,⟨trivial,⟨trivial,⟨rfl,⟨?_,trivial⟩⟩⟩⟩⟩,⟨?_,trivial⟩⟩⟩⟩⟩⟩⟩,fun a3=>⟨?_,⟨k1+1,⟨?_,⟨?_,⟨⟨rfl,⟨trivial,⟨trivial,⟨rfl,⟨?_,trivial⟩⟩⟩⟩⟩,⟨?_,trivial⟩⟩⟩⟩⟩⟩⟩⟩,fun a2=>?_⟩⟩⟩
 all_goals try and_intros
 all_goals first|with_reducible rfl|omega|(simp only[decide_eq_true_eq,decide_eq_false_iff_not,a0k,a0c,a8l,a8k,b0e,b0d,a1p,List.length_append,List.length_cons,List.length_nil] at *;omega)|grind
theorem c4e:Ctr.Good a4u:=g5f ⟨b6z,a8j,trivial⟩
def b5v:Ctr:=⟨c8v,[.v (.st .sig), .r (.st .expr)],fun (gg:a0h) (c:a0b)=>⟨(some (a1i gg=true∧a1k c=true),[⟨(.slice (.int .i64)),atN gg c⟩])⟩⟩
def e1h(gg:a0h)(c:a0b):Nat→a0p:=(fun zb=>if Nat.beq zb 0 then .mk (Nat) (fun k=>k≤(a0a gg).toNat) (fun k=>(a0a gg).toNat - k) [] [0,3,7] (fun k=>[(6, .imm ⟨(.int .i64),((k:Int):Int)⟩),(5, .row 7)]) [1,2,4,5,6,8,9,10,11,12,13,14,15,16,17,18,19,20,21] (fun k=>[(7, .row c0f (.int .i64) (a0y (b0c c) k:List Int))]) [] [] (fun k=>fun _ => .none) else .none)
theorem g2s(gg:a0h)(c:a0b):awp (a0r [a4f,a5h] [] [] [2]) (a0j b1j) (e1h gg c) 0 (a1c (a0r [a4f,a5h] [] [] [2]) b1j fun r=>a1f r [⟨(.slice (.int .i64)),atN gg c⟩]) (a0m b1j [.val ⟨(.st .sig),gg⟩, .ref ⟨(.st .expr),c⟩]) =
 (((∃ k1:Nat,(k1≤(a0a gg).toNat∧((c=c∧(gg=gg∧(True∧(True∧((0:Int)=(k1:Int)∧True)))))∧([]=(a0y (b0c c) k1)∧True))))∧(∀ k1:Nat,(k1≤(a0a gg).toNat →
 ((0≤gg.tests∧gg.tests≤3)∧(a0c (a0a gg) →
 (((decide ((k1:Int)<(a0a gg)))=true →
 ((a1k c=true∧0≤(k1:Int)∧(k1:Int)≤4096)∧(((a1b (k1:Int) c)=true →
 (a1p ((a0y (b0c c) k1).length+([(k1:Int)]).length) 8∧(a0c ((k1:Int)+(1:Int))∧(∃ k2:Nat,(k2≤(a0a gg).toNat∧((a0a gg).toNat - k2<(a0a gg).toNat - k1∧((c=c∧(gg=gg∧(True∧(True∧(((k1:Int)+(1:Int))=(k2:Int)∧True)))))∧(((a0y (b0c c) k1)++([(k1:Int)]))=(a0y (b0c c) k2)∧True))))))))∧((a1b (k1:Int) c)=false →
 (a0c ((k1:Int)+(1:Int))∧(∃ k2:Nat,(k2≤(a0a gg).toNat∧((a0a gg).toNat - k2<(a0a gg).toNat - k1∧((c=c∧(gg=gg∧(True∧(True∧(((k1:Int)+(1:Int))=(k2:Int)∧True)))))∧((a0y (b0c c) k1)=(a0y (b0c c) k2)∧True))))))))))∧((decide ((k1:Int)<(a0a gg)))=false →
 (a0y (b0c c) k1)=(atN gg c))))))))):=by kernel_rfl
theorem g1w(hE:a0o [a4f,a5h]):Ctr.Good b5v:=by
 refine⟨a0l d7d rfl (by decide),?_⟩
 show ∀ (gg:a0h) (c:a0b),(a1i gg=true∧a1k c=true)→a1e prog c8v [.val ⟨(.st .sig),gg⟩, .ref ⟨(.st .expr),c⟩] (·=[⟨(.slice (.int .i64)),atN gg c⟩])
 intro gg c hp
 refine a0w (wr:=[]) (cl:=[]) (ro:=[2]) hE d7d f2h (e1h gg c) ?_
 rewrite [g2s gg c]
 have f1:=(a5w gg hp.1)
 have f3:([]:List Int)=a0y (b0c c) 0:=rfl
 refine⟨⟨0,⟨?_,⟨⟨rfl,⟨rfl,⟨trivial,⟨trivial,⟨?_,trivial⟩⟩⟩⟩⟩,⟨?_,trivial⟩⟩⟩⟩,fun k1 a0=>have b0x0:=c9d (b0c c) k1;have b0x1:=c9c (b0c c) k1;have b0x2:=a6b (b0c c) k1;have b0x3:=h8x gg c k1;have b0x4:=h6x c k1;⟨?_,fun a1=>⟨fun a2=>⟨?_,⟨fun a3=>⟨?_,⟨?_,⟨k1+1,⟨?_,⟨?_,⟨⟨rfl,⟨rfl,⟨trivial,⟨trivial,⟨?_,trivial⟩⟩⟩⟩⟩,⟨?_,trivial⟩⟩⟩⟩⟩⟩⟩,fun a3=>⟨?_,⟨k1+1,⟨?_,⟨?_,⟨⟨rfl,⟨rfl,⟨trivial,⟨trivial,⟨?_,trivial⟩⟩⟩⟩⟩,⟨?_,trivial⟩⟩⟩⟩⟩⟩⟩⟩,fun a2=>?_⟩⟩⟩
 all_goals try and_intros
 all_goals first|with_reducible rfl|omega|(simp only[decide_eq_true_eq,decide_eq_false_iff_not,a0k,a0c,a8l,a8k,b0e,b0d,a1p,List.length_append,List.length_cons,List.length_nil] at *;omega)|grind
theorem f3f:Ctr.Good b5v:=g1w ⟨c1s,c4f,trivial⟩
def b8j:Ctr:=⟨d1f,[.v (.st .sig), .v (.slice (.st .premise)), .r (.st .prog), .r (.st .expr)],fun (gg:a0h) (xs:List a0e) (p:a0d) (c:a0b)=>⟨(some (okL gg xs p∧a1t gg xs=true∧a1k c=true),[⟨(.slice (.int .i64)),wkL (a0g (a0a gg) xs p) c⟩])⟩⟩
def e5n(gg:a0h)(xs:List a0e)(p:a0d)(c:a0b):Nat→a0p:=(fun zb=>if Nat.beq zb 0 then .mk (Nat) (fun k=>k≤(a0a gg).toNat) (fun k=>(a0a gg).toNat - k) [] [0,5,6,7,11,13] (fun k=>[(10, .imm ⟨(.int .i64),((k:Int):Int)⟩),(9, .row 13)]) [1,2,3,4,8,9,10,12,14,15,16,17,18,19,20,21,22,23,24,25,26,27,28,29,30,31,32,33,34,35,36,37,38] (fun k=>[(13, .row c0f (.int .i64) (a0y (a3i (a0g (a0a gg) xs p) c) k:List Int))]) [] [] (fun k=>fun _ => .none) else .none)
theorem g7w(gg:a0h)(xs:List a0e)(p:a0d)(c:a0b):awp (a0r [a4f,b0a,a5z] [] [] [4]) (a0j b3f) (e5n gg xs p c) 0 (a1c (a0r [a4f,b0a,a5z] [] [] [4]) b3f fun r=>a1f r [⟨(.slice (.int .i64)),wkL (a0g (a0a gg) xs p) c⟩]) (a0m b3f [.val ⟨(.st .sig),gg⟩, .val ⟨(.slice (.st .premise)),xs⟩, .ref ⟨(.st .prog),p⟩, .ref ⟨(.st .expr),c⟩]) =
 (((∃ k1:Nat,(k1≤(a0a gg).toNat∧((xs=xs∧(p=p∧(c=c∧(gg=gg∧(True∧(True∧((0:Int)=(k1:Int)∧True)))))))∧([]=(a0y (a3i (a0g (a0a gg) xs p) c) k1)∧True))))∧(∀ k1:Nat,(k1≤(a0a gg).toNat →
 ((0≤gg.tests∧gg.tests≤3)∧(a0c (a0a gg) →
 (((decide ((k1:Int)<(a0a gg)))=true →
 ((okL gg xs p∧a1t gg xs=true∧a3k (a0a gg) ([(k1:Int)]))∧((a0x gg xs p ([(k1:Int)])).length≤140737488355328 →
 ((a1k c=true∧(a0x gg xs p ([(k1:Int)])).length≤1048576∧∀ i,i<(a0x gg xs p ([(k1:Int)])).length→0≤(a0x gg xs p ([(k1:Int)])).getD i 0∧(a0x gg xs p ([(k1:Int)])).getD i 0≤4096)∧((a2w c (a0x gg xs p ([(k1:Int)]))).length≤140737488355328 →
 ((noL c (a0x gg xs p ([(k1:Int)]))).length≤140737488355328 →
 (a0c (((noL c (a0x gg xs p ([(k1:Int)]))).length:Int)) →
 (((decide ((((noL c (a0x gg xs p ([(k1:Int)]))).length:Int))=(0:Int)))=true →
 (a1p ((a0y (a3i (a0g (a0a gg) xs p) c) k1).length+([(k1:Int)]).length) 8∧(a0c ((k1:Int)+(1:Int))∧(∃ k2:Nat,(k2≤(a0a gg).toNat∧((a0a gg).toNat - k2<(a0a gg).toNat - k1∧((xs=xs∧(p=p∧(c=c∧(gg=gg∧(True∧(True∧(((k1:Int)+(1:Int))=(k2:Int)∧True)))))))∧(((a0y (a3i (a0g (a0a gg) xs p) c) k1)++([(k1:Int)]))=(a0y (a3i (a0g (a0a gg) xs p) c) k2)∧True))))))))∧((decide ((((noL c (a0x gg xs p ([(k1:Int)]))).length:Int))=(0:Int)))=false →
 (a0c ((k1:Int)+(1:Int))∧(∃ k2:Nat,(k2≤(a0a gg).toNat∧((a0a gg).toNat - k2<(a0a gg).toNat - k1∧((xs=xs∧(p=p∧(c=c∧(gg=gg∧(True∧(True∧(((k1:Int)+(1:Int))=(k2:Int)∧True)))))))∧((a0y (a3i (a0g (a0a gg) xs p) c) k1)=(a0y (a3i (a0g (a0a gg) xs p) c) k2)∧True)))))))))))))))∧((decide ((k1:Int)<(a0a gg)))=false →
 (a0y (a3i (a0g (a0a gg) xs p) c) k1)=(wkL (a0g (a0a gg) xs p) c))))))))):=by kernel_rfl
theorem g6c(hE:a0o [a4f,b0a,a5z]):Ctr.Good b8j:=by
 refine⟨a0l e0i rfl (by decide),?_⟩
 show ∀ (gg:a0h) (xs:List a0e) (p:a0d) (c:a0b),(okL gg xs p∧a1t gg xs=true∧a1k c=true)→a1e prog d1f [.val ⟨(.st .sig),gg⟩, .val ⟨(.slice (.st .premise)),xs⟩, .ref ⟨(.st .prog),p⟩, .ref ⟨(.st .expr),c⟩] (·=[⟨(.slice (.int .i64)),wkL (a0g (a0a gg) xs p) c⟩])
 intro gg xs p c hp
 refine a0w (wr:=[]) (cl:=[]) (ro:=[4]) hE e0i f7d (e5n gg xs p c) ?_
 rewrite [g7w gg xs p c]
 have f1:=(a5w gg hp.1.sig)
 have f2:=(b6t gg (a0a gg) xs p hp.1.tree).len
 have f3:([]:List Int)=a0y (a3i (a0g (a0a gg) xs p) c) 0:=rfl
 refine⟨⟨0,⟨?_,⟨⟨rfl,⟨rfl,⟨rfl,⟨rfl,⟨trivial,⟨trivial,⟨?_,trivial⟩⟩⟩⟩⟩⟩⟩,⟨?_,trivial⟩⟩⟩⟩,fun k1 a0=>have b0x0:=c9d (a3i (a0g (a0a gg) xs p) c) k1;have b0x1:=c9c (a3i (a0g (a0a gg) xs p) c) k1;have b0x2:=a6b (a3i (a0g (a0a gg) xs p) c) k1;have b0x3:=h5m (a0g (a0a gg) xs p) c k1;have b0x4:=i2h gg xs p c hp.1 k1;have b0x5:=f3n gg k1;have b0x6:=(fun h=>g6l gg hp.1.sig _ (e0m gg xs p hp.1 _ (f3n gg k1 h)));⟨?_,fun a1=>⟨fun a2=>⟨?_,fun a3=>⟨?_,fun a4=>fun a5=>fun a6=>⟨fun a7=>⟨?_,⟨?_,⟨k1+1,⟨?_,⟨?_,⟨⟨rfl,⟨rfl,⟨rfl,⟨rfl,⟨trivial,⟨trivial,⟨?_,trivial⟩⟩⟩⟩⟩⟩⟩,⟨?_,trivial⟩⟩⟩⟩⟩⟩⟩,fun a7=>⟨?_,⟨k1+1,⟨?_,⟨?_,⟨⟨rfl,⟨rfl,⟨rfl,⟨rfl,⟨trivial,⟨trivial,⟨?_,trivial⟩⟩⟩⟩⟩⟩⟩,⟨?_,trivial⟩⟩⟩⟩⟩⟩⟩⟩⟩,fun a2=>?_⟩⟩⟩
 all_goals try and_intros
 all_goals first|with_reducible rfl|omega|(simp only[decide_eq_true_eq,decide_eq_false_iff_not,a0k,a0c,a8l,a8k,b0e,b0d,a1p,List.length_append,List.length_cons,List.length_nil] at *;omega)|grind
theorem f7w:Ctr.Good b8j:=g6c ⟨c1s,d4v,c9q,trivial⟩
def b1q:Ctr:=⟨c4q,[.v (.st .sig), .v (.slice (.st .premise)), .v (.st .triple)],fun (gg:a0h) (xs:List a0e) (t:a1g)=>⟨(some (okL gg xs t.prog∧a1k t.pre=true∧a1k t.post=true),[⟨.bool,hoB gg xs t⟩])⟩⟩
def d5l(gg:a0h)(xs:List a0e)(t:a1g):Nat→a0p:=(fun zb=>if Nat.beq zb 0 then .mk (Nat) (fun k=>k≤(atN gg t.pre).length∧a0v (fun x=>decide (x∈wkL (a0g (a0a gg) xs t.prog) t.post)) ((atN gg t.pre).take k)=true) (fun k=>(atN gg t.pre).length - k) [] [0,1,2,3,4,5,8,10,11,12,13,14,15,16,17,18,19] (fun k=>[(22, .imm ⟨(.int .i64),((k:Int):Int)⟩)]) [6,7,9,20,21,22,23,24,25,26,27,28,29,30] (fun k=>[]) [] [] (fun k=>fun _ => .none) else .none)
theorem f5g(gg:a0h)(xs:List a0e)(t:a1g):awp (a0r [b8d,a4u,a6n] [] [] [3,5]) (a0j a8v) (d5l gg xs t) 0 (a1c (a0r [b8d,a4u,a6n] [] [] [3,5]) a8v fun r=>a1f r [⟨.bool,hoB gg xs t⟩]) (a0m a8v [.val ⟨(.st .sig),gg⟩, .val ⟨(.slice (.st .premise)),xs⟩, .val ⟨(.st .triple),t⟩]) =
 (((okL gg xs t.prog∧a1k t.post=true)∧((wkL (a0g (a0a gg) xs t.prog) t.post).length≤140737488355328 →
 ((a1i gg=true∧a1k t.pre=true)∧((atN gg t.pre).length≤140737488355328 →
 (a0c (((atN gg t.pre).length:Int)) →
 ((∃ k1:Nat,((k1≤(atN gg t.pre).length∧a0v (fun x=>decide (x∈wkL (a0g (a0a gg) xs t.prog) t.post)) ((atN gg t.pre).take k1)=true)∧(((wkL (a0g (a0a gg) xs t.prog) t.post)=(wkL (a0g (a0a gg) xs t.prog) t.post)∧((atN gg t.pre)=(atN gg t.pre)∧((((atN gg t.pre).length:Int))=(((atN gg t.pre).length:Int))∧((0:Int)=(k1:Int)∧True))))∧True)))∧(∀ k1:Nat,((k1≤(atN gg t.pre).length∧a0v (fun x=>decide (x∈wkL (a0g (a0a gg) xs t.prog) t.post)) ((atN gg t.pre).take k1)=true) →
 (((decide ((k1:Int)<(((atN gg t.pre).length:Int))))=true →
 (a0k (k1:Int) (atN gg t.pre).length∧(a0c ((atN gg t.pre).getD k1 (0:Int)) →
 (((!(decide (((atN gg t.pre).getD k1 (0:Int))∈(wkL (a0g (a0a gg) xs t.prog) t.post))))=true →
 false=(hoB gg xs t))∧((!(decide (((atN gg t.pre).getD k1 (0:Int))∈(wkL (a0g (a0a gg) xs t.prog) t.post))))=false →
 (a0c ((k1:Int)+(1:Int))∧(∃ k2:Nat,((k2≤(atN gg t.pre).length∧a0v (fun x=>decide (x∈wkL (a0g (a0a gg) xs t.prog) t.post)) ((atN gg t.pre).take k2)=true)∧((atN gg t.pre).length - k2<(atN gg t.pre).length - k1∧(((wkL (a0g (a0a gg) xs t.prog) t.post)=(wkL (a0g (a0a gg) xs t.prog) t.post)∧((atN gg t.pre)=(atN gg t.pre)∧((((atN gg t.pre).length:Int))=(((atN gg t.pre).length:Int))∧(((k1:Int)+(1:Int))=(k2:Int)∧True))))∧True))))))))))∧((decide ((k1:Int)<(((atN gg t.pre).length:Int))))=false →
 true=(hoB gg xs t)))))))))))):=by kernel_rfl
theorem f4n(hE:a0o [b8d,a4u,a6n]):Ctr.Good b1q:=by
 refine⟨a0l d2e rfl (by decide),?_⟩
 show ∀ (gg:a0h) (xs:List a0e) (t:a1g),(okL gg xs t.prog∧a1k t.pre=true∧a1k t.post=true)→a1e prog c4q [.val ⟨(.st .sig),gg⟩, .val ⟨(.slice (.st .premise)),xs⟩, .val ⟨(.st .triple),t⟩] (·=[⟨.bool,hoB gg xs t⟩])
 intro gg xs t hp
 refine a0w (wr:=[]) (cl:=[]) (ro:=[3,5]) hE d2e e6w (d5l gg xs t) ?_
 rewrite [f5g gg xs t]
 have f0:=a8h (fun x=>decide (x∈wkL (a0g (a0a gg) xs t.prog) t.post)) (atN gg t.pre)
 have f1:hoB gg xs t=a0v (fun x=>decide (x∈wkL (a0g (a0a gg) xs t.prog) t.post)) (atN gg t.pre):=rfl
 have f3:=hp.1.sig
 refine⟨?_,fun a0=>⟨?_,fun a1=>fun a2=>⟨⟨0,⟨?_,⟨⟨rfl,⟨rfl,⟨rfl,⟨?_,trivial⟩⟩⟩⟩,trivial⟩⟩⟩,fun k1 a3=>have b3x0:=a3h (fun x=>decide (x∈wkL (a0g (a0a gg) xs t.prog) t.post)) 0 (atN gg t.pre) k1;have b3x1:=a4c (fun x=>decide (x∈wkL (a0g (a0a gg) xs t.prog) t.post)) 0 (atN gg t.pre) k1;have b3x2:=a3l (fun x=>decide (x∈wkL (a0g (a0a gg) xs t.prog) t.post)) (atN gg t.pre) k1;⟨fun a4=>⟨?_,fun a5=>⟨fun a6=>?_,fun a6=>⟨?_,⟨k1+1,⟨?_,⟨?_,⟨⟨rfl,⟨rfl,⟨rfl,⟨?_,trivial⟩⟩⟩⟩,trivial⟩⟩⟩⟩⟩⟩⟩,fun a4=>?_⟩⟩⟩⟩
 all_goals try and_intros
 all_goals try rw[f1]
 all_goals first|with_reducible rfl|omega|(simp only[decide_eq_true_eq,decide_eq_false_iff_not,a0k,a0c,a8l,a8k,b0e,b0d,a1p,List.length_append,List.length_cons,List.length_nil] at *;omega)|grind
theorem e7l:Ctr.Good b1q:=f4n ⟨f7k,c4e,d3p,trivial⟩
end
end Go.Proofs.YthebhlkdppmefaaGreat

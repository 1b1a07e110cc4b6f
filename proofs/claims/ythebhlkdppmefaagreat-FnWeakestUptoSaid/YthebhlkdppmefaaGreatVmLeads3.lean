/- What holds behind the allowed words of programs, by the program. Printed by vmk.py. -/
import Derived.Test.YthebhlkdppmefaaGreatVmUse
import Derived.Test.YthebhlkdppmefaaGreatVmLib
import Derived.Test.YthebhlkdppmefaaGreatVmAllows
import Derived.Test.YthebhlkdppmefaaGreatVmProg
import Derived.Test.YthebhlkdppmefaaGreatVmLeads2
set_option linter.unusedVariables false
set_option linter.unusedSimpArgs false
set_option linter.unusedSectionVars false
set_option maxRecDepth 4000
set_option maxHeartbeats 4000000
namespace Go.Proofs.YthebhlkdppmefaaGreat
noncomputable section
def a9h(t:List (List Bool))(c:a0b)(x y:Nat):Bool := !gt2 t (x:Int) (y:Int)||a1b (y:Int) c
theorem h6s(t:List (List Bool))(c:a0b)(x y:Nat):a9h t c x y=(!((t.getD x []).getD y false)||a1b (y:Int) c):=by simp[a9h,gt2]
def a3i(t:List (List Bool))(c:a0b)(x:Nat):Bool:=a4n (a9h t c x) (t.getD x []).length
def wkL(t:List (List Bool))(c:a0b):List Int:=a0y (a3i t c) t.length
theorem h5m(t:List (List Bool))(c:a0b)(k:Nat)(h1:(t.length:Int)≤(k:Int))(h2:k≤t.length):a0y (a3i t c) k=wkL t c:=by
 have:k=t.length:=by omega
 rw[this];rfl
theorem h6z(t:List (List Bool))(c:a0b)(x k:Nat)(h1:((t.getD x []).length:Int)≤(k:Int))(h2:k≤(t.getD x []).length):a4n (a9h t c x) k=a3i t c x:=by
 have:k=(t.getD x []).length:=by omega
 rw[this];rfl
theorem f9e(gg:a0h)(xs:List a0e)(p:a0d)(h:okL gg xs p):(a0g (a0a gg) xs p).length=(a0a gg).toNat∧(a0g (a0a gg) xs p).length≤8∧∀ i,i<(a0g (a0a gg) xs p).length→((a0g (a0a gg) xs p).getD i []).length=(a0a gg).toNat∧((a0g (a0a gg) xs p).getD i []).length≤8:=by
 have hn:=(a5w gg h.sig).2
 have hs:=b6t gg (a0a gg) xs p h.tree
 have h1:=hs.len
 refine⟨h1,by omega,fun i hi=>?_⟩
 have:=hs.row i (by omega)
 omega
def b8d:Ctr:=⟨b8n,[.v (.st .sig), .v (.slice (.st .premise)), .v (.st .prog), .v (.st .expr)],fun (gg:a0h) (xs:List a0e) (p:a0d) (c:a0b)=>⟨(some (okL gg xs p∧a1k c=true),[⟨(.slice (.int .i64)),wkL (a0g (a0a gg) xs p) c⟩])⟩⟩
def e4x(gg:a0h)(xs:List a0e)(p:a0d)(c:a0b):Nat→a0p:=(fun zb=>if Nat.beq zb 0 then .mk (Nat) (fun k=>k≤(a0g (a0a gg) xs p).length) (fun k=>(a0g (a0a gg) xs p).length - k) [] [0,1,2,3,4,5,6,15,16,17,18] (fun k=>[(21, .imm ⟨(.int .i64),((k:Int):Int)⟩),(9, .row 15)]) [7,8,9,10,11,12,13,14,19,20,21,22,23,24,25,26,27,28,29,30,31,32,33,34,35,36,37,38,39,40,41,42,43,44,45,46,47,48,49,50] (fun k=>[(15, .row c0f (.int .i64) (a0y (a3i (a0g (a0a gg) xs p) c) k:List Int))]) [] [] (fun k=>(fun zb=>if Nat.beq zb 2 then .mk (Nat) (fun j=>j≤((a0g (a0a gg) xs p).getD k []).length) (fun j=>((a0g (a0a gg) xs p).getD k []).length - j) [] [0,1,2,3,4,5,6,15,16,17,18] (fun j=>[(28, .imm ⟨(.int .i64),((j:Int):Int)⟩),(12, .imm ⟨.bool,(a4n (a9h (a0g (a0a gg) xs p) c k) j:Bool)⟩)]) [7,8,9,10,11,12,13,14,15,19,20,21,22,23,24,25,26,27,28,29,30,31,32,33,34,35,36,37,38,39,40,41,42,43,44,45,46,47,48,49,50] (fun j=>[]) [] [] (fun j=>fun _ => .none) else .none)) else .none)
abbrev c5x(gg:a0h)(xs:List a0e)(p:a0d)(k1:Nat)(j2:Nat)(j3:Nat):Prop:=((a0g (a0a gg) xs p)=(a0g (a0a gg) xs p)∧((((a0g (a0a gg) xs p).length:Int))=(((a0g (a0a gg) xs p).length:Int))∧((k1:Int)=(k1:Int)∧((decide ((k1:Int)<(((a0g (a0a gg) xs p).length:Int))))=(decide ((k1:Int)<(((a0g (a0a gg) xs p).length:Int))))∧((k1:Int)=(k1:Int)∧(((a0g (a0a gg) xs p).getD k1 [])=((a0g (a0a gg) xs p).getD k1 [])∧(((a0g (a0a gg) xs p).getD k1 [])=((a0g (a0a gg) xs p).getD k1 [])∧(((a0g (a0a gg) xs p).getD k1 [])=((a0g (a0a gg) xs p).getD k1 [])∧(((((a0g (a0a gg) xs p).getD k1 []).length:Int))=((((a0g (a0a gg) xs p).getD k1 []).length:Int))∧(((j2:Int)+(1:Int))=(j3:Int)∧True))))))))))
abbrev d7w(gg:a0h)(xs:List a0e)(p:a0d)(c:a0b)(k1:Nat)(k3:Nat):Prop:=(c=c∧(True∧(True∧((a0g (a0a gg) xs p)=(a0g (a0a gg) xs p)∧((((a0g (a0a gg) xs p).length:Int))=(((a0g (a0a gg) xs p).length:Int))∧(((k1:Int)+(1:Int))=(k3:Int)∧True))))))
theorem g7g(gg:a0h)(xs:List a0e)(p:a0d)(c:a0b):awp (a0r [a6y,a2r] [] [] [4,6,7]) (a0j a6d) (e4x gg xs p c) 0 (a1c (a0r [a6y,a2r] [] [] [4,6,7]) a6d fun r=>a1f r [⟨(.slice (.int .i64)),wkL (a0g (a0a gg) xs p) c⟩]) (a0m a6d [.val ⟨(.st .sig),gg⟩, .val ⟨(.slice (.st .premise)),xs⟩, .val ⟨(.st .prog),p⟩, .val ⟨(.st .expr),c⟩]) =
 ((okL gg xs p∧((a0g (a0a gg) xs p).length≤140737488355328 →
 (a0c (((a0g (a0a gg) xs p).length:Int)) →
 ((∃ k1:Nat,(k1≤(a0g (a0a gg) xs p).length∧((c=c∧(True∧(True∧((a0g (a0a gg) xs p)=(a0g (a0a gg) xs p)∧((((a0g (a0a gg) xs p).length:Int))=(((a0g (a0a gg) xs p).length:Int))∧((0:Int)=(k1:Int)∧True))))))∧([]=(a0y (a3i (a0g (a0a gg) xs p) c) k1)∧True))))∧(∀ k1:Nat,(k1≤(a0g (a0a gg) xs p).length →
 (((decide ((k1:Int)<(((a0g (a0a gg) xs p).length:Int))))=true →
 (a0k (k1:Int) (a0g (a0a gg) xs p).length∧(((a0g (a0a gg) xs p).getD k1 []).length≤140737488355328 →
 (a0c ((((a0g (a0a gg) xs p).getD k1 []).length:Int)) →
 ((∃ j2:Nat,(j2≤((a0g (a0a gg) xs p).getD k1 []).length∧((c=c∧(True∧(True∧((k1:Int)=(k1:Int)∧(((a0g (a0a gg) xs p).getD k1 [])=((a0g (a0a gg) xs p).getD k1 [])∧(true=(a4n (a9h (a0g (a0a gg) xs p) c k1) j2)∧((a0g (a0a gg) xs p)=(a0g (a0a gg) xs p)∧((((a0g (a0a gg) xs p).length:Int))=(((a0g (a0a gg) xs p).length:Int))∧((k1:Int)=(k1:Int)∧((decide ((k1:Int)<(((a0g (a0a gg) xs p).length:Int))))=(decide ((k1:Int)<(((a0g (a0a gg) xs p).length:Int))))∧((k1:Int)=(k1:Int)∧(((a0g (a0a gg) xs p).getD k1 [])=((a0g (a0a gg) xs p).getD k1 [])∧(((a0g (a0a gg) xs p).getD k1 [])=((a0g (a0a gg) xs p).getD k1 [])∧(((a0g (a0a gg) xs p).getD k1 [])=((a0g (a0a gg) xs p).getD k1 [])∧(((((a0g (a0a gg) xs p).getD k1 []).length:Int))=((((a0g (a0a gg) xs p).getD k1 []).length:Int))∧((0:Int)=(j2:Int)∧True))))))))))))))))∧((a0y (a3i (a0g (a0a gg) xs p) c) k1)=(a0y (a3i (a0g (a0a gg) xs p) c) k1)∧True))))∧(∀ j2:Nat,(j2≤((a0g (a0a gg) xs p).getD k1 []).length →
 (((decide ((j2:Int)<((((a0g (a0a gg) xs p).getD k1 []).length:Int))))=true →
 (a0k (j2:Int) ((a0g (a0a gg) xs p).getD k1 []).length∧(((a4n (a9h (a0g (a0a gg) xs p) c k1) j2)=true →
 (((!(((a0g (a0a gg) xs p).getD k1 []).getD j2 false))=false →
 ((a1k c=true∧0≤(j2:Int)∧(j2:Int)≤4096)∧(a0c ((j2:Int)+(1:Int))∧(∃ j3:Nat,(j3≤((a0g (a0a gg) xs p).getD k1 []).length∧(((a0g (a0a gg) xs p).getD k1 []).length - j3<((a0g (a0a gg) xs p).getD k1 []).length - j2∧((c=c∧(True∧(True∧((k1:Int)=(k1:Int)∧(((a0g (a0a gg) xs p).getD k1 [])=((a0g (a0a gg) xs p).getD k1 [])∧((a1b (j2:Int) c)=(a4n (a9h (a0g (a0a gg) xs p) c k1) j3)∧(c5x gg xs p k1 j2 j3)))))))∧((a0y (a3i (a0g (a0a gg) xs p) c) k1)=(a0y (a3i (a0g (a0a gg) xs p) c) k1)∧True))))))))∧((!(((a0g (a0a gg) xs p).getD k1 []).getD j2 false))=(!false) →
 (a0c ((j2:Int)+(1:Int))∧(∃ j3:Nat,(j3≤((a0g (a0a gg) xs p).getD k1 []).length∧(((a0g (a0a gg) xs p).getD k1 []).length - j3<((a0g (a0a gg) xs p).getD k1 []).length - j2∧((c=c∧(True∧(True∧((k1:Int)=(k1:Int)∧(((a0g (a0a gg) xs p).getD k1 [])=((a0g (a0a gg) xs p).getD k1 [])∧(true=(a4n (a9h (a0g (a0a gg) xs p) c k1) j3)∧(c5x gg xs p k1 j2 j3)))))))∧((a0y (a3i (a0g (a0a gg) xs p) c) k1)=(a0y (a3i (a0g (a0a gg) xs p) c) k1)∧True)))))))))∧((a4n (a9h (a0g (a0a gg) xs p) c k1) j2)=(!true) →
 (a0c ((j2:Int)+(1:Int))∧(∃ j3:Nat,(j3≤((a0g (a0a gg) xs p).getD k1 []).length∧(((a0g (a0a gg) xs p).getD k1 []).length - j3<((a0g (a0a gg) xs p).getD k1 []).length - j2∧((c=c∧(True∧(True∧((k1:Int)=(k1:Int)∧(((a0g (a0a gg) xs p).getD k1 [])=((a0g (a0a gg) xs p).getD k1 [])∧(false=(a4n (a9h (a0g (a0a gg) xs p) c k1) j3)∧(c5x gg xs p k1 j2 j3)))))))∧((a0y (a3i (a0g (a0a gg) xs p) c) k1)=(a0y (a3i (a0g (a0a gg) xs p) c) k1)∧True))))))))))∧((decide ((j2:Int)<((((a0g (a0a gg) xs p).getD k1 []).length:Int))))=false →
 (((a4n (a9h (a0g (a0a gg) xs p) c k1) j2)=true →
 (a1p ((a0y (a3i (a0g (a0a gg) xs p) c) k1).length+([(k1:Int)]).length) 8∧(a0c ((k1:Int)+(1:Int))∧(∃ k3:Nat,(k3≤(a0g (a0a gg) xs p).length∧((a0g (a0a gg) xs p).length - k3<(a0g (a0a gg) xs p).length - k1∧((d7w gg xs p c k1 k3)∧(((a0y (a3i (a0g (a0a gg) xs p) c) k1)++([(k1:Int)]))=(a0y (a3i (a0g (a0a gg) xs p) c) k3)∧True))))))))∧((a4n (a9h (a0g (a0a gg) xs p) c k1) j2)=false →
 (a0c ((k1:Int)+(1:Int))∧(∃ k3:Nat,(k3≤(a0g (a0a gg) xs p).length∧((a0g (a0a gg) xs p).length - k3<(a0g (a0a gg) xs p).length - k1∧((d7w gg xs p c k1 k3)∧((a0y (a3i (a0g (a0a gg) xs p) c) k1)=(a0y (a3i (a0g (a0a gg) xs p) c) k3)∧True)))))))))))))))))∧((decide ((k1:Int)<(((a0g (a0a gg) xs p).length:Int))))=false →
 (a0y (a3i (a0g (a0a gg) xs p) c) k1)=(wkL (a0g (a0a gg) xs p) c)))))))))):=by kernel_rfl
theorem g5l(hE:a0o [a6y,a2r]):Ctr.Good b8d:=by
 refine⟨a0l c0r rfl (by decide),?_⟩
 show ∀ (gg:a0h) (xs:List a0e) (p:a0d) (c:a0b),(okL gg xs p∧a1k c=true)→a1e prog b8n [.val ⟨(.st .sig),gg⟩, .val ⟨(.slice (.st .premise)),xs⟩, .val ⟨(.st .prog),p⟩, .val ⟨(.st .expr),c⟩] (·=[⟨(.slice (.int .i64)),wkL (a0g (a0a gg) xs p) c⟩])
 intro gg xs p c hp
 refine a0w (wr:=[]) (cl:=[]) (ro:=[4,6,7]) hE c0r d4r (e4x gg xs p c) ?_
 rewrite [g7g gg xs p c]
 have f1:=f9e gg xs p hp.1
 refine⟨?_,fun a0=>fun a1=>⟨⟨0,⟨?_,⟨⟨rfl,⟨trivial,⟨trivial,⟨rfl,⟨rfl,⟨?_,trivial⟩⟩⟩⟩⟩⟩,⟨?_,trivial⟩⟩⟩⟩,fun k1 a2=>have b2x0:=c9d (a3i (a0g (a0a gg) xs p) c) k1;have b2x1:=c9c (a3i (a0g (a0a gg) xs p) c) k1;have b2x2:=a6b (a3i (a0g (a0a gg) xs p) c) k1;have b2x3:=h5m (a0g (a0a gg) xs p) c k1;have b2x4:=f1.2.2 k1;⟨fun a3=>⟨?_,fun a4=>fun a5=>⟨⟨0,⟨?_,⟨⟨rfl,⟨trivial,⟨trivial,⟨rfl,⟨rfl,⟨?_,⟨rfl,⟨rfl,⟨rfl,⟨rfl,⟨rfl,⟨rfl,⟨rfl,⟨rfl,⟨rfl,⟨?_,trivial⟩⟩⟩⟩⟩⟩⟩⟩⟩⟩⟩⟩⟩⟩⟩⟩,⟨rfl,trivial⟩⟩⟩⟩,fun j2 a6=>have b6x0:=d2c (a9h (a0g (a0a gg) xs p) c k1) j2;have b6x1:=h6z (a0g (a0a gg) xs p) c k1 j2;have b6x2:=h6s (a0g (a0a gg) xs p) c k1 j2;⟨fun a7=>⟨?_,⟨fun a8=>⟨fun a9=>⟨?_,⟨?_,⟨j2+1,⟨?_,⟨?_,⟨⟨rfl,⟨trivial,⟨trivial,⟨rfl,⟨rfl,⟨?_,⟨rfl,⟨rfl,⟨rfl,⟨rfl,⟨rfl,⟨rfl,⟨rfl,⟨rfl,⟨rfl,⟨?_,trivial⟩⟩⟩⟩⟩⟩⟩⟩⟩⟩⟩⟩⟩⟩⟩⟩,⟨rfl,trivial⟩⟩⟩⟩⟩⟩⟩,fun a9=>⟨?_,⟨j2+1,⟨?_,⟨?_,⟨⟨rfl,⟨trivial,⟨trivial,⟨rfl,⟨rfl,⟨?_,⟨rfl,⟨rfl,⟨rfl,⟨rfl,⟨rfl,⟨rfl,⟨rfl,⟨rfl,⟨rfl,⟨?_,trivial⟩⟩⟩⟩⟩⟩⟩⟩⟩⟩⟩⟩⟩⟩⟩⟩,⟨rfl,trivial⟩⟩⟩⟩⟩⟩⟩,fun a8=>⟨?_,⟨j2+1,⟨?_,⟨?_,⟨⟨rfl,⟨trivial,⟨trivial,⟨rfl,⟨rfl,⟨?_,⟨rfl,⟨rfl,⟨rfl,⟨rfl,⟨rfl,⟨rfl,⟨rfl,⟨rfl,⟨rfl,⟨?_,trivial⟩⟩⟩⟩⟩⟩⟩⟩⟩⟩⟩⟩⟩⟩⟩⟩,⟨rfl,trivial⟩⟩⟩⟩⟩⟩⟩⟩,fun a7=>⟨fun a8=>⟨?_,⟨?_,⟨k1+1,⟨?_,⟨?_,⟨⟨rfl,⟨trivial,⟨trivial,⟨rfl,⟨rfl,⟨?_,trivial⟩⟩⟩⟩⟩⟩,⟨?_,trivial⟩⟩⟩⟩⟩⟩⟩,fun a8=>⟨?_,⟨k1+1,⟨?_,⟨?_,⟨⟨rfl,⟨trivial,⟨trivial,⟨rfl,⟨rfl,⟨?_,trivial⟩⟩⟩⟩⟩⟩,⟨?_,trivial⟩⟩⟩⟩⟩⟩⟩⟩⟩⟩,fun a3=>?_⟩⟩⟩
 all_goals try and_intros
 all_goals first|rfl|trivial|omega|(simp only[decide_eq_true_eq,decide_eq_false_iff_not,a0k,a0c,a1p,List.length_append,List.length_cons,List.length_nil] at *;omega)|grind [a0k,a0c,d2c]
theorem f7k:Ctr.Good b8d:=g5l ⟨c8a,a8j,trivial⟩
def b4k(p:Int→Bool):Int→List Int→Int
 | _,[] => -1
 | k,x::xs=>bif p x then k else b4k p (k+1) xs
def b1m(p:Int→Bool)(x:Int):Bool := !p x
theorem h6n(p:Int→Bool)(x:Int):b1m p x = !p x:=rfl
theorem f3j(p:Int→Bool):∀ (xs:List Int) (k:Int),a0v (b1m p) xs=true→b4k p k xs = -1
 | [],k,_=>rfl
 | x::xs,k,h=>by
  simp only[a0v,Bool.and_eq_true,b1m,Bool.not_eq_true'] at h
  rw[b4k,h.1]
  exact f3j p xs (k+1) (by simpa [b1m] using h.2)
theorem g8p(p:Int→Bool):∀ (xs:List Int) (k:Int) (i:Nat),i<xs.length→a0v (b1m p) (xs.take i)=true→p (xs.getD i 0)=true→b4k p k xs=k+i
 | [],k,i,h,_,_=>by simp at h
 | x::xs,k,0,h,_,e=>by simp at e;simp[b4k,e]
 | x::xs,k,i+1,h,ha,e=>by
  simp only[List.take_succ_cons,a0v,Bool.and_eq_true,b1m,Bool.not_eq_true'] at ha
  rw[b4k,ha.1]
  have:=g8p p xs (k+1) i (by simpa using h) (by simpa [b1m] using ha.2) (by simpa using e)
  rw[cond_false,this];push_cast;omega
theorem g1f(p:Int→Bool):∀ (xs:List Int) (k:Int),0≤k→decide (0≤b4k p k xs)=xs.any p
 | [],k,_=>rfl
 | x::xs,k,hk=>by
  rw[b4k,List.any_cons]
  cases h:p x
  ·simpa using g1f p xs (k+1) (by omega)
  ·simpa using hk
def g0a(F:Int→Prop×Bool)(xs:List Int):Prop:=∀ i,i<xs.length→(F (xs.getD i 0)).1
def eqP(v:Int)(x:Int):Bool:=decide (v=x)
theorem i5p(v x:Int):eqP v x=decide (v=x):=rfl
theorem i3w(v:Int)(xs:List Int):xs.any (eqP v)=decide (v∈xs):=by
 induction xs with
 | nil=>rfl
 | cons x xs ih=>rw[List.any_cons,ih,eqP];simp
def a8m:Ctr:=⟨b9o,[.v (.slice (.int .i64)), .v (.int .i64)],fun (xs:List Int) (v:Int)=>⟨(none,[⟨(.int .i64),b4k (eqP v) 0 xs⟩])⟩⟩
def c8g(xs:List Int)(v:Int):Nat→a0p:=(fun zb=>if Nat.beq zb 0 then .mk (Nat) (fun k=>k≤xs.length∧a0v (b1m (eqP v)) (xs.take k)=true) (fun k=>xs.length - k) [] [2,3,6] (fun k=>[(8, .imm ⟨(.int .i64),((k:Int):Int)⟩)]) [0,1,4,5,7,8,9,10,11,12,13,14,15,16,17,18] (fun k=>[]) [] [] (fun k=>fun _ => .none) else .none)
theorem e6l(xs:List Int)(v:Int):awp (a0r []) (a0j a6e) (c8g xs v) 0 (a1c (a0r []) a6e fun r=>a1f r [⟨(.int .i64),b4k (eqP v) 0 xs⟩]) (a0m a6e [.val ⟨(.slice (.int .i64)),xs⟩, .val ⟨(.int .i64),v⟩]) =
 ((a0c ((xs.length:Int)) →
 ((∃ k1:Nat,((k1≤xs.length∧a0v (b1m (eqP v)) (xs.take k1)=true)∧((xs=xs∧(v=v∧(((xs.length:Int))=((xs.length:Int))∧((0:Int)=(k1:Int)∧True))))∧True)))∧(∀ k1:Nat,((k1≤xs.length∧a0v (b1m (eqP v)) (xs.take k1)=true) →
 (((decide ((k1:Int)<((xs.length:Int))))=true →
 (a0k (k1:Int) xs.length∧(a0c (xs.getD k1 (0:Int)) →
 (((decide (v=(xs.getD k1 (0:Int))))=true →
 (k1:Int)=(b4k (eqP v) 0 xs))∧((decide (v=(xs.getD k1 (0:Int))))=false →
 (a0c ((k1:Int)+(1:Int))∧(∃ k2:Nat,((k2≤xs.length∧a0v (b1m (eqP v)) (xs.take k2)=true)∧(xs.length - k2<xs.length - k1∧((xs=xs∧(v=v∧(((xs.length:Int))=((xs.length:Int))∧(((k1:Int)+(1:Int))=(k2:Int)∧True))))∧True))))))))))∧((decide ((k1:Int)<((xs.length:Int))))=false →
 (-1:Int)=(b4k (eqP v) 0 xs)))))))):=by kernel_rfl
theorem e6a(hE:a0o []):Ctr.Good a8m:=by
 refine⟨a0l c6p rfl (by decide),?_⟩
 show ∀ (xs:List Int) (v:Int),True→a1e prog b9o [.val ⟨(.slice (.int .i64)),xs⟩, .val ⟨(.int .i64),v⟩] (·=[⟨(.int .i64),b4k (eqP v) 0 xs⟩])
 intro xs v _
 refine a0w (wr:=[]) (cl:=[]) (ro:=[]) hE c6p d9k (c8g xs v) ?_
 rewrite [e6l xs v]
 have f0:=a8h (b1m (eqP v)) xs
 have f1:=f3j (eqP v) xs 0
 refine fun a0=>⟨⟨0,⟨?_,⟨⟨rfl,⟨rfl,⟨rfl,⟨?_,trivial⟩⟩⟩⟩,trivial⟩⟩⟩,fun k1 a1=>have b1x0:=a3h (b1m (eqP v)) 0 xs k1;have b1x1:=a3l (b1m (eqP v)) xs k1;have b1x2:=g8p (eqP v) xs 0 k1;have b1x3:=h6n (eqP v) (xs.getD k1 0);have b1x4:=i5p v (xs.getD k1 0);⟨fun a2=>⟨?_,fun a3=>⟨fun a4=>?_,fun a4=>⟨?_,⟨k1+1,⟨?_,⟨?_,⟨⟨rfl,⟨rfl,⟨rfl,⟨?_,trivial⟩⟩⟩⟩,trivial⟩⟩⟩⟩⟩⟩⟩,fun a2=>?_⟩⟩
 all_goals try and_intros
 all_goals first|rfl|trivial|omega|(simp only[decide_eq_true_eq,decide_eq_false_iff_not,a0k,a0c] at *;omega)|grind [b1m,a0k,a0c,eqP]
theorem d9l:Ctr.Good a8m:=e6a trivial
def a6n:Ctr:=⟨b4l,[.v (.slice (.int .i64)), .v (.int .i64)],fun (xs:List Int) (v:Int)=>⟨(none,[⟨.bool,decide (v∈xs)⟩])⟩⟩
def c4b(xs:List Int)(v:Int):Nat→a0p:=fun _ => .none
theorem d9h(xs:List Int)(v:Int):awp (a0r [a8m]) (a0j a5b) (c4b xs v) 0 (a1c (a0r [a8m]) a5b fun r=>a1f r [⟨.bool,decide (v∈xs)⟩]) (a0m a5b [.val ⟨(.slice (.int .i64)),xs⟩, .val ⟨(.int .i64),v⟩]) =
 ((a0c (b4k (eqP v) 0 xs) →
 (decide ((0:Int)≤(b4k (eqP v) 0 xs)))=(decide (v∈xs)))):=by kernel_rfl
theorem d9a(hE:a0o [a8m]):Ctr.Good a6n:=by
 refine⟨a0l c1r rfl (by decide),?_⟩
 show ∀ (xs:List Int) (v:Int),True→a1e prog b4l [.val ⟨(.slice (.int .i64)),xs⟩, .val ⟨(.int .i64),v⟩] (·=[⟨.bool,decide (v∈xs)⟩])
 intro xs v _
 refine a0w (wr:=[]) (cl:=[]) (ro:=[]) hE c1r d3m (c4b xs v) ?_
 rewrite [d9h xs v]
 have f0:=g1f (eqP v) xs 0 (by omega)
 rw[i3w] at f0
 refine fun a0=>?_
 all_goals try and_intros
 all_goals first|rfl|trivial|omega|(simp only[decide_eq_true_eq,decide_eq_false_iff_not,a0k,a0c] at *;omega)|grind [b1m,a0k,a0c,eqP]
theorem d3p:Ctr.Good a6n:=d9a ⟨d9l,trivial⟩
def a5y:Ctr:=⟨b3y,[.v (.slice (.int .i64)), .c [(.int .i64)] .bool],fun (xs:List Int) (F:Int→Prop×Bool)=>⟨(some (g0a F xs),[⟨(.int .i64),b4k (fun x=>(F x).2) 0 xs⟩])⟩⟩
def c2b(xs:List Int)(F:Int→Prop×Bool):Nat→a0p:=(fun zb=>if Nat.beq zb 0 then .mk (Nat) (fun k=>k≤xs.length∧a0v (b1m (fun x=>(F x).2)) (xs.take k)=true) (fun k=>xs.length - k) [] [2,3,6] (fun k=>[(8, .imm ⟨(.int .i64),((k:Int):Int)⟩)]) [0,1,4,5,7,8,9,10,11,12,13,14,15,16,17,18] (fun k=>[]) [] [] (fun k=>fun _ => .none) else .none)
theorem d6h(xs:List Int)(F:Int→Prop×Bool):awp (a0r []) (a0j a4t) (c2b xs F) 0 (a1c (a0r []) a4t fun r=>a1f r [⟨(.int .i64),b4k (fun x=>(F x).2) 0 xs⟩]) (a0m a4t [.val ⟨(.slice (.int .i64)),xs⟩, .clo ⟨[(.int .i64)], .bool,F⟩]) =
 ((a0c ((xs.length:Int)) →
 ((∃ k1:Nat,((k1≤xs.length∧a0v (b1m (fun x=>(F x).2)) (xs.take k1)=true)∧((xs=xs∧(F=F∧(((xs.length:Int))=((xs.length:Int))∧((0:Int)=(k1:Int)∧True))))∧True)))∧(∀ k1:Nat,((k1≤xs.length∧a0v (b1m (fun x=>(F x).2)) (xs.take k1)=true) →
 (((decide ((k1:Int)<((xs.length:Int))))=true →
 (a0k (k1:Int) xs.length∧(a0c (xs.getD k1 (0:Int)) →
 ((F (xs.getD k1 (0:Int))).1∧((((F (xs.getD k1 (0:Int))).2)=true →
 (k1:Int)=(b4k (fun x=>(F x).2) 0 xs))∧(((F (xs.getD k1 (0:Int))).2)=false →
 (a0c ((k1:Int)+(1:Int))∧(∃ k2:Nat,((k2≤xs.length∧a0v (b1m (fun x=>(F x).2)) (xs.take k2)=true)∧(xs.length - k2<xs.length - k1∧((xs=xs∧(F=F∧(((xs.length:Int))=((xs.length:Int))∧(((k1:Int)+(1:Int))=(k2:Int)∧True))))∧True)))))))))))∧((decide ((k1:Int)<((xs.length:Int))))=false →
 (-1:Int)=(b4k (fun x=>(F x).2) 0 xs)))))))):=by kernel_rfl
theorem d6a(hE:a0o []):Ctr.Good a5y:=by
 refine⟨a0l c0s rfl (by decide),?_⟩
 show ∀ (xs:List Int) (F:Int→Prop×Bool),(g0a F xs)→a1e prog b3y [.val ⟨(.slice (.int .i64)),xs⟩, .clo ⟨[(.int .i64)], .bool,F⟩] (·=[⟨(.int .i64),b4k (fun x=>(F x).2) 0 xs⟩])
 intro xs F hp
 refine a0w (wr:=[]) (cl:=[]) (ro:=[]) hE c0s d2i (c2b xs F) ?_
 rewrite [d6h xs F]
 have f0:=a8h (b1m (fun x=>(F x).2)) xs
 have f1:=f3j (fun x=>(F x).2) xs 0
 refine fun a0=>⟨⟨0,⟨?_,⟨⟨rfl,⟨rfl,⟨rfl,⟨?_,trivial⟩⟩⟩⟩,trivial⟩⟩⟩,fun k1 a1=>have b1x0:=a3h (b1m (fun x=>(F x).2)) 0 xs k1;have b1x1:=a3l (b1m (fun x=>(F x).2)) xs k1;have b1x2:=g8p (fun x=>(F x).2) xs 0 k1;have b1x3:=h6n (fun x=>(F x).2) (xs.getD k1 0);have b1x4:=hp k1;⟨fun a2=>⟨?_,fun a3=>⟨?_,⟨fun a4=>?_,fun a4=>⟨?_,⟨k1+1,⟨?_,⟨?_,⟨⟨rfl,⟨rfl,⟨rfl,⟨?_,trivial⟩⟩⟩⟩,trivial⟩⟩⟩⟩⟩⟩⟩⟩,fun a2=>?_⟩⟩
 all_goals try and_intros
 all_goals first|rfl|trivial|omega|(simp only[decide_eq_true_eq,decide_eq_false_iff_not,a0k,a0c] at *;omega)|grind [b1m,a0k,a0c,eqP]
theorem d2l:Ctr.Good a5y:=d6a trivial
def a4y:Ctr:=⟨b0t,[.v (.slice (.int .i64)), .c [(.int .i64)] .bool],fun (xs:List Int) (F:Int→Prop×Bool)=>⟨(some (g0a F xs),[⟨.bool,xs.any (fun x=>(F x).2)⟩])⟩⟩
def b8u(xs:List Int)(F:Int→Prop×Bool):Nat→a0p:=fun _ => .none
theorem d1s(xs:List Int)(F:Int→Prop×Bool):awp (a0r [a5y]) (a0j a4a) (b8u xs F) 0 (a1c (a0r [a5y]) a4a fun r=>a1f r [⟨.bool,xs.any (fun x=>(F x).2)⟩]) (a0m a4a [.val ⟨(.slice (.int .i64)),xs⟩, .clo ⟨[(.int .i64)], .bool,F⟩]) =
 ((g0a F xs∧(a0c (b4k (fun x=>(F x).2) 0 xs) →
 (decide ((0:Int)≤(b4k (fun x=>(F x).2) 0 xs)))=(xs.any (fun x=>(F x).2))))):=by kernel_rfl
theorem d1h(hE:a0o [a5y]):Ctr.Good a4y:=by
 refine⟨a0l b7g rfl (by decide),?_⟩
 show ∀ (xs:List Int) (F:Int→Prop×Bool),(g0a F xs)→a1e prog b0t [.val ⟨(.slice (.int .i64)),xs⟩, .clo ⟨[(.int .i64)], .bool,F⟩] (·=[⟨.bool,xs.any (fun x=>(F x).2)⟩])
 intro xs F hp
 refine a0w (wr:=[]) (cl:=[]) (ro:=[]) hE b7g c7w (b8u xs F) ?_
 rewrite [d1s xs F]
 have f0:=g1f (fun x=>(F x).2) xs 0 (by omega)
 refine⟨?_,fun a0=>?_⟩
 all_goals try and_intros
 all_goals first|rfl|trivial|omega|(simp only[decide_eq_true_eq,decide_eq_false_iff_not,a0k,a0c] at *;omega)|grind [b1m,a0k,a0c,eqP]
theorem c8c:Ctr.Good a4y:=d1h ⟨d2l,trivial⟩
end
end Go.Proofs.YthebhlkdppmefaaGreat

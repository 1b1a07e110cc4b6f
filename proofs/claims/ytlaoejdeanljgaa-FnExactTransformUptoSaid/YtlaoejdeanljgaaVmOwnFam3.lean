/- Copies of programs that are wholly the call's own; marks in programs. Printed by vmk.py. -/
import Derived.Test.YtlaoejdeanljgaaVmUse
import Derived.Test.YtlaoejdeanljgaaVmLib
import Derived.Test.YtlaoejdeanljgaaVmHeld
set_option linter.unusedVariables false
set_option linter.unusedSimpArgs false
set_option linter.unusedSectionVars false
set_option maxRecDepth 4000
set_option maxHeartbeats 4000000
namespace Go.Proofs.Ytlaoejdeanljgaa
noncomputable section
mutual
def a0f:a0a→Nat
 | ⟨_,_,c,ks⟩=>4+szL a0n c.kids+a9m ks
def a9m:List a0a→Nat
 | []=>0
 | x::xs=>a0f x+a9m xs
end
theorem b4w:∀ xs,a9m xs=szL a0f xs
 | []=>rfl
 | x::xs=>by rw[a9m,szL,b4w xs]
theorem d4n(x:a0a):a0f x=4+szL a0n x.cond.kids+szL a0f x.kids:=by
 cases x;simp[a0f,b4w]
mutual
def a1k(k:Int):a0a→a0a
 | ⟨_,_,c,ks⟩=>⟨k,k+1,⟨k+1+1,k+1+1+1,a0w (k+1+1+1+1) c.kids⟩,b6w (k+1+1+1+1+(szL a0n c.kids:Int)) ks⟩
def b6w(k:Int):List a0a→List a0a
 | []=>[]
 | x::xs=>a1k k x::b6w (k+(a0f x:Int)) xs
end
theorem c1l:∀ (xs:List a0a) (k:Int),b6w k xs=mkL a0f a1k k xs
 | [],_=>rfl
 | x::xs,k=>by rw[b6w,mkL,c1l xs]
theorem g5r(k:Int)(x:a0a):a1k k x=⟨k,k+1,⟨k+1+1,k+1+1+1,a0w (k+1+1+1+1) x.cond.kids⟩,mkL a0f a1k (k+1+1+1+1+(szL a0n x.cond.kids:Int)) x.kids⟩:=by
 cases x;simp only[a1k,c1l]
def a1c(k:Int)(xs:List a0a)(i:Nat):List a0a:=a1h (mkL a0f a1k k xs) xs i
theorem g2p(k:Int)(xs:List a0a):xs=a1c k xs 0:=d2v _ _
theorem g3w(k:Int)(xs:List a0a)(i:Nat)(h:xs.length≤i):a1c k xs i=mkL a0f a1k k xs:=f0p _ _ i (c0f a0f a1k k xs) h
theorem e8j(k:Int)(xs:List a0a)(i:Nat):(a1c k xs i).length=xs.length:=c5w _ _ i (c0f a0f a1k k xs)
theorem g3x(k:Int)(xs:List a0a)(i:Nat)(z:a0a)(h:i<xs.length):(a1c k xs i).getD i z=xs.getD i z:=f9n _ _ z i (c0f a0f a1k k xs) h
theorem g3y(k:Int)(xs:List a0a)(i:Nat)(z y:a0a)(h:i<xs.length):((a1c k xs i).set i y).getD i z=y:=g3f _ i y z (by rw[e8j];exact h)
def b9n(k:Int)(x:a0a):a0a:=(a0a.mk (k) x.num x.cond x.kids)
def b4a(k:Int)(x:a0a):a0a:=(a0a.mk (k) (k+1) x.cond x.kids)
def b4b(k:Int)(x:a0a):a0a:=(a0a.mk (k) (k+1) (a0c.mk (k+1+1) x.cond.num x.cond.kids) x.kids)
def a7n(k:Int)(x:a0a):a0a:=(a0a.mk (k) (k+1) (a0c.mk (k+1+1) (k+1+1+1) x.cond.kids) x.kids)
def a8w(k:Int)(x:a0a):a0a:=(a0a.mk (k) (k+1) (a0c.mk (k+1+1) (k+1+1+1) (a0w (k+1+1+1+1) x.cond.kids)) x.kids)
def f1p(k:Int)(x:a0a):a0a:=(a0a.mk (k) (k+1) (a0c.mk (k+1+1) (k+1+1+1) (a0w (k+1+1+1+1) x.cond.kids)) (mkL a0f a1k (k+1+1+1+1+(szL a0n x.cond.kids:Int)) x.kids))
theorem g4d(k:Int)(x:a0a):f1p k x=a1k k x:=(g5r k x).symm
theorem g2o(k:Int)(xs:List a0a)(i:Nat)(z:a0a)(h:i<xs.length):(a1c k xs i).set i (f1p (k+(szL a0f (xs.take i):Int)) (xs.getD i z))=a1c k xs (i+1):=g8z a0f a1k k xs i z h _ (g4d _ _)
def a4w(n:Nat):MK:=⟨c2w,⟨(.slice (.st .prog)),fun (xs:List a0a) (k:Int)=>(some (msz xs<n∧0≤k∧k+(szL a0f xs:Int)≤4611686018427387904),mkL a0f a1k k xs,k+(szL a0f xs:Int))⟩⟩
def b4o:MK:=⟨c2w,⟨(.slice (.st .prog)),fun (xs:List a0a) (k:Int)=>(some (0≤k∧k+(szL a0f xs:Int)≤4611686018427387904),mkL a0f a1k k xs,k+(szL a0f xs:Int))⟩⟩
def c1e(xs:List a0a)(k:Int):Nat→a0s:=(fun zb=>if Nat.beq zb 0 then .mk (Nat) (fun i=>i≤xs.length) (fun i=>xs.length - i) [] [2,3,50] (fun i=>[(5, .imm ⟨(.int .i64),((i:Int):Int)⟩),(1, .imm ⟨(.int .i64),(k+(szL a0f (xs.take i):Int):Int)⟩),(0, .tree 50)]) [0,1,4,5,6,7,8,9,10,11,12,13,14,15,16,17,18,19,20,21,22,23,24,25,26,27,28,29,30,31,32,33,34,35,36,37,38,39,40,41,42,43,44,45,46,47,48,49,51,52,53,54,55,56,57] (fun i=>[(50, .tree (.st .prog) (a1c k xs i:List a0a))]) [] [] (fun i=>(fun zb=>if Nat.beq zb 100006 then .mk (Unit) (fun u=>i<xs.length) (fun u=>0) [] [2,3,6,7,8,9,10,11,12,13,14,15,16,17,18,19,20,21,22,23,24,25,26,27,28,29,30,31,32,33,34,35,36,37,38,39,40,41,42,43,44,45,46,47,48,49,50,51,52,53,54,55,56,57] (fun u=>[(5, .imm ⟨(.int .i64),((i:Int):Int)⟩),(1, .imm ⟨(.int .i64),(k+(szL a0f (xs.take i):Int)+1:Int)⟩),(0, .tree 50)]) [0,1,4,5,6,7,8,9,10,11,12,13,14,15,16,17,18,19,20,21,22,23,24,25,26,27,28,29,30,31,32,33,34,35,36,37,38,39,40,41,42,43,44,45,46,47,48,49,51,52,53,54,55,56,57] (fun u=>[(50, .tree (.st .prog) ((a1c k xs i).set i (b9n (k+(szL a0f (xs.take i):Int)) (xs.getD i zP)):List a0a))]) [] [] (fun u=>(fun zb=>if Nat.beq zb 100008 then .mk (Unit) (fun u=>i<xs.length) (fun u=>0) [] [2,3,6,7,8,9,10,11,12,13,14,15,16,17,18,19,20,21,22,23,24,25,26,27,28,29,30,31,32,33,34,35,36,37,38,39,40,41,42,43,44,45,46,47,48,49,50,51,52,53,54,55,56,57] (fun u=>[(5, .imm ⟨(.int .i64),((i:Int):Int)⟩),(1, .imm ⟨(.int .i64),(k+(szL a0f (xs.take i):Int)+1+1:Int)⟩),(0, .tree 50)]) [0,1,4,5,6,7,8,9,10,11,12,13,14,15,16,17,18,19,20,21,22,23,24,25,26,27,28,29,30,31,32,33,34,35,36,37,38,39,40,41,42,43,44,45,46,47,48,49,51,52,53,54,55,56,57] (fun u=>[(50, .tree (.st .prog) ((a1c k xs i).set i (b4a (k+(szL a0f (xs.take i):Int)) (xs.getD i zP)):List a0a))]) [] [] (fun u=>(fun zb=>if Nat.beq zb 100010 then .mk (Unit) (fun u=>i<xs.length) (fun u=>0) [] [2,3,6,7,8,9,10,11,12,13,14,15,16,17,18,19,20,21,22,23,24,25,26,27,28,29,30,31,32,33,34,35,36,37,38,39,40,41,42,43,44,45,46,47,48,49,50,51,52,53,54,55,56,57] (fun u=>[(5, .imm ⟨(.int .i64),((i:Int):Int)⟩),(1, .imm ⟨(.int .i64),(k+(szL a0f (xs.take i):Int)+1+1+1:Int)⟩),(0, .tree 50)]) [0,1,4,5,6,7,8,9,10,11,12,13,14,15,16,17,18,19,20,21,22,23,24,25,26,27,28,29,30,31,32,33,34,35,36,37,38,39,40,41,42,43,44,45,46,47,48,49,51,52,53,54,55,56,57] (fun u=>[(50, .tree (.st .prog) ((a1c k xs i).set i (b4b (k+(szL a0f (xs.take i):Int)) (xs.getD i zP)):List a0a))]) [] [] (fun u=>(fun zb=>if Nat.beq zb 100012 then .mk (Unit) (fun u=>i<xs.length) (fun u=>0) [] [2,3,6,7,8,9,10,11,12,13,14,15,16,17,18,19,20,21,22,23,24,25,26,27,28,29,30,31,32,33,34,35,36,37,38,39,40,41,42,43,44,45,46,47,48,49,50,51,52,53,54,55,56,57] (fun u=>[(5, .imm ⟨(.int .i64),((i:Int):Int)⟩),(1, .imm ⟨(.int .i64),(k+(szL a0f (xs.take i):Int)+1+1+1+1:Int)⟩),(0, .tree 50)]) [0,1,4,5,6,7,8,9,10,11,12,13,14,15,16,17,18,19,20,21,22,23,24,25,26,27,28,29,30,31,32,33,34,35,36,37,38,39,40,41,42,43,44,45,46,47,48,49,51,52,53,54,55,56,57] (fun u=>[(50, .tree (.st .prog) ((a1c k xs i).set i (a7n (k+(szL a0f (xs.take i):Int)) (xs.getD i zP)):List a0a))]) [] [] (fun u=>(fun zb=>if Nat.beq zb 100013 then .mk (Unit) (fun u=>i<xs.length) (fun u=>0) [] [2,3,6,7,8,9,10,11,12,13,14,15,16,17,18,19,20,21,22,23,24,25,26,27,28,29,30,31,32,33,34,35,36,37,38,39,40,41,42,43,44,45,46,47,48,49,50,51,52,53,54,55,56,57] (fun u=>[(5, .imm ⟨(.int .i64),((i:Int):Int)⟩),(1, .imm ⟨(.int .i64),(k+(szL a0f (xs.take i):Int)+1+1+1+1+(szL a0n (xs.getD i zP).cond.kids:Int):Int)⟩),(0, .tree 50)]) [0,1,4,5,6,7,8,9,10,11,12,13,14,15,16,17,18,19,20,21,22,23,24,25,26,27,28,29,30,31,32,33,34,35,36,37,38,39,40,41,42,43,44,45,46,47,48,49,51,52,53,54,55,56,57] (fun u=>[(50, .tree (.st .prog) ((a1c k xs i).set i (a8w (k+(szL a0f (xs.take i):Int)) (xs.getD i zP)):List a0a))]) [] [] (fun u=>fun _ => .none) else .none)) else .none)) else .none)) else .none)) else .none)) else .none)
theorem e4r(n:Nat)(xs:List a0a)(k:Int):awp (a2o [] [] [a5m,a4w n] [49,56] []) (a0k a4f) (c1e xs k) 0 (a6s a4f (a4w (n+1)).m xs k) (a3o a4f ⟨(.slice (.st .prog)),xs⟩ k) =
 (((∃ i1:Nat,(i1≤xs.length∧((True∧(k=(k+(szL a0f (xs.take i1):Int))∧((0:Int)=(0:Int)∧((0:Int)=(i1:Int)∧True))))∧(xs=(a1c k xs i1)∧True))))∧(∀ i1:Nat,(i1≤xs.length →
 (((decide ((i1:Int)<(((a1c k xs i1).length:Int))))=true →
 (a0g (i1:Int) (a1c k xs i1).length∧((a0d ((k+(szL a0f (xs.take i1):Int))+(1:Int))∧(∃ u2:Unit,(i1<xs.length∧((True∧(((k+(szL a0f (xs.take i1):Int))+(1:Int))=(k+(szL a0f (xs.take i1):Int)+1)∧((0:Int)=(0:Int)∧((i1:Int)=(i1:Int)∧True))))∧(((a1c k xs i1).set i1 (a0a.mk (k+(szL a0f (xs.take i1):Int)) ((a1c k xs i1).getD i1 zP).num (a1g ((a1c k xs i1).getD i1 zP).cond) ((a1c k xs i1).getD i1 zP).kids))=((a1c k xs i1).set i1 (b9n (k+(szL a0f (xs.take i1):Int)) (xs.getD i1 zP)))∧True)))))∧(∀ u2:Unit,(i1<xs.length →
 (a0g (i1:Int) ((a1c k xs i1).set i1 (b9n (k+(szL a0f (xs.take i1):Int)) (xs.getD i1 zP))).length∧((a0d ((k+(szL a0f (xs.take i1):Int)+1)+(1:Int))∧(∃ u3:Unit,(i1<xs.length∧((True∧(((k+(szL a0f (xs.take i1):Int)+1)+(1:Int))=(k+(szL a0f (xs.take i1):Int)+1+1)∧((0:Int)=(0:Int)∧((i1:Int)=(i1:Int)∧True))))∧((((a1c k xs i1).set i1 (b9n (k+(szL a0f (xs.take i1):Int)) (xs.getD i1 zP))).set i1 (a0a.mk (((a1c k xs i1).set i1 (b9n (k+(szL a0f (xs.take i1):Int)) (xs.getD i1 zP))).getD i1 zP).kind (k+(szL a0f (xs.take i1):Int)+1) (a1g (((a1c k xs i1).set i1 (b9n (k+(szL a0f (xs.take i1):Int)) (xs.getD i1 zP))).getD i1 zP).cond) (((a1c k xs i1).set i1 (b9n (k+(szL a0f (xs.take i1):Int)) (xs.getD i1 zP))).getD i1 zP).kids))=((a1c k xs i1).set i1 (b4a (k+(szL a0f (xs.take i1):Int)) (xs.getD i1 zP)))∧True)))))∧(∀ u3:Unit,(i1<xs.length →
 (a0g (i1:Int) ((a1c k xs i1).set i1 (b4a (k+(szL a0f (xs.take i1):Int)) (xs.getD i1 zP))).length∧((a0d ((k+(szL a0f (xs.take i1):Int)+1+1)+(1:Int))∧(∃ u4:Unit,(i1<xs.length∧((True∧(((k+(szL a0f (xs.take i1):Int)+1+1)+(1:Int))=(k+(szL a0f (xs.take i1):Int)+1+1+1)∧((0:Int)=(0:Int)∧((i1:Int)=(i1:Int)∧True))))∧((((a1c k xs i1).set i1 (b4a (k+(szL a0f (xs.take i1):Int)) (xs.getD i1 zP))).set i1 (a0a.mk (((a1c k xs i1).set i1 (b4a (k+(szL a0f (xs.take i1):Int)) (xs.getD i1 zP))).getD i1 zP).kind (((a1c k xs i1).set i1 (b4a (k+(szL a0f (xs.take i1):Int)) (xs.getD i1 zP))).getD i1 zP).num (a0c.mk (k+(szL a0f (xs.take i1):Int)+1+1) (((a1c k xs i1).set i1 (b4a (k+(szL a0f (xs.take i1):Int)) (xs.getD i1 zP))).getD i1 zP).cond.num (((a1c k xs i1).set i1 (b4a (k+(szL a0f (xs.take i1):Int)) (xs.getD i1 zP))).getD i1 zP).cond.kids) (((a1c k xs i1).set i1 (b4a (k+(szL a0f (xs.take i1):Int)) (xs.getD i1 zP))).getD i1 zP).kids))=((a1c k xs i1).set i1 (b4b (k+(szL a0f (xs.take i1):Int)) (xs.getD i1 zP)))∧True)))))∧(∀ u4:Unit,(i1<xs.length →
 (a0g (i1:Int) ((a1c k xs i1).set i1 (b4b (k+(szL a0f (xs.take i1):Int)) (xs.getD i1 zP))).length∧((a0d ((k+(szL a0f (xs.take i1):Int)+1+1+1)+(1:Int))∧(∃ u5:Unit,(i1<xs.length∧((True∧(((k+(szL a0f (xs.take i1):Int)+1+1+1)+(1:Int))=(k+(szL a0f (xs.take i1):Int)+1+1+1+1)∧((0:Int)=(0:Int)∧((i1:Int)=(i1:Int)∧True))))∧((((a1c k xs i1).set i1 (b4b (k+(szL a0f (xs.take i1):Int)) (xs.getD i1 zP))).set i1 (a0a.mk (((a1c k xs i1).set i1 (b4b (k+(szL a0f (xs.take i1):Int)) (xs.getD i1 zP))).getD i1 zP).kind (((a1c k xs i1).set i1 (b4b (k+(szL a0f (xs.take i1):Int)) (xs.getD i1 zP))).getD i1 zP).num (a0c.mk (((a1c k xs i1).set i1 (b4b (k+(szL a0f (xs.take i1):Int)) (xs.getD i1 zP))).getD i1 zP).cond.kind (k+(szL a0f (xs.take i1):Int)+1+1+1) (((a1c k xs i1).set i1 (b4b (k+(szL a0f (xs.take i1):Int)) (xs.getD i1 zP))).getD i1 zP).cond.kids) (((a1c k xs i1).set i1 (b4b (k+(szL a0f (xs.take i1):Int)) (xs.getD i1 zP))).getD i1 zP).kids))=((a1c k xs i1).set i1 (a7n (k+(szL a0f (xs.take i1):Int)) (xs.getD i1 zP)))∧True)))))∧(∀ u5:Unit,(i1<xs.length →
 ((a0g (i1:Int) ((a1c k xs i1).set i1 (a7n (k+(szL a0f (xs.take i1):Int)) (xs.getD i1 zP))).length∧((0≤(k+(szL a0f (xs.take i1):Int)+1+1+1+1)∧(k+(szL a0f (xs.take i1):Int)+1+1+1+1)+(szL a0n (((a1c k xs i1).set i1 (a7n (k+(szL a0f (xs.take i1):Int)) (xs.getD i1 zP))).getD i1 zP).cond.kids:Int)≤4611686018427387904)∧(∃ u6:Unit,(i1<xs.length∧((True∧(((k+(szL a0f (xs.take i1):Int)+1+1+1+1)+(szL a0n (((a1c k xs i1).set i1 (a7n (k+(szL a0f (xs.take i1):Int)) (xs.getD i1 zP))).getD i1 zP).cond.kids:Int))=(k+(szL a0f (xs.take i1):Int)+1+1+1+1+(szL a0n (xs.getD i1 zP).cond.kids:Int))∧((0:Int)=(0:Int)∧((i1:Int)=(i1:Int)∧True))))∧((((a1c k xs i1).set i1 (a7n (k+(szL a0f (xs.take i1):Int)) (xs.getD i1 zP))).set i1 (a0a.mk (((a1c k xs i1).set i1 (a7n (k+(szL a0f (xs.take i1):Int)) (xs.getD i1 zP))).getD i1 zP).kind (((a1c k xs i1).set i1 (a7n (k+(szL a0f (xs.take i1):Int)) (xs.getD i1 zP))).getD i1 zP).num (a0c.mk (((a1c k xs i1).set i1 (a7n (k+(szL a0f (xs.take i1):Int)) (xs.getD i1 zP))).getD i1 zP).cond.kind (((a1c k xs i1).set i1 (a7n (k+(szL a0f (xs.take i1):Int)) (xs.getD i1 zP))).getD i1 zP).cond.num (a0w (k+(szL a0f (xs.take i1):Int)+1+1+1+1) (((a1c k xs i1).set i1 (a7n (k+(szL a0f (xs.take i1):Int)) (xs.getD i1 zP))).getD i1 zP).cond.kids)) (((a1c k xs i1).set i1 (a7n (k+(szL a0f (xs.take i1):Int)) (xs.getD i1 zP))).getD i1 zP).kids))=((a1c k xs i1).set i1 (a8w (k+(szL a0f (xs.take i1):Int)) (xs.getD i1 zP)))∧True))))))∧(∀ u6:Unit,(i1<xs.length →
 (a0g (i1:Int) ((a1c k xs i1).set i1 (a8w (k+(szL a0f (xs.take i1):Int)) (xs.getD i1 zP))).length∧((msz (((a1c k xs i1).set i1 (a8w (k+(szL a0f (xs.take i1):Int)) (xs.getD i1 zP))).getD i1 zP).kids<n∧0≤(k+(szL a0f (xs.take i1):Int)+1+1+1+1+(szL a0n (xs.getD i1 zP).cond.kids:Int))∧(k+(szL a0f (xs.take i1):Int)+1+1+1+1+(szL a0n (xs.getD i1 zP).cond.kids:Int))+(szL a0f (((a1c k xs i1).set i1 (a8w (k+(szL a0f (xs.take i1):Int)) (xs.getD i1 zP))).getD i1 zP).kids:Int)≤4611686018427387904)∧(a0d ((i1:Int)+(1:Int))∧(∃ i7:Nat,(i7≤xs.length∧(xs.length - i7<xs.length - i1∧((True∧(((k+(szL a0f (xs.take i1):Int)+1+1+1+1+(szL a0n (xs.getD i1 zP).cond.kids:Int))+(szL a0f (((a1c k xs i1).set i1 (a8w (k+(szL a0f (xs.take i1):Int)) (xs.getD i1 zP))).getD i1 zP).kids:Int))=(k+(szL a0f (xs.take i7):Int))∧((0:Int)=(0:Int)∧(((i1:Int)+(1:Int))=(i7:Int)∧True))))∧((((a1c k xs i1).set i1 (a8w (k+(szL a0f (xs.take i1):Int)) (xs.getD i1 zP))).set i1 (a0a.mk (((a1c k xs i1).set i1 (a8w (k+(szL a0f (xs.take i1):Int)) (xs.getD i1 zP))).getD i1 zP).kind (((a1c k xs i1).set i1 (a8w (k+(szL a0f (xs.take i1):Int)) (xs.getD i1 zP))).getD i1 zP).num (a1g (((a1c k xs i1).set i1 (a8w (k+(szL a0f (xs.take i1):Int)) (xs.getD i1 zP))).getD i1 zP).cond) (mkL a0f a1k (k+(szL a0f (xs.take i1):Int)+1+1+1+1+(szL a0n (xs.getD i1 zP).cond.kids:Int)) (((a1c k xs i1).set i1 (a8w (k+(szL a0f (xs.take i1):Int)) (xs.getD i1 zP))).getD i1 zP).kids)))=(a1c k xs i7)∧True))))))))))))))))))))))))))))∧((decide ((i1:Int)<(((a1c k xs i1).length:Int))))=false →
 ((k+(szL a0f (xs.take i1):Int))=(k+(szL a0f xs:Int))∧(a1c k xs i1)=(mkL a0f a1k k xs)))))))):=by kernel_rfl
theorem e4c(n:Nat)(hE:a0m [])(hO:a4g [])(hM:a5a [a5m,a4w n])(hS:a5v []):MK.Good (a4w (n+1)):=by
 refine⟨a0j b4l rfl (by decide),c1k (own:=[49,56]) (wr:=[]) (cl:=[]) (ro:=[]) hE hO hM hS b4l e0n (fun xs k=>c1e xs k) (fun x=>Nat.le_of_ble_eq_true rfl) (Nat.le_of_ble_eq_true (by kernel_rfl)) ?_⟩
 show ∀ (xs:List a0a) (k:Int),(msz xs<n+1∧0≤k∧k+(szL a0f xs:Int)≤4611686018427387904)→a0d k→awp (a2o [] [] [a5m,a4w n] [49,56] []) (a0k a4f) (c1e xs k) 0 (a6s a4f (a4w (n+1)).m xs k) (a3o a4f ⟨(.slice (.st .prog)),xs⟩ k)
 intro xs k hp hk
 rewrite [e4r n xs k]
 have f0:=g2p k xs
 have f1:=b4c a0f xs
 have f2:=g1z a0f (fun x=>by rw[d4n];omega) xs
 refine⟨⟨0,⟨?_,⟨⟨trivial,⟨?_,⟨rfl,⟨?_,trivial⟩⟩⟩⟩,⟨?_,trivial⟩⟩⟩⟩,fun i1 a0=>have b0x0:=g3w k xs i1;have b0x1:=g3y k xs i1 zP;have b0x2:=g3x k xs i1 zP;have b0x3:=g2o k xs i1 zP;have b0x4:=e8j k xs i1;have b0x5:=a6v a0f zP xs i1;have b0x6:=a2l a0f xs i1;have b0x7:=a2l a0f xs (i1+1);have b0x8:=b0h a0f xs i1;have b0x9:=d4n (xs.getD i1 zP);have b0x10:=a1i zP xs i1;have b0x11:=a5q (xs.getD i1 zP);⟨fun a1=>⟨?_,⟨⟨?_,⟨(),⟨?_,⟨⟨trivial,⟨?_,⟨rfl,⟨rfl,trivial⟩⟩⟩⟩,⟨?_,trivial⟩⟩⟩⟩⟩,fun u2=>fun a2=>⟨?_,⟨⟨?_,⟨(),⟨?_,⟨⟨trivial,⟨?_,⟨rfl,⟨rfl,trivial⟩⟩⟩⟩,⟨?_,trivial⟩⟩⟩⟩⟩,fun u3=>fun a3=>⟨?_,⟨⟨?_,⟨(),⟨?_,⟨⟨trivial,⟨?_,⟨rfl,⟨rfl,trivial⟩⟩⟩⟩,⟨?_,trivial⟩⟩⟩⟩⟩,fun u4=>fun a4=>⟨?_,⟨⟨?_,⟨(),⟨?_,⟨⟨trivial,⟨?_,⟨rfl,⟨rfl,trivial⟩⟩⟩⟩,⟨?_,trivial⟩⟩⟩⟩⟩,fun u5=>fun a5=>⟨⟨?_,⟨?_,⟨(),⟨?_,⟨⟨trivial,⟨?_,⟨rfl,⟨rfl,trivial⟩⟩⟩⟩,⟨?_,trivial⟩⟩⟩⟩⟩⟩,fun u6=>fun a6=>⟨?_,⟨?_,⟨?_,⟨i1+1,⟨?_,⟨?_,⟨⟨trivial,⟨?_,⟨rfl,⟨?_,trivial⟩⟩⟩⟩,⟨?_,trivial⟩⟩⟩⟩⟩⟩⟩⟩⟩⟩⟩⟩⟩⟩⟩⟩⟩,fun a1=>⟨?_,?_⟩⟩⟩
 all_goals try and_intros
 all_goals try simp only[a0c.eta,a0a.eta,a1y,a2a] at *
 all_goals first|rfl|trivial|omega|(simp only[List.set_set,List.length_set,decide_eq_true_eq,decide_eq_false_iff_not,a0g,a0d] at *;first|omega|exact b0x0 (by omega)|(simp only[b0x1 _ (by omega)];rfl)|(simp only[b0x1 _ (by omega),b0x2 (by omega)];first|done|omega|rfl)|(simp only[b0x2 (by omega)];first|done|omega|rfl)|(simp only[b0x1 _ (by omega)];first|omega|exact b0x3 (by omega))|(simp only[b0x1 _ (by omega),b9n,b4a,b4b,a7n,a8w,f1p];first|done|omega)|grind)
theorem d4z:∀ n,a5a [a4w n]
 | 0=>⟨⟨a0j b4l rfl (by decide),fun _ _ _ _ _ h=>absurd (show msz _<0 from h.1) (Nat.not_lt_zero _)⟩,trivial⟩
 | n+1=>by
  have ih:=d4z n
  exact⟨e4c n trivial trivial ⟨c3y,ih.1,trivial⟩ trivial,trivial⟩
theorem d8j:MK.Good b4o :=
 ⟨a0j b4l rfl (by decide),fun (xs:List a0a) (k:Int) w v fp (hp:0≤k∧k+(szL a0f xs:Int)≤4611686018427387904)=>(d4z (msz xs+1)).1.2 xs k w v fp (show (msz xs<msz xs+1∧(0≤k∧k+(szL a0f xs:Int)≤4611686018427387904)) from ⟨Nat.lt_succ_self _,hp⟩)⟩
def a6d:MK:=⟨d3y,⟨(.st .prog),fun (x:a0a) (k:Int)=>(some (0≤k∧k+(szL a0n x.cond.kids:Int)+(szL a0f x.kids:Int)≤4611686018427387904),(a0a.mk x.kind x.num (a0c.mk x.cond.kind x.cond.num (a0w k x.cond.kids)) (mkL a0f a1k (k+(szL a0n x.cond.kids:Int)) x.kids)),k+(szL a0n x.cond.kids:Int)+(szL a0f x.kids:Int))⟩⟩
def c2p(x:a0a)(k:Int):Nat→a0s:=fun _ => .none
theorem e7j(x:a0a)(k:Int):awp (a2o [] [] [a6c,b4o] [8,12] []) (a0k a4m) (c2p x k) 0 (a6s a4m a6d.m x k) (a3o a4m ⟨(.st .prog),x⟩ k) =
 (((0≤k∧k+(szL a0n (a1g x.cond).kids:Int)≤4611686018427387904)∧((0≤(k+(szL a0n (a1g x.cond).kids:Int))∧(k+(szL a0n (a1g x.cond).kids:Int))+(szL a0f x.kids:Int)≤4611686018427387904)∧(((k+(szL a0n (a1g x.cond).kids:Int))+(szL a0f x.kids:Int))=(k+(szL a0n x.cond.kids:Int)+(szL a0f x.kids:Int))∧(a0a.mk x.kind x.num (a0c.mk x.cond.kind x.cond.num ((a0c.mk (a1g x.cond).kind (a1g x.cond).num (a0w k (a1g x.cond).kids))).kids) (mkL a0f a1k (k+(szL a0n (a1g x.cond).kids:Int)) x.kids))=(a0a.mk x.kind x.num (a0c.mk x.cond.kind x.cond.num (a0w k x.cond.kids)) (mkL a0f a1k (k+(szL a0n x.cond.kids:Int)) x.kids)))))):=by kernel_rfl
theorem e6y(hE:a0m [])(hO:a4g [])(hM:a5a [a6c,b4o])(hS:a5v []):MK.Good a6d:=by
 refine⟨a0j d0d rfl (by decide),c1k (own:=[8,12]) (wr:=[]) (cl:=[]) (ro:=[]) hE hO hM hS d0d e2a (fun x k=>c2p x k) (fun x=>Nat.le_of_ble_eq_true rfl) (Nat.le_of_ble_eq_true (by kernel_rfl)) ?_⟩
 show ∀ (x:a0a) (k:Int),(0≤k∧k+(szL a0n x.cond.kids:Int)+(szL a0f x.kids:Int)≤4611686018427387904)→a0d k→awp (a2o [] [] [a6c,b4o] [8,12] []) (a0k a4m) (c2p x k) 0 (a6s a4m a6d.m x k) (a3o a4m ⟨(.st .prog),x⟩ k)
 intro x k hp hk
 rewrite [e7j x k]
 refine⟨?_,⟨?_,⟨?_,?_⟩⟩⟩
 all_goals try and_intros
 all_goals try simp only[a0c.eta,a0a.eta,a1y,a2a] at *
 all_goals first|rfl|trivial|omega|(simp only[decide_eq_true_eq,decide_eq_false_iff_not,a0g,a0d,a1z,a2w,a1w,a1x] at *;omega)|(simp[a0g,a0d] at *;omega)|grind
theorem e0u:MK.Good a6d:=e6y trivial trivial ⟨e0t,d8j,trivial⟩ trivial
def b3k(n:Nat):Ctr:=⟨a8u,[.v (.st .prog)],fun (x:a0a)=>⟨(some (msz x<n∧a0i x≤1048576),[⟨(.st .prog),x⟩])⟩⟩
def c0e:Ctr:=⟨a8u,[.v (.st .prog)],fun (x:a0a)=>⟨(some (a0i x≤1048576),[⟨(.st .prog),x⟩])⟩⟩
def b0x(n:Nat):Ctr:=⟨b5s,[.v (.slice (.st .prog))],fun (xs:List a0a)=>⟨(some (msz xs<n∧xs.length+szL a0i xs≤1048576),[⟨(.slice (.st .prog)),xs⟩])⟩⟩
def d6r(x:a0a):Nat→a0s:=fun _ => .none
theorem f6n(n:Nat)(x:a0a):awp (a2o [] [c0d,b0x n] [] [12,16] [] [] [1]) (a0k a6a) (d6r x) 0 (a3r (a2o [] [c0d,b0x n] [] [12,16] [] [] [1]) a6a fun r=>a1d r [⟨(.st .prog),x⟩]) (a4z a6a [.val ⟨(.st .prog),x⟩]) =
 ((a0d x.kind →
 (a0d x.num →
 (a0l x.cond≤1048576∧(x.kids.length≤140737488355328 →
 ((msz x.kids<n∧x.kids.length+szL a0i x.kids≤1048576)∧(a0b x)=x)))))):=by kernel_rfl
theorem f5f(n:Nat)(hE:a0m [])(hO:a4g [c0d,b0x n])(hM:a5a [])(hS:a5v []):Ctr.OGood (b3k (n+1)):=by
 refine⟨a0j a6f rfl (by decide),?_⟩
 show ∀ (x:a0a),(msz x<n+1∧a0i x≤1048576)→a4k prog a8u [.val ⟨(.st .prog),x⟩] [⟨(.st .prog),x⟩]
 intro x hp
 refine a2x (own:=[12,16]) (wr:=[]) (cl:=[]) (ro:=[1]) hE hO hM hS a6f d0i (d6r x) ?_
 rewrite [f6n n x]
 rw[a9k] at hp
 have f0k:=a5q x
 refine fun a0=>fun a1=>⟨?_,fun a2=>⟨?_,?_⟩⟩
 all_goals try and_intros
 all_goals try simp only[a0c.eta,a0a.eta,a1y,a2a] at *
 all_goals first|rfl|trivial|omega|(simp only[decide_eq_true_eq,decide_eq_false_iff_not,a0g,a0d,a1z,a2w,a1w,a1x] at *;omega)|(simp[a0g,a0d] at *;omega)|grind
def d3q(xs:List a0a):Nat→a0s:=(fun zb=>if Nat.beq zb 0 then .mk (Nat) (fun k=>k≤xs.length) (fun k=>xs.length - k) [] [1,5,6,7] (fun k=>[(4, .imm ⟨(.int .i64),((k:Int):Int)⟩),(3, .tree 7)]) [0,2,3,4,8,9,10,11,12,13,14,15,16,17,18,19,20,21,22] (fun k=>[(7, .tree (.st .prog) (a3i xs k zP:List a0a))]) [] [] (fun k=>fun _ => .none) else .none)
theorem f2e(n:Nat)(xs:List a0a):awp (a2o [] [b3k n] [] [7,20] []) (a0k a5c) (d3q xs) 0 (a3r (a2o [] [b3k n] [] [7,20] []) a5c fun r=>a1d r [⟨(.slice (.st .prog)),xs⟩]) (a4z a5c [.val ⟨(.slice (.st .prog)),xs⟩]) =
 ((a0d ((xs.length:Int)) →
 (a1w ((xs.length:Int)) ((xs.length:Int)) 80∧((∃ k1:Nat,(k1≤xs.length∧((xs=xs∧(True∧(True∧((0:Int)=(k1:Int)∧True))))∧((List.replicate (Int.toNat ((xs.length:Int))) zP)=(a3i xs k1 zP)∧True))))∧(∀ k1:Nat,(k1≤xs.length →
 (a0d ((xs.length:Int)) →
 (((decide ((k1:Int)<((xs.length:Int))))=true →
 (a0g (k1:Int) xs.length∧((msz (xs.getD k1 zP)<n∧a0i (xs.getD k1 zP)≤1048576)∧(a0g (k1:Int) (a3i xs k1 zP).length∧(a0d ((k1:Int)+(1:Int))∧(∃ k2:Nat,(k2≤xs.length∧(xs.length - k2<xs.length - k1∧((xs=xs∧(True∧(True∧(((k1:Int)+(1:Int))=(k2:Int)∧True))))∧(((a3i xs k1 zP).set k1 (a0b (xs.getD k1 zP)))=(a3i xs k2 zP)∧True))))))))))∧((decide ((k1:Int)<((xs.length:Int))))=false →
 (a3i xs k1 zP)=xs))))))))):=by kernel_rfl
theorem f1k(n:Nat)(hE:a0m [])(hO:a4g [b3k n])(hM:a5a [])(hS:a5v []):Ctr.OGood (b0x (n+1)):=by
 refine⟨a0j a8a rfl (by decide),?_⟩
 show ∀ (xs:List a0a),(msz xs<n+1∧xs.length+szL a0i xs≤1048576)→a4k prog b5s [.val ⟨(.slice (.st .prog)),xs⟩] [⟨(.slice (.st .prog)),xs⟩]
 intro xs hp
 refine a2x (own:=[7,20]) (wr:=[]) (cl:=[]) (ro:=[]) hE hO hM hS a8a c8c (d3q xs) ?_
 rewrite [f2e n xs]
 refine fun a0=>⟨?_,⟨⟨0,⟨?_,⟨⟨rfl,⟨trivial,⟨trivial,⟨?_,trivial⟩⟩⟩⟩,⟨?_,trivial⟩⟩⟩⟩,fun k1 a1=>have b1x0:=a8r xs zP k1;have b1x1:=b7s xs zP k1;have b1x2:=a8s xs zP zP k1;have b1x3:=b1b a0i zP xs k1;have b1x4:=a1i zP xs k1;fun a2=>⟨fun a3=>⟨?_,⟨?_,⟨?_,⟨?_,⟨k1+1,⟨?_,⟨?_,⟨⟨rfl,⟨trivial,⟨trivial,⟨?_,trivial⟩⟩⟩⟩,⟨?_,trivial⟩⟩⟩⟩⟩⟩⟩⟩⟩,fun a3=>?_⟩⟩⟩
 all_goals try and_intros
 all_goals try simp only[a0c.eta,a0a.eta,a1y,a2a] at *
 all_goals first|rfl|trivial|omega|(simp only[decide_eq_true_eq,decide_eq_false_iff_not,a0g,a0d,a1z,a2w,a1w,a1x] at *;omega)|(simp[a0g,a0d] at *;omega)|grind|exact c3d xs _|(simp only[decide_eq_true_eq,decide_eq_false_iff_not] at *;first|exact a8s _ _ _ _ (by omega)|exact a8r _ _ _ (by omega)|(simp only[a1w];omega))
theorem d8x:∀ n,a4g [b3k n,b0x n]
 | 0=>⟨⟨a0j a6f rfl (by decide),fun _ h=>absurd h.1 (Nat.not_lt_zero _)⟩,⟨a0j a8a rfl (by decide),fun _ h=>absurd h.1 (Nat.not_lt_zero _)⟩,trivial⟩
 | n+1=>by
  have ih:=d8x n
  exact⟨f5f n trivial ⟨e6q,ih.2.1,trivial⟩ trivial trivial,f1k n trivial ⟨ih.1,trivial⟩ trivial trivial,trivial⟩
theorem e6r:Ctr.OGood c0e :=
 ⟨a0j a6f rfl (by decide),fun x hp=>(d8x (msz x+1)).1.2 x (⟨Nat.lt_succ_self _,hp⟩)⟩
end
end Go.Proofs.Ytlaoejdeanljgaa

/- Auto6, Auto7, CRAuto. -/
import Derived.Test.YtmdefiphdgcijaaDoorVmUse
import Derived.Test.YtmdefiphdgcijaaDoorVmLib
import Derived.Test.YtmdefiphdgcijaaDoorVmASplit
import Derived.Test.YtmdefiphdgcijaaDoorVmAuto2
import Derived.Test.YtmdefiphdgcijaaDoorVmAuto4
import Derived.Test.YtmdefiphdgcijaaDoorVmAuto5
import Derived.Test.YtmdefiphdgcijaaDoorVmEq
import Derived.Test.YtmdefiphdgcijaaDoorVmHeldA
set_option linter.unusedVariables false
set_option linter.unusedSimpArgs false
set_option linter.unusedSectionVars false
set_option maxRecDepth 4000
set_option maxHeartbeats 4000000
namespace Go.Proofs.YtmdefiphdgcijaaDoor
noncomputable section
theorem e3b(t:List UInt8):(lnI t).length=(a0a 10 t).length - 1:=by unfold lnI;simp
theorem e9u(t:List UInt8):∀ x∈lnI t,x∈a0a 10 t:=fun x hx=>List.mem_of_mem_take hx
theorem d4a(t:List UInt8)(i:Nat):((lnI t).getD i []).length≤t.length∧(((lnI t).drop 1).getD i []).length≤t.length:=by
 have h:=c2l (a9l 10 t) (e9u t)
 exact⟨a8f _ _ h i,a8f _ _ (c2l h fun y hy=>List.mem_of_mem_drop hy) i⟩
theorem f0u(t:List UInt8)(h:0<(lnI t).length):(lnI t).getD 0 []=(a0a 10 t).getD 0 []:=by
 unfold lnI at h ⊢
 rw[List.getD_eq_getElem?_getD,List.getD_eq_getElem?_getD,List.getElem?_take]
 rw[List.length_take] at h
 rw[if_pos (by omega)]
def hdI(t:List UInt8):List (List UInt8):=a0a 32 ((lnI t).getD 0 [])
theorem f0s(t:List UInt8):a0a 32 ((lnI t).getD 0 [])=hdI t:=rfl
theorem e9j(t:List UInt8):List.drop 1 (lnI t)=bdy t:=rfl
theorem e5c(t:List UInt8):(bdy t).length=(lnI t).length - 1:=by unfold bdy;simp
theorem e7l(t:List UInt8)(i:Nat):((bdy t).getD i []).length≤t.length:=(d4a t i).2
theorem e7v(t:List UInt8)(i:Nat):((hdI t).getD i []).length≤t.length:=Nat.le_trans (a8f _ _ (a9l 32 _) i) (d4a t 0).1
structure HP(t:List UInt8):Prop where
 lb:lnB t=true
 l1:1≤(lnI t).length
 l2:(lnI t).length≤61
theorem HP.hd{t:List UInt8}(h:HP t):hdI t=hdW t:=by
 unfold hdI hdW;rw[f0u t h.l1]
theorem c7a{t:List UInt8}(h:okI t=false):a0b.mk (a0t.mk (0:Int) (0:Int)) [] []=raV t∧5=raC t:=⟨((b3r t).2 h).1.symm,((b3r t).2 h).2.symm⟩
theorem e0h(t:List UInt8)(h:lnB t=false∨¬ (1≤(lnI t).length∧(lnI t).length≤61)):a0b.mk (a0t.mk (0:Int) (0:Int)) [] []=raV t∧5=raC t:=c7a (by
 unfold okI
 rcases h with h|h
 ·rw[h];rfl
 ·rw[decide_eq_false h];simp)
theorem HP.no{t:List UInt8}(h:HP t)(h3:¬ (hdI t).length=3):a0b.mk (a0t.mk (0:Int) (0:Int)) [] []=raV t∧5=raC t:=c7a (by
 rw[h.hd] at h3
 unfold okI
 rw[decide_eq_false h3];simp)
structure IP(t:List UInt8)(i:Nat):Prop where
 h:HP t
 h3:(hdI t).length=3
 le:i≤(bdy t).length
 al:a1j (a2v 2) ((bdy t).take i)=true
theorem HP.to{t:List UInt8}(h:HP t)(h3:(hdI t).length=3):IP t 0:=⟨h,h3,Nat.zero_le _,rfl⟩
theorem IP.len{t:List UInt8}{i:Nat}(v:IP t i):(((bdy t).take i).map a3c).length=i∧(((bdy t).take i).map (a2t 2)).length=i∧i≤(bdy t).length∧(bdy t).length≤60∧(hdI t).length=3 :=
 ⟨by have:=v.le;simp;omega,by have:=v.le;simp;omega,v.le,by have:=e5c t;have:=v.h.l2;omega,v.h3⟩
theorem IP.bad{t:List UInt8}{i:Nat}(v:IP t i)(hi:i<(bdy t).length)(h:a2v 2 ((bdy t).getD i [])=false):a0b.mk (a0t.mk (0:Int) (0:Int)) [] []=raV t∧5=raC t:=c7a (by
 have e:a1j (a2v 2) (bdy t)=false:=b3w _ [] _ i hi h
 unfold okI
 rw[e];simp)
theorem IP.next{t:List UInt8}{i:Nat}(v:IP t i)(hi:i<(bdy t).length)(h:a2v 2 ((bdy t).getD i [])=true):IP t (i+1):=⟨v.h,v.h3,hi,by rw[a6f _ [] _ i hi,v.al,h];rfl⟩
theorem IP.step{t:List UInt8}{i:Nat}(_v:IP t i)(hi:i<(bdy t).length)(h:a2v 2 ((bdy t).getD i [])=true):((bdy t).take i).map a3c++[sA ((bdy t).getD i [])]=((bdy t).take (i+1)).map a3c∧((bdy t).take i).map (a2t 2)++[sN ((bdy t).getD i [])]=((bdy t).take (i+1)).map (a2t 2):=by
 have e1:sA ((bdy t).getD i [])=a3c ((bdy t).getD i []):=by unfold sA;rw[h];rfl
 have e2:sN ((bdy t).getD i [])=a2t 2 ((bdy t).getD i []):=by unfold sN;rw[h];rfl
 rw[e1,e2,a2k [] (bdy t) i hi]
 exact⟨by simp,by simp⟩
def aI(t:List UInt8)(i:Nat):a0b:=a0b.mk (a0t.mk (a0n 1 ((hdI t).getD 1 [])) (a0n 1 ((hdI t).getD 2 []))) (((bdy t).take i).map a3c) (((bdy t).take i).map (a2t 2))
theorem IP.a{t:List UInt8}{i:Nat}(v:IP t i)(hi:(bdy t).length≤i):aI t i=aR 1 2 t:=by
 unfold aI aR
 rw[v.h.hd,List.take_of_length_le hi]
theorem IP.ok{t:List UInt8}{i:Nat}(v:IP t i)(hi:(bdy t).length≤i):okI t=(a1a 1 ((hdI t).getD 1 [])&&a1a 1 ((hdI t).getD 2 [])&&(aOk (aI t i)&&decide (atx (aI t i)=t))):=by
 rw[v.a hi]
 have e:=v.al
 rw[List.take_of_length_le hi] at e
 have h3:=v.h3
 rw[v.h.hd] at h3
 unfold okI nmB
 rw[v.h.hd,v.h.lb,decide_eq_true ⟨v.h.l1,v.h.l2⟩,decide_eq_true h3,e];rfl
theorem IP.n1{t:List UInt8}{i:Nat}(v:IP t i)(hi:(bdy t).length≤i)(h:a1a 1 ((hdI t).getD 1 [])=false):a0b.mk (a0t.mk (0:Int) (0:Int)) [] []=raV t∧5=raC t:=c7a (by rw[v.ok hi,h];rfl)
theorem IP.n2{t:List UInt8}{i:Nat}(v:IP t i)(hi:(bdy t).length≤i)(h:a1a 1 ((hdI t).getD 2 [])=false):a0b.mk (a0t.mk (0:Int) (0:Int)) [] []=raV t∧5=raC t:=c7a (by rw[v.ok hi,h,Bool.and_false];rfl)
theorem IP.n3{t:List UInt8}{i:Nat}(v:IP t i)(hi:(bdy t).length≤i)(h:aOk (aI t i)=false):a0b.mk (a0t.mk (0:Int) (0:Int)) [] []=raV t∧5=raC t:=c7a (by rw[v.ok hi,h];simp)
theorem IP.n4{t:List UInt8}{i:Nat}(v:IP t i)(hi:(bdy t).length≤i)(h:¬ atx (aI t i)=t):a0b.mk (a0t.mk (0:Int) (0:Int)) [] []=raV t∧5=raC t:=c7a (by rw[v.ok hi,decide_eq_false h];simp)
theorem IP.yes{t:List UInt8}{i:Nat}(v:IP t i)(hi:(bdy t).length≤i)(h1:a1a 1 ((hdI t).getD 1 [])=true)(h2:a1a 1 ((hdI t).getD 2 [])=true)(h3:aOk (aI t i)=true)(h4:atx (aI t i)=t):aI t i=raV t∧0=raC t:=by
 have e:okI t=true:=by rw[v.ok hi,h1,h2,h3,decide_eq_true h4];rfl
 rw[((b3r t).1 e).1,((b3r t).1 e).2,v.a hi]
 exact⟨rfl,rfl⟩
theorem d5n{p:Prop}{i:Decidable p}(h : @decide p i=false):¬ p := @of_decide_eq_false p i h
theorem d5o{p:Prop}{i:Decidable p}(h : @decide p i=true):p := @of_decide_eq_true p i h
theorem f1l(t:List UInt8)(i:Nat):a0b.mk (a0t.mk (a0n 1 ((hdI t).getD 1 [])) (a0n 1 ((hdI t).getD 2 []))) (((bdy t).take i).map a3c) (((bdy t).take i).map (a2t 2))=aI t i:=rfl
def a4f:Ctr:=⟨a9w,[.v .str],fun (t:List UInt8)=>⟨(some (t.length≤1048576),[⟨(.st .automaton),raV t⟩,⟨(.int .i64),raC t⟩])⟩⟩
def b4g(t:List UInt8):Nat→a0w:=(fun zb=>if Nat.beq zb 100004 then .mk (Unit) (fun u=>HP t) (fun u=>0) [] [1,5,12,17,18,19,20,21,22,23,24,25,26,27,28,29,30,31,32,33,34] (fun u=>[]) [0,2,3,4,6,7,8,9,10,11,13,14,15,16,35,36,37,38,39,40,41,42,43,44,45,46,47,48,49,50,51,52,53,54,55,56,57,58,59,60,61,62,63,64,65,66,67,68,69,70,71,72,73,74,75,76,77,78,79,80,81,82,83,84,85,86,87,88,89,90,91,92,93,94,95,96,97,98,99,100,101,102,103,104,105,106,107,108] (fun u=>[]) [] [] (fun u=>(fun zb=>if Nat.beq zb 0 then .mk (Nat) (fun i=>IP t i) (fun i=>(bdy t).length - i) [] [1,4,5,6,7,9,12,17,18,19,20,21,22,23,24,25,26,27,28,29,30,31,32,33,34,35,36,37,38,39,40,41,42,43,44,45,46,47,48,49,50,51,52,53,54,55,56,57,58,59,60,61] (fun i=>[(64, .imm ⟨(.int .i64),((i:Int):Int)⟩)]) [0,2,3,8,10,13,14,15,16,62,63,64,65,66,67,68,69,70,71,72,73,74,75,76,77,78,79,80,81,82,83,84,85,86,87,88,89,90,91,92,93,94,95,96,97,98,99,100,101,102,103,104,105,106,107,108] (fun i=>[(11, .box [.imm ⟨(.int .i64),(a0n 1 ((hdI t).getD 1 []):Int)⟩, .imm ⟨(.int .i64),(a0n 1 ((hdI t).getD 2 []):Int)⟩, .tree 9000, .tree 9600]),(9000, .tree (.slice .bool) (((bdy t).take i).map a3c:List (List Bool))),(9600, .tree (.slice (.slice (.int .i64))) (((bdy t).take i).map (a2t 2):List (List (List Int))))]) [] [] (fun i=>fun _ => .none) else .none)) else .none)
abbrev b1w(t:List UInt8):Prop:=(∃ u1:Unit,(HP t∧((t=t∧(True∧((lnI t)=(lnI t)∧True)))∧(((0:Int)=(0:Int)∧((0:Int)=(0:Int)∧(True∧(True∧True))))∧True))))
abbrev b1x(t:List UInt8):Prop:=(a0e (((lnI t).length:Int)) →
 (((decide ((61:Int)<(((lnI t).length:Int))))=true →
 ((a0b.mk (a0t.mk (0:Int) (0:Int)) [] [])=(raV t)∧(5:Int)=(raC t)))∧((decide ((61:Int)<(((lnI t).length:Int))))=false →
 (b1w t))))
abbrev b1y(t:List UInt8):Prop:=((true=true →
 ((a0b.mk (a0t.mk (0:Int) (0:Int)) [] [])=(raV t)∧(5:Int)=(raC t)))∧(true=false →
 (b1w t)))
abbrev a3r(t:List UInt8)(i2:Nat):Prop:=(a2d ((((bdy t).take i2).map (a2t 2)).length+([(sN ((((lnI t).take (Int.toNat (((lnI t).length:Int)))).drop 1).getD i2 []))]).length) 24∧(a0e ((i2:Int)+(1:Int))∧(∃ i3:Nat,(IP t i3∧((bdy t).length - i3<(bdy t).length - i2∧((t=t∧(True∧((a1a (1:Int) ((a0a (([32]).getD 0 0) ((lnI t).getD 0 [])).getD 1 []))=(a1a (1:Int) ((a0a (([32]).getD 0 0) ((lnI t).getD 0 [])).getD 1 []))∧((a1a (1:Int) ((a0a (([32]).getD 0 0) ((lnI t).getD 0 [])).getD 2 []))=(a1a (1:Int) ((a0a (([32]).getD 0 0) ((lnI t).getD 0 [])).getD 2 []))∧(True∧((((lnI t).take (Int.toNat (((lnI t).length:Int)))).drop 1)=(((lnI t).take (Int.toNat (((lnI t).length:Int)))).drop 1)∧((((((lnI t).take (Int.toNat (((lnI t).length:Int)))).drop 1).length:Int))=(((((lnI t).take (Int.toNat (((lnI t).length:Int)))).drop 1).length:Int))∧(((i2:Int)+(1:Int))=(i3:Int)∧True))))))))∧(((a0n 1 ((hdI t).getD 1 []))=(a0n 1 ((hdI t).getD 1 []))∧((a0n 1 ((hdI t).getD 2 []))=(a0n 1 ((hdI t).getD 2 []))∧(True∧(True∧True))))∧(((((bdy t).take i2).map a3c)++([(sA ((((lnI t).take (Int.toNat (((lnI t).length:Int)))).drop 1).getD i2 []))]))=(((bdy t).take i3).map a3c)∧(((((bdy t).take i2).map (a2t 2))++([(sN ((((lnI t).take (Int.toNat (((lnI t).length:Int)))).drop 1).getD i2 []))]))=(((bdy t).take i3).map (a2t 2))∧(((0:Int)=(0:Int)∧((0:Int)=(0:Int)∧(True∧(True∧True))))∧True))))))))))
abbrev b1z(t:List UInt8)(i2:Nat):Prop:=(((11:Nat)=11∧(2:Nat)=2)∧((9000:Nat)=9000∧(((11:Nat)=11∧(3:Nat)=3)∧((9600:Nat)=9600∧(a2d ((((bdy t).take i2).map a3c).length+([(sA ((((lnI t).take (Int.toNat (((lnI t).length:Int)))).drop 1).getD i2 []))]).length) 24∧(((11:Nat)=11∧(3:Nat)=3)∧((9600:Nat)=9600∧((a3r t i2)∧((a3r t i2)∧True)))))))))
abbrev b2a(t:List UInt8)(i2:Nat):Prop:=((a0b.mk (a0t.mk (a0n 1 ((hdI t).getD 1 [])) (a0n 1 ((hdI t).getD 2 []))) (((bdy t).take i2).map a3c) (((bdy t).take i2).map (a2t 2)))=(raV t)∧(0:Int)=(raC t))
abbrev a7j(t:List UInt8)(i2:Nat):Prop:=(aOk (a0b.mk (a0t.mk (a0n 1 ((hdI t).getD 1 [])) (a0n 1 ((hdI t).getD 2 []))) (((bdy t).take i2).map a3c) (((bdy t).take i2).map (a2t 2)))=true∧((atx (a0b.mk (a0t.mk (a0n 1 ((hdI t).getD 1 [])) (a0n 1 ((hdI t).getD 2 []))) (((bdy t).take i2).map a3c) (((bdy t).take i2).map (a2t 2)))).length≤140737488355328 →
 (((!decide ((atx (a0b.mk (a0t.mk (a0n 1 ((hdI t).getD 1 [])) (a0n 1 ((hdI t).getD 2 []))) (((bdy t).take i2).map a3c) (((bdy t).take i2).map (a2t 2))))=t))=true →
 ((a0b.mk (a0t.mk (0:Int) (0:Int)) [] [])=(raV t)∧(5:Int)=(raC t)))∧((!decide ((atx (a0b.mk (a0t.mk (a0n 1 ((hdI t).getD 1 [])) (a0n 1 ((hdI t).getD 2 []))) (((bdy t).take i2).map a3c) (((bdy t).take i2).map (a2t 2))))=t))=false →
 (b2a t i2)))))
abbrev a7k(t:List UInt8)(i2:Nat):Prop:=((true=true →
 ((a0b.mk (a0t.mk (0:Int) (0:Int)) [] [])=(raV t)∧(5:Int)=(raC t)))∧(true=false →
 (b2a t i2)))
abbrev b2b(t:List UInt8)(i2:Nat):Prop:=(((!(aOk (a0b.mk (a0t.mk (a0n 1 ((hdI t).getD 1 [])) (a0n 1 ((hdI t).getD 2 []))) (((bdy t).take i2).map a3c) (((bdy t).take i2).map (a2t 2)))))=false →
 (a7j t i2))∧((!(aOk (a0b.mk (a0t.mk (a0n 1 ((hdI t).getD 1 [])) (a0n 1 ((hdI t).getD 2 []))) (((bdy t).take i2).map a3c) (((bdy t).take i2).map (a2t 2)))))=(!false) →
 (a7k t i2)))
theorem c3m(t:List UInt8):awp (a6n [a9d,a2o,a4x,a4e,a6o] [a6l] [] [70,80,81,85,86] []) (a0m a3m) (b4g t) 0 (b9n (a6n [a9d,a2o,a4x,a4e,a6o] [a6l] [] [70,80,81,85,86] []) a3m fun r=>a2e r [⟨(.st .automaton),raV t⟩,⟨(.int .i64),raC t⟩]) (d0v a3m [.val ⟨.str,t⟩]) =
 ((t.length≤1048576∧((lnI t).length≤140737488355328 →
 ((((!(lnB t))=false →
 (a0e (((lnI t).length:Int)) →
 (((decide ((((lnI t).length:Int))<(1:Int)))=false →
 (b1x t))∧((decide ((((lnI t).length:Int))<(1:Int)))=(!false) →
 (b1y t)))))∧((!(lnB t))=(!false) →
 ((true=false →
 (b1x t))∧(true=(!false) →
 (b1y t)))))∧(∀ u1:Unit,(HP t →
 (a0j (0:Int) (lnI t).length∧(((lnI t).getD 0 []).length≤140737488355328 →
 ((([32]).length=1∧((lnI t).getD 0 []).length≤1048576)∧((a0a (([32]).getD 0 0) ((lnI t).getD 0 [])).length≤140737488355328 →
 (a0e (((a0a (([32]).getD 0 0) ((lnI t).getD 0 [])).length:Int)) →
 (((!(decide ((((a0a (([32]).getD 0 0) ((lnI t).getD 0 [])).length:Int))=(3:Int))))=true →
 ((a0b.mk (a0t.mk (0:Int) (0:Int)) [] [])=(raV t)∧(5:Int)=(raC t)))∧((!(decide ((((a0a (([32]).getD 0 0) ((lnI t).getD 0 [])).length:Int))=(3:Int))))=false →
 (a0j (1:Int) (a0a (([32]).getD 0 0) ((lnI t).getD 0 [])).length∧(((a0a (([32]).getD 0 0) ((lnI t).getD 0 [])).getD 1 []).length≤140737488355328 →
 ((0≤(1:Int)∧(1:Int)≤9)∧(a0e (a0n (1:Int) ((a0a (([32]).getD 0 0) ((lnI t).getD 0 [])).getD 1 [])) →
 (a0j (2:Int) (a0a (([32]).getD 0 0) ((lnI t).getD 0 [])).length∧(((a0a (([32]).getD 0 0) ((lnI t).getD 0 [])).getD 2 []).length≤140737488355328 →
 ((0≤(1:Int)∧(1:Int)≤9)∧(a0e (a0n (1:Int) ((a0a (([32]).getD 0 0) ((lnI t).getD 0 [])).getD 2 [])) →
 (a7d (1:Int) (((lnI t).length:Int)) (lnI t).length∧(a0e (((((lnI t).take (Int.toNat (((lnI t).length:Int)))).drop 1).length:Int)) →
 ((∃ i2:Nat,(IP t i2∧((t=t∧(True∧((a1a (1:Int) ((a0a (([32]).getD 0 0) ((lnI t).getD 0 [])).getD 1 []))=(a1a (1:Int) ((a0a (([32]).getD 0 0) ((lnI t).getD 0 [])).getD 1 []))∧((a1a (1:Int) ((a0a (([32]).getD 0 0) ((lnI t).getD 0 [])).getD 2 []))=(a1a (1:Int) ((a0a (([32]).getD 0 0) ((lnI t).getD 0 [])).getD 2 []))∧(True∧((((lnI t).take (Int.toNat (((lnI t).length:Int)))).drop 1)=(((lnI t).take (Int.toNat (((lnI t).length:Int)))).drop 1)∧((((((lnI t).take (Int.toNat (((lnI t).length:Int)))).drop 1).length:Int))=(((((lnI t).take (Int.toNat (((lnI t).length:Int)))).drop 1).length:Int))∧((0:Int)=(i2:Int)∧True))))))))∧(((a0n (1:Int) ((a0a (([32]).getD 0 0) ((lnI t).getD 0 [])).getD 1 []))=(a0n 1 ((hdI t).getD 1 []))∧((a0n (1:Int) ((a0a (([32]).getD 0 0) ((lnI t).getD 0 [])).getD 2 []))=(a0n 1 ((hdI t).getD 2 []))∧(True∧(True∧True))))∧((((bdy t).take i2).map a3c)=[]∧((((bdy t).take i2).map (a2t 2))=[]∧(((0:Int)=(0:Int)∧((0:Int)=(0:Int)∧(True∧(True∧True))))∧True)))))))∧(∀ i2:Nat,(IP t i2 →
 (((decide ((i2:Int)<(((((lnI t).take (Int.toNat (((lnI t).length:Int)))).drop 1).length:Int))))=true →
 (a0j (i2:Int) (((lnI t).take (Int.toNat (((lnI t).length:Int)))).drop 1).length∧(((((lnI t).take (Int.toNat (((lnI t).length:Int)))).drop 1).getD i2 []).length≤140737488355328 →
 (((((lnI t).take (Int.toNat (((lnI t).length:Int)))).drop 1).getD i2 []).length≤1048576∧(((!(a2v 2 ((((lnI t).take (Int.toNat (((lnI t).length:Int)))).drop 1).getD i2 [])))=true →
 ((a0b.mk (a0t.mk (0:Int) (0:Int)) [] [])=(raV t)∧(5:Int)=(raC t)))∧((!(a2v 2 ((((lnI t).take (Int.toNat (((lnI t).length:Int)))).drop 1).getD i2 [])))=false →
 (((11:Nat)=11∧(2:Nat)=2)∧((9000:Nat)=9000∧((7100:Nat)=7100∧(((11:Nat)=11∧(3:Nat)=3)∧((9600:Nat)=9600∧((7120:Nat)=7120∧((((11:Nat)=11∧(2:Nat)=2)∧((9000:Nat)=9000∧(((11:Nat)=11∧(3:Nat)=3)∧((9600:Nat)=9600∧((7120:Nat)=7120∧((a2d ((((bdy t).take i2).map a3c).length+([(sA ((((lnI t).take (Int.toNat (((lnI t).length:Int)))).drop 1).getD i2 []))]).length) 24∧(((11:Nat)=11∧(3:Nat)=3)∧((9600:Nat)=9600∧((7120:Nat)=7120∧((((11:Nat)=11∧(3:Nat)=3)∧((9600:Nat)=9600∧((a3r t i2)∧((a3r t i2)∧True))))∧(((7120:Nat)=7120∧(a3r t i2))∧True))))))∧((b1z t i2)∧True)))))))∧((((11:Nat)=11∧(2:Nat)=2)∧((9000:Nat)=9000∧((7100:Nat)=7100∧(((11:Nat)=11∧(3:Nat)=3)∧((9600:Nat)=9600∧(b1z t i2))))))∧True))))))))))))))∧((decide ((i2:Int)<(((((lnI t).take (Int.toNat (((lnI t).length:Int)))).drop 1).length:Int))))=false →
 (((!(a1a (1:Int) ((a0a (([32]).getD 0 0) ((lnI t).getD 0 [])).getD 1 [])))=false →
 (((!(a1a (1:Int) ((a0a (([32]).getD 0 0) ((lnI t).getD 0 [])).getD 2 [])))=false →
 (b2b t i2))∧((!(a1a (1:Int) ((a0a (([32]).getD 0 0) ((lnI t).getD 0 [])).getD 2 [])))=(!false) →
 ((true=false →
 (a7j t i2))∧(true=(!false) →
 (a7k t i2))))))∧((!(a1a (1:Int) ((a0a (([32]).getD 0 0) ((lnI t).getD 0 [])).getD 1 [])))=(!false) →
 ((true=false →
 (b2b t i2))∧(true=(!false) →
 ((true=false →
 (a7j t i2))∧(true=(!false) →
 (a7k t i2))))))))))))))))))))))))))))))))))):=by kernel_rfl
theorem c3i(hE:a0z [a9d,a2o,a4x,a4e,a6o])(hO:b3g [a6l])(hM:b3f [])(hS:b3h []):Ctr.OGood a4f:=by
 refine⟨a1g b3x rfl (by decide),?_⟩
 show ∀ (t:List UInt8),(t.length≤1048576)→b4m a0k a9w [.val ⟨.str,t⟩] [⟨(.st .automaton),raV t⟩,⟨(.int .i64),raC t⟩]
 intro t hp
 refine d6q (own:=[70,80,81,85,86]) (wr:=[]) (cl:=[]) (ro:=[]) hE hO hM hS b3x c1g (b4g t) ?_
 rewrite [c3m t]
 have f0:=e3b t
 have f1:=a9r 10 t
 refine⟨?_,fun a0=>⟨⟨fun a1=>fun a2=>⟨fun a3=>fun a4=>⟨fun a5=>⟨?_,?_⟩,fun a5=>⟨(),⟨?_,⟨⟨rfl,⟨trivial,⟨rfl,trivial⟩⟩⟩,⟨⟨rfl,⟨rfl,⟨trivial,⟨trivial,trivial⟩⟩⟩⟩,trivial⟩⟩⟩⟩⟩,fun a3=>⟨fun a4=>⟨?_,?_⟩,fun a4=>⟨(),⟨?_,⟨⟨rfl,⟨trivial,⟨rfl,trivial⟩⟩⟩,⟨⟨rfl,⟨rfl,⟨trivial,⟨trivial,trivial⟩⟩⟩⟩,trivial⟩⟩⟩⟩⟩⟩,fun a1=>⟨fun a2=>fun a3=>⟨fun a4=>⟨?_,?_⟩,fun a4=>⟨(),⟨?_,⟨⟨rfl,⟨trivial,⟨rfl,trivial⟩⟩⟩,⟨⟨rfl,⟨rfl,⟨trivial,⟨trivial,trivial⟩⟩⟩⟩,trivial⟩⟩⟩⟩⟩,fun a2=>⟨fun a3=>⟨?_,?_⟩,fun a3=>⟨(),⟨?_,⟨⟨rfl,⟨trivial,⟨rfl,trivial⟩⟩⟩,⟨⟨rfl,⟨rfl,⟨trivial,⟨trivial,trivial⟩⟩⟩⟩,trivial⟩⟩⟩⟩⟩⟩⟩,fun u1=>fun a1=>⟨?_,fun a2=>⟨?_,fun a3=>fun a4=>⟨fun a5=>⟨?_,?_⟩,fun a5=>⟨?_,fun a6=>⟨?_,fun a7=>⟨?_,fun a8=>⟨?_,fun a9=>⟨?_,fun a10=>⟨⟨0,⟨?_,⟨⟨rfl,⟨trivial,⟨rfl,⟨rfl,⟨trivial,⟨rfl,⟨rfl,⟨?_,trivial⟩⟩⟩⟩⟩⟩⟩⟩,⟨⟨?_,⟨?_,⟨trivial,⟨trivial,trivial⟩⟩⟩⟩,⟨?_,⟨?_,⟨⟨rfl,⟨rfl,⟨trivial,⟨trivial,trivial⟩⟩⟩⟩,trivial⟩⟩⟩⟩⟩⟩⟩,fun i2=>fun a11=>⟨fun a12=>⟨?_,fun a13=>⟨?_,⟨fun a14=>⟨?_,?_⟩,fun a14=>⟨⟨?_,?_⟩,⟨?_,⟨?_,⟨⟨?_,?_⟩,⟨?_,⟨?_,⟨⟨⟨?_,?_⟩,⟨?_,⟨⟨?_,?_⟩,⟨?_,⟨?_,⟨⟨?_,⟨⟨?_,?_⟩,⟨?_,⟨?_,⟨⟨⟨?_,?_⟩,⟨?_,⟨⟨?_,⟨?_,⟨i2+1,⟨?_,⟨?_,⟨⟨rfl,⟨trivial,⟨rfl,⟨rfl,⟨trivial,⟨rfl,⟨rfl,⟨?_,trivial⟩⟩⟩⟩⟩⟩⟩⟩,⟨⟨rfl,⟨rfl,⟨trivial,⟨trivial,trivial⟩⟩⟩⟩,⟨?_,⟨?_,⟨⟨rfl,⟨rfl,⟨trivial,⟨trivial,trivial⟩⟩⟩⟩,trivial⟩⟩⟩⟩⟩⟩⟩⟩⟩⟩,⟨⟨?_,⟨?_,⟨i2+1,⟨?_,⟨?_,⟨⟨rfl,⟨trivial,⟨rfl,⟨rfl,⟨trivial,⟨rfl,⟨rfl,⟨?_,trivial⟩⟩⟩⟩⟩⟩⟩⟩,⟨⟨rfl,⟨rfl,⟨trivial,⟨trivial,trivial⟩⟩⟩⟩,⟨?_,⟨?_,⟨⟨rfl,⟨rfl,⟨trivial,⟨trivial,trivial⟩⟩⟩⟩,trivial⟩⟩⟩⟩⟩⟩⟩⟩⟩⟩,trivial⟩⟩⟩⟩,⟨⟨?_,⟨?_,⟨?_,⟨i2+1,⟨?_,⟨?_,⟨⟨rfl,⟨trivial,⟨rfl,⟨rfl,⟨trivial,⟨rfl,⟨rfl,⟨?_,trivial⟩⟩⟩⟩⟩⟩⟩⟩,⟨⟨rfl,⟨rfl,⟨trivial,⟨trivial,trivial⟩⟩⟩⟩,⟨?_,⟨?_,⟨⟨rfl,⟨rfl,⟨trivial,⟨trivial,trivial⟩⟩⟩⟩,trivial⟩⟩⟩⟩⟩⟩⟩⟩⟩⟩⟩,trivial⟩⟩⟩⟩⟩⟩,⟨⟨⟨?_,?_⟩,⟨?_,⟨⟨?_,?_⟩,⟨?_,⟨?_,⟨⟨?_,?_⟩,⟨?_,⟨⟨?_,⟨?_,⟨i2+1,⟨?_,⟨?_,⟨⟨rfl,⟨trivial,⟨rfl,⟨rfl,⟨trivial,⟨rfl,⟨rfl,⟨?_,trivial⟩⟩⟩⟩⟩⟩⟩⟩,⟨⟨rfl,⟨rfl,⟨trivial,⟨trivial,trivial⟩⟩⟩⟩,⟨?_,⟨?_,⟨⟨rfl,⟨rfl,⟨trivial,⟨trivial,trivial⟩⟩⟩⟩,trivial⟩⟩⟩⟩⟩⟩⟩⟩⟩⟩,⟨⟨?_,⟨?_,⟨i2+1,⟨?_,⟨?_,⟨⟨rfl,⟨trivial,⟨rfl,⟨rfl,⟨trivial,⟨rfl,⟨rfl,⟨?_,trivial⟩⟩⟩⟩⟩⟩⟩⟩,⟨⟨rfl,⟨rfl,⟨trivial,⟨trivial,trivial⟩⟩⟩⟩,⟨?_,⟨?_,⟨⟨rfl,⟨rfl,⟨trivial,⟨trivial,trivial⟩⟩⟩⟩,trivial⟩⟩⟩⟩⟩⟩⟩⟩⟩⟩,trivial⟩⟩⟩⟩⟩⟩⟩⟩⟩,trivial⟩⟩⟩⟩⟩⟩⟩,⟨⟨⟨?_,?_⟩,⟨?_,⟨?_,⟨⟨?_,?_⟩,⟨?_,⟨⟨?_,?_⟩,⟨?_,⟨⟨?_,?_⟩,⟨?_,⟨?_,⟨⟨?_,?_⟩,⟨?_,⟨⟨?_,⟨?_,⟨i2+1,⟨?_,⟨?_,⟨⟨rfl,⟨trivial,⟨rfl,⟨rfl,⟨trivial,⟨rfl,⟨rfl,⟨?_,trivial⟩⟩⟩⟩⟩⟩⟩⟩,⟨⟨rfl,⟨rfl,⟨trivial,⟨trivial,trivial⟩⟩⟩⟩,⟨?_,⟨?_,⟨⟨rfl,⟨rfl,⟨trivial,⟨trivial,trivial⟩⟩⟩⟩,trivial⟩⟩⟩⟩⟩⟩⟩⟩⟩⟩,⟨⟨?_,⟨?_,⟨i2+1,⟨?_,⟨?_,⟨⟨rfl,⟨trivial,⟨rfl,⟨rfl,⟨trivial,⟨rfl,⟨rfl,⟨?_,trivial⟩⟩⟩⟩⟩⟩⟩⟩,⟨⟨rfl,⟨rfl,⟨trivial,⟨trivial,trivial⟩⟩⟩⟩,⟨?_,⟨?_,⟨⟨rfl,⟨rfl,⟨trivial,⟨trivial,trivial⟩⟩⟩⟩,trivial⟩⟩⟩⟩⟩⟩⟩⟩⟩⟩,trivial⟩⟩⟩⟩⟩⟩⟩⟩⟩⟩⟩⟩⟩⟩,trivial⟩⟩⟩⟩⟩⟩⟩⟩⟩⟩⟩,fun a12=>⟨fun a13=>⟨fun a14=>⟨fun a15=>⟨?_,fun a16=>⟨fun a17=>⟨?_,?_⟩,fun a17=>⟨?_,?_⟩⟩⟩,fun a15=>⟨fun a16=>⟨?_,?_⟩,fun a16=>⟨?_,?_⟩⟩⟩,fun a14=>⟨fun a15=>⟨?_,fun a16=>⟨fun a17=>⟨?_,?_⟩,fun a17=>⟨?_,?_⟩⟩⟩,fun a15=>⟨fun a16=>⟨?_,?_⟩,fun a16=>⟨?_,?_⟩⟩⟩⟩,fun a13=>⟨fun a14=>⟨fun a15=>⟨?_,fun a16=>⟨fun a17=>⟨?_,?_⟩,fun a17=>⟨?_,?_⟩⟩⟩,fun a15=>⟨fun a16=>⟨?_,?_⟩,fun a16=>⟨?_,?_⟩⟩⟩,fun a14=>⟨fun a15=>⟨?_,fun a16=>⟨fun a17=>⟨?_,?_⟩,fun a17=>⟨?_,?_⟩⟩⟩,fun a15=>⟨fun a16=>⟨?_,?_⟩,fun a16=>⟨?_,?_⟩⟩⟩⟩⟩⟩⟩⟩⟩⟩⟩⟩⟩⟩⟩⟩⟩
 all_goals try and_intros
 all_goals (try simp only[Bool.not_true,Bool.not_false,decide_eq_true_eq,decide_eq_false_iff_not] at *);(try simp only[e3s,e3t,e3u,tn1,d7f,List.getD_cons_zero,Int.toNat_natCast,decide_eq_true_eq,decide_eq_false_iff_not,Bool.not_eq_true',Bool.not_eq_false',Bool.not_true,Bool.not_false,a0j,a0e,a7d,a2d,List.length_cons,List.length_nil,List.take_length,f0s,e9j,f1l] at *);first|done|rfl|with_reducible trivial|(have v:IP t _:=(by with_reducible assumption);have p:=v.len;first|omega|exact v.next (by omega) (by with_reducible assumption)|exact (v.step (by omega) (by with_reducible assumption)).1|exact (v.step (by omega) (by with_reducible assumption)).2|exact (v.bad (by omega) (by with_reducible assumption)).1|exact (v.bad (by omega) (by with_reducible assumption)).2|exact (v.n1 (by omega) (by with_reducible assumption)).1|exact (v.n1 (by omega) (by with_reducible assumption)).2|exact (v.n2 (by omega) (by with_reducible assumption)).1|exact (v.n2 (by omega) (by with_reducible assumption)).2|exact (v.n3 (by omega) (by with_reducible assumption)).1|exact (v.n3 (by omega) (by with_reducible assumption)).2|exact (v.n4 (by omega) (by with_reducible assumption)).1|exact (v.n4 (by omega) (by with_reducible assumption)).2|exact (v.n4 (by omega) (d5n (by assumption))).1|exact (v.n4 (by omega) (d5n (by assumption))).2|exact (v.yes (by omega) (by with_reducible assumption) (by with_reducible assumption) (by with_reducible assumption) (by with_reducible assumption)).1|exact (v.yes (by omega) (by with_reducible assumption) (by with_reducible assumption) (by with_reducible assumption) (by with_reducible assumption)).2|exact (v.yes (by omega) (by with_reducible assumption) (by with_reducible assumption) (by with_reducible assumption) (d5o (by assumption))).1|exact (v.yes (by omega) (by with_reducible assumption) (by with_reducible assumption) (by with_reducible assumption) (d5o (by assumption))).2|with_reducible assumption|exact Nat.le_trans (e7l t _) hp)|(have v:HP t:=(by with_reducible assumption);have l1:=v.l1;have l2:=v.l2;first|omega|exact (v.no (by omega)).1|exact (v.no (by omega)).2|exact v.to (by omega)|exact Nat.le_trans (e7v t _) hp|exact Nat.le_trans (d4a t 0).1 hp)|(first|exact (e0h t (.inl (by with_reducible assumption))).1|exact (e0h t (.inl (by with_reducible assumption))).2|exact (e0h t (.inr (by omega))).1|exact (e0h t (.inr (by omega))).2|exact⟨(by with_reducible assumption),(by omega),(by omega)⟩)|omega|(trace_state;done)
theorem c0z:Ctr.OGood a4f:=c3i ⟨d2h,b0t,c0h,c0g,c1k,trivial⟩ ⟨c6w,trivial⟩ trivial trivial
end
end Go.Proofs.YtmdefiphdgcijaaDoor

set_option linter.unusedVariables false
set_option linter.unusedSimpArgs false
set_option linter.unusedSectionVars false
set_option maxRecDepth 4000
set_option maxHeartbeats 4000000
namespace Go.Proofs.YtmdefiphdgcijaaDoor
noncomputable section
def lX(t:List UInt8)(i:Nat):List UInt8:=(a0a 10 t).getD (i+1) []
theorem f1v(t:List UInt8)(i:Nat):(a0a 10 t).getD (i+1) []=lX t i:=rfl
theorem f1r(t:List UInt8):a0a 32 ((a0a 10 t).getD 0 [])=hdW t:=rfl
def hdB(l:List UInt8):Bool:=decide ((a0a 32 l).getD 0 []=[115,116,97,116,101])
def lnM(l:List UInt8):Nat:=bif hdB l then min (lnW l).length (((lnW l).takeWhile (a3b 9)).length+1) else 0
def eA(l:List UInt8):List Bool:=((lnW l).take (lnM l)).map cY
def eN(l:List UInt8):List (List Int):=((lnW l).take (lnM l)).map cR
theorem d6w(l:List UInt8):stB l=(hdB l&&a1j (a3b 9) (lnW l)):=rfl
theorem f2f(l:List UInt8)(h:a1j (a3b 9) (lnW l)=true):(lnW l).map cY=a3c l∧(lnW l).map cR=a2t 9 l:=by
 have key:∀ w∈lnW l,cY w=a2h w∧cR w=a4r 9 w:=fun w hw=>by
  have:=a9q _ _ h w hw
  unfold a3b at this
  rw[Bool.and_eq_true] at this
  refine⟨?_,?_⟩
  ·unfold cY;rw[this.1];rfl
  ·unfold cR;rw[d0x _ _ this.1];rfl
 exact⟨a4p _ _ _ fun w hw=>(key w hw).1,a4p _ _ _ fun w hw=>(key w hw).2⟩
theorem f0n(l:List UInt8)(h:stB l=true):eA l=a3c l∧eN l=a2t 9 l:=by
 rw[d6w,Bool.and_eq_true] at h
 have hm:lnM l=(lnW l).length:=by
  unfold lnM
  rw[h.1,d0x _ _ h.2,cond_true];omega
 unfold eA eN
 rw[hm,List.take_length]
 exact f2f l h.2
theorem e4e(t:List UInt8)(i:Nat)(h:i<(bdy t).length):lX t i=(bdy t).getD i []:=by
 unfold bdy at h ⊢
 unfold lX
 rw[List.length_drop] at h
 rw[List.getD_eq_getElem?_getD,List.getD_eq_getElem?_getD,List.getElem?_drop,Nat.add_comm]
 unfold lnI at h ⊢
 rw[List.length_take] at h
 rw[List.getElem?_take,if_pos (by omega)]
theorem b6k(t:List UInt8)(i:Nat):(lX t i).length≤t.length:=a8f _ _ (a9l 10 t) _
theorem e5u(t:List UInt8)(i:Nat):((hdW t).getD i []).length≤t.length:=Nat.le_trans (a8f _ _ (a9l 32 _) i) (a8f _ _ (a9l 10 t) 0)
theorem e4n{t:List UInt8}(h:okS t=false):a0b.mk (a0t.mk (0:Int) (0:Int)) [] []=raV t∧5=raC t:=⟨((d4i t).2 h).1.symm,((d4i t).2 h).2.symm⟩
def gO(t:List UInt8)(i:Nat):Bool:=nmB 9 t&&a1j stB ((bdy t).take i)
def gI(t:List UInt8)(i k:Nat):Bool:=hdB (lX t i)&&a1j (a3b 9) ((lnW (lX t i)).take k)
structure OP(t:List UInt8)(i:Nat):Prop where
 h:okH t=true
 le:i≤(bdy t).length
structure QP(t:List UInt8)(i k:Nat):Prop where
 o:OP t i
 lt:i<(bdy t).length
 g:gO t i=true
 le:k≤(lnW (lX t i)).length
 pos:0<k→gI t i (k - 1)=true
theorem e6h(t:List UInt8)(h:okH t=true):(a0a 10 t).length=(bdy t).length+2∧(hdW t).length=3:=by
 simp only[okH,Bool.and_eq_true,decide_eq_true_eq] at h
 have:=e3b t
 have:=e5c t
 exact⟨by omega,h.2.2.1⟩
theorem OP.len{t:List UInt8}{i:Nat}(v:OP t i):(((bdy t).take i).map eA).length=i∧(((bdy t).take i).map eN).length=i∧i≤(bdy t).length∧(a0a 10 t).length=(bdy t).length+2∧(hdW t).length=3 :=
 ⟨by have:=v.le;simp;omega,by have:=v.le;simp;omega,v.le,e6h t v.h⟩
theorem e9z{t:List UInt8}(h:okH t=true):OP t 0:=⟨h,Nat.zero_le _⟩
theorem f2h(t:List UInt8)(h:a1a 9 ((hdW t).getD 1 [])=true):a1a 9 ((hdW t).getD 2 [])=gO t 0:=by
 unfold gO nmB;rw[h];simp[a1j]
theorem f2g(t:List UInt8)(h:a1a 9 ((hdW t).getD 1 [])=false):false=gO t 0:=by
 unfold gO nmB;rw[h];rfl
theorem OP.to{t:List UInt8}{i:Nat}(v:OP t i)(hi:i<(bdy t).length)(h:gO t i=true):QP t i 0:=⟨v,hi,h,Nat.zero_le _,fun h=>absurd h (Nat.lt_irrefl 0)⟩
theorem f2d(t:List UInt8)(i:Nat):decide ((a0a 32 (lX t i)).getD 0 []=[115,116,97,116,101])=gI t i 0:=by
 unfold gI hdB;simp[a1j]
theorem QP.len{t:List UInt8}{i k:Nat}(v:QP t i k):(((lnW (lX t i)).take k).map cY).length=k∧(((lnW (lX t i)).take k).map cR).length=k∧k≤(lnW (lX t i)).length∧(a0a 32 (lX t i)).length=(lnW (lX t i)).length+1∧(a0a 32 (lX t i)).length≤(lX t i).length+1∧i<(bdy t).length∧(lX t i).length≤t.length :=
 ⟨by have:=v.le;simp;omega,by have:=v.le;simp;omega,v.le,e5x _,a9r 32 _,v.lt,b6k t i⟩
theorem QP.next{t:List UInt8}{i k:Nat}(v:QP t i k)(hk:k<(lnW (lX t i)).length)(h:gI t i k=true):QP t i (k+1):=⟨v.o,v.lt,v.g,hk,fun _=>h⟩
theorem QP.good{t:List UInt8}{i k:Nat}(_v:QP t i k)(hk:k<(lnW (lX t i)).length)(h:gI t i k=true):a3b 9 ((lnW (lX t i)).getD k [])=gI t i (k+1):=by
 unfold gI at h ⊢
 rw[Bool.and_eq_true] at h
 rw[h.1,a6f _ [] _ k hk,h.2];simp
theorem QP.step{t:List UInt8}{i k:Nat}(_v:QP t i k)(hk:k<(lnW (lX t i)).length):((lnW (lX t i)).take k).map cY++[cY ((lnW (lX t i)).getD k [])]=((lnW (lX t i)).take (k+1)).map cY∧((lnW (lX t i)).take k).map cR++[cR ((lnW (lX t i)).getD k [])]=((lnW (lX t i)).take (k+1)).map cR:=by
 rw[a2k [] (lnW (lX t i)) k hk]
 exact⟨by simp,by simp⟩
theorem f1i{α:Type}(p:α→Bool)(z:α)(xs:List α)(k:Nat)(hk:k<xs.length)(h:a1j p (xs.take k)=true)(h2:p (xs.getD k z)=false):(xs.takeWhile p).length=k:=by
 rw[e2d p z xs k hk h h2,List.length_take];omega
theorem QP.m{t:List UInt8}{i k:Nat}(v:QP t i k)(h:(lnW (lX t i)).length≤k∧gI t i k=true∨gI t i k=false):lnM (lX t i)=k∧gI t i k=stB (lX t i):=by
 have hle:=v.le
 rcases h with ⟨h1,h2⟩|h
 ·have e:k=(lnW (lX t i)).length:=by omega
  unfold gI at h2 ⊢
  rw[List.take_of_length_le h1,Bool.and_eq_true] at h2
  refine⟨?_,by rw[List.take_of_length_le h1,d6w]⟩
  unfold lnM
  rw[h2.1,d0x _ _ h2.2,cond_true];omega
 ·rcases Nat.eq_zero_or_pos k with e|e
  ·subst e
   unfold gI at h
   have hh:hdB (lX t i)=false:=by simpa [a1j] using h
   refine⟨by unfold lnM;rw[hh];rfl,?_⟩
   unfold gI
   rw[d6w,hh];rfl
  ·have hp:=v.pos e
   unfold gI at hp h
   rw[Bool.and_eq_true] at hp
   obtain⟨j,rfl⟩:∃ j,k=j+1:=⟨k - 1,by omega⟩
   rw[Nat.add_sub_cancel] at hp
   rw[hp.1,a6f _ [] _ j (by omega),hp.2] at h
   have hb:a3b 9 ((lnW (lX t i)).getD j [])=false:=by simpa using h
   refine⟨?_,?_⟩
   ·unfold lnM
    rw[hp.1,f1i _ [] _ j (by omega) hp.2 hb,cond_true];omega
   ·unfold gI
    rw[d6w,a6f _ [] _ j (by omega),hb,b3w _ [] _ j (by omega) hb];simp
theorem QP.done{t:List UInt8}{i k:Nat}(v:QP t i k)(h:(lnW (lX t i)).length≤k∨gI t i k=false):OP t (i+1)∧gI t i k=gO t (i+1)∧((bdy t).take i).map eA++[((lnW (lX t i)).take k).map cY]=((bdy t).take (i+1)).map eA∧((bdy t).take i).map eN++[((lnW (lX t i)).take k).map cR]=((bdy t).take (i+1)).map eN:=by
 have h':(lnW (lX t i)).length≤k∧gI t i k=true∨gI t i k=false:=by
  cases hg:gI t i k
  ·exact .inr rfl
  ·rcases h with h|h
   ·exact .inl ⟨h,rfl⟩
   ·rw[hg] at h;cases h
 obtain⟨m,g⟩:=v.m h'
 have ea:((lnW (lX t i)).take k).map cY=eA ((bdy t).getD i []):=by rw[←e4e t i v.lt];unfold eA;rw[m]
 have en:((lnW (lX t i)).take k).map cR=eN ((bdy t).getD i []):=by rw[←e4e t i v.lt];unfold eN;rw[m]
 refine⟨⟨v.o.h,v.lt⟩,?_,?_,?_⟩
 ·have hg:=v.g
  unfold gO at hg ⊢
  rw[Bool.and_eq_true] at hg
  rw[g,hg.1,a6f _ [] _ i v.lt,hg.2,e4e t i v.lt];rfl
 ·rw[ea,a2k [] (bdy t) i v.lt];simp
 ·rw[en,a2k [] (bdy t) i v.lt];simp
structure QG(t:List UInt8)(i k:Nat):Prop where
 q:QP t i k
 lt:k<(lnW (lX t i)).length
 g:gI t i k=true
theorem QP.to{t:List UInt8}{i k:Nat}(v:QP t i k)(hk:k<(lnW (lX t i)).length)(h:gI t i k=true):QG t i k:=⟨v,hk,h⟩
def aS(t:List UInt8)(i:Nat):a0b:=a0b.mk (a0t.mk (a0n 9 ((hdW t).getD 1 [])) (a0n 9 ((hdW t).getD 2 []))) (((bdy t).take i).map eA) (((bdy t).take i).map eN)
theorem f1m(t:List UInt8)(i:Nat):a0b.mk (a0t.mk (a0n 9 ((hdW t).getD 1 [])) (a0n 9 ((hdW t).getD 2 []))) (((bdy t).take i).map eA) (((bdy t).take i).map eN)=aS t i:=rfl
theorem OP.no{t:List UInt8}{i:Nat}(v:OP t i)(h:gO t i=false):a0b.mk (a0t.mk (0:Int) (0:Int)) [] []=raV t∧5=raC t:=e4n (by
 unfold okS
 unfold gO at h
 rw[Bool.and_eq_false_iff] at h
 rcases h with h|h
 ·rw[h];simp
 ·have:a1j stB (bdy t)=false:=by
   cases hb:a1j stB (bdy t) with
   | false=>rfl
   | true =>
    have:a1j stB ((bdy t).take i)=true:=b3v _ _ fun x hx=>a9q _ _ hb x (List.mem_of_mem_take hx)
    rw[this] at h;cases h
  rw[this];simp)
theorem OP.a{t:List UInt8}{i:Nat}(v:OP t i)(hi:(bdy t).length≤i)(h:gO t i=true):aS t i=aR 9 9 t∧okS t=aOk (aS t i):=by
 unfold gO at h
 rw[List.take_of_length_le hi,Bool.and_eq_true] at h
 have e:aS t i=aR 9 9 t:=by
  unfold aS aR
  rw[List.take_of_length_le hi,a4p eA a3c _ fun l hl=>(f0n l (a9q _ _ h.2 l hl)).1,a4p eN (a2t 9) _ fun l hl=>(f0n l (a9q _ _ h.2 l hl)).2]
 refine⟨e,?_⟩
 unfold okS
 rw[v.h,h.1,h.2,e];rfl
theorem OP.bad{t:List UInt8}{i:Nat}(v:OP t i)(hi:(bdy t).length≤i)(h:gO t i=true)(h2:aOk (aS t i)=false):a0b.mk (a0t.mk (0:Int) (0:Int)) [] []=raV t∧5=raC t:=e4n (by rw[(v.a hi h).2,h2])
theorem OP.yes{t:List UInt8}{i:Nat}(v:OP t i)(hi:(bdy t).length≤i)(h:gO t i=true)(h2:aOk (aS t i)=true):aS t i=raV t∧0=raC t:=by
 obtain⟨e1,e2⟩:=v.a hi h
 obtain⟨k1,k2⟩:=(d4i t).1 (by rw[e2,h2])
 rw[k1,k2,e1]
 exact⟨rfl,rfl⟩
theorem c2i{t:List UInt8}(h:okH t=false):a0b.mk (a0t.mk (0:Int) (0:Int)) [] []=raV t∧5=raC t:=e4n (by unfold okS;rw[h];rfl)
theorem d6l(t:List UInt8):okH t=(decide (2≤(a0a 10 t).length)&&(decide ((a0a 10 t).getD ((a0a 10 t).length - 1) []=[])&&(decide ((hdW t).length=3)&&decide ((hdW t).getD 0 []=[97,117,116,111,109,97,116,111,110])))):=rfl
theorem oh1{t:List UInt8}(h:¬ 2≤(a0a 10 t).length):okH t=false:=by rw[d6l,decide_eq_false h];rfl
theorem oh2{t:List UInt8}(h:¬ (a0a 10 t).getD ((a0a 10 t).length - 1) []=[]):okH t=false:=by rw[d6l,decide_eq_false h];simp
theorem oh3{t:List UInt8}(h:¬ (hdW t).length=3):okH t=false:=by rw[d6l,decide_eq_false h];simp
theorem oh4{t:List UInt8}(h:¬ (hdW t).getD 0 []=[97,117,116,111,109,97,116,111,110]):okH t=false:=by rw[d6l,decide_eq_false h];simp
theorem oh5{t:List UInt8}(h1:2≤(a0a 10 t).length)(h2:(a0a 10 t).getD ((a0a 10 t).length - 1) []=[])(h3:(hdW t).length=3)(h4:(hdW t).getD 0 []=[97,117,116,111,109,97,116,111,110]):okH t=true:=by
 rw[d6l,decide_eq_true h1,decide_eq_true h2,decide_eq_true h3,decide_eq_true h4];rfl
theorem tnm(n:Nat)(h:1≤n):((n:Int) - 1).toNat=n - 1:=by omega
def a4n:Ctr:=⟨a9y,[.v .str],fun (t:List UInt8)=>⟨(some (t.length≤1048576),[⟨(.st .automaton),raV t⟩,⟨(.int .i64),raC t⟩])⟩⟩
def b5a(t:List UInt8):Nat→a0w:=(fun zb=>if Nat.beq zb 100005 then .mk (Unit) (fun u=>okH t=true) (fun u=>0) [] [0,1,20,21,22,23,24,25,26,27,28,29,30,31,32,33,34,35,36,37,38,39,40,41,42,43,44,45,46,47,48,49] (fun u=>[]) [2,3,4,5,6,7,8,9,10,11,12,13,14,15,16,17,18,19,50,51,52,53,54,55,56,57,58,59,60,61,62,63,64,65,66,67,68,69,70,71,72,73,74,75,76,77,78,79,80,81,82,83,84,85,86,87,88,89,90,91,92,93,94,95,96,97,98,99,100,101,102,103,104,105,106,107,108,109,110,111,112,113,114,115,116,117,118,119,120,121,122,123,124,125,126,127,128,129,130,131,132,133,134,135,136,137,138,139,140] (fun u=>[]) [] [] (fun u=>(fun zb=>if Nat.beq zb 100010 then .mk (Unit) (fun u=>okH t=true) (fun u=>0) [] [0,1,5,7,8,9,10,20,21,22,23,24,25,26,27,28,29,30,31,32,33,34,35,36,37,38,39,40,41,42,43,44,45,46,47,48,49,50,51,52,53,54,55,56,57,58,59,60,61,62,63,64,65,66,67,68,69,70,71,72] (fun u=>[(11, .imm ⟨.bool,(gO t 0:Bool)⟩)]) [2,3,4,6,11,12,13,14,15,16,17,18,19,73,74,75,76,77,78,79,80,81,82,83,84,85,86,87,88,89,90,91,92,93,94,95,96,97,98,99,100,101,102,103,104,105,106,107,108,109,110,111,112,113,114,115,116,117,118,119,120,121,122,123,124,125,126,127,128,129,130,131,132,133,134,135,136,137,138,139,140] (fun u=>[]) [] [] (fun u=>(fun zb=>if Nat.beq zb 0 then .mk (Nat) (fun i=>OP t i) (fun i=>(bdy t).length - i) [] [0,1,5,7,8,9,10,20,21,22,23,24,25,26,27,28,29,30,31,32,33,34,35,36,37,38,39,40,41,42,43,44,45,46,47,48,49,50,51,52,53,54,55,56,57,58,59,60,61,62,63,64,65,66,67,68,69,70,71,72] (fun i=>[(12, .imm ⟨(.int .i64),((i:Int)+1:Int)⟩),(11, .imm ⟨.bool,(gO t i:Bool)⟩)]) [2,3,4,11,12,13,14,15,16,17,18,19,73,74,75,76,77,78,79,80,81,82,83,84,85,86,87,88,89,90,91,92,93,94,95,96,97,98,99,100,101,102,103,104,105,106,107,108,109,110,111,112,113,114,115,116,117,118,119,120,121,122,123,124,125,126,127,128,129,130,131,132,133,134,135,136,137,138,139,140] (fun i=>[(6, .box [.imm ⟨(.int .i64),(a0n 9 ((hdW t).getD 1 []):Int)⟩, .imm ⟨(.int .i64),(a0n 9 ((hdW t).getD 2 []):Int)⟩, .row 3000, .row 3001]),(3000, .row e7i (.slice .bool) (((bdy t).take i).map eA:List (List Bool))),(3001, .row e2f (.slice (.slice (.int .i64))) (((bdy t).take i).map eN:List (List (List Int))))]) [] [] (fun i=>(fun zb=>if Nat.beq zb 100013 then .mk (Unit) (fun u=>QP t i 0) (fun u=>0) [] [0,1,5,7,8,9,10,20,21,22,23,24,25,26,27,28,29,30,31,32,33,34,35,36,37,38,39,40,41,42,43,44,45,46,47,48,49,50,51,52,53,54,55,56,57,58,59,60,61,62,63,64,65,66,67,68,69,70,71,72,79] (fun u=>[]) [2,3,4,6,11,12,13,14,15,16,17,18,19,73,74,75,76,77,78,79,80,81,82,83,84,85,86,87,88,89,90,91,92,93,94,95,96,97,98,99,100,101,102,103,104,105,106,107,108,109,110,111,112,113,114,115,116,117,118,119,120,121,122,123,124,125,126,127,128,129,130,131,132,133,134,135,136,137,138,139,140,3000,3001] (fun u=>[]) [] [] (fun u=>(fun zb=>if Nat.beq zb 2 then .mk (Nat) (fun k=>QP t i k) (fun k=>(lnW (lX t i)).length - k) [] [0,1,5,7,8,9,10,20,21,22,23,24,25,26,27,28,29,30,31,32,33,34,35,36,37,38,39,40,41,42,43,44,45,46,47,48,49,50,51,52,53,54,55,56,57,58,59,60,61,62,63,64,65,66,67,68,69,70,71,72,92,93] (fun k=>[(16, .imm ⟨(.int .i64),((k:Int)+1:Int)⟩),(11, .imm ⟨.bool,(gI t i k:Bool)⟩),(14, .row 3014),(15, .row 3015)]) [2,6,3000,3001] (fun k=>[(3014, .row d4s .bool (((lnW (lX t i)).take k).map cY:List Bool)),(3015, .row e4u (.slice (.int .i64)) (((lnW (lX t i)).take k).map cR:List (List Int)))]) [(3014,92),(3015,93)] [] (fun k=>(fun zb=>if Nat.beq zb 100020 then .mk (Unit) (fun u=>QG t i k) (fun u=>0) [] [0,1,5,7,8,9,10,20,21,22,23,24,25,26,27,28,29,30,31,32,33,34,35,36,37,38,39,40,41,42,43,44,45,46,47,48,49,50,51,52,53,54,55,56,57,58,59,60,61,62,63,64,65,66,67,68,69,70,71,72,99] (fun u=>[]) [2,3,4,6,11,12,13,14,15,16,17,18,19,73,74,75,76,77,78,79,80,81,82,83,84,85,86,87,88,89,90,91,92,93,94,95,96,97,98,99,100,101,102,103,104,105,106,107,108,109,110,111,112,113,114,115,116,117,118,119,120,121,122,123,124,125,126,127,128,129,130,131,132,133,134,135,136,137,138,139,140,3000,3001,3014,3015] (fun u=>[]) [] [] (fun u=>fun _ => .none) else .none)) else .none)) else .none)) else .none)) else .none)) else .none)
abbrev b2i(t:List UInt8):Prop:=(∃ u1:Unit,(okH t=true∧((True∧((a0a (bt (10:Int)) t)=(a0a (bt (10:Int)) t)∧((a0a (bt (32:Int)) ((a0a (bt (10:Int)) t).getD 0 []))=(a0a (bt (32:Int)) ((a0a (bt (10:Int)) t).getD 0 []))∧True)))∧(((0:Int)=(0:Int)∧((0:Int)=(0:Int)∧(True∧(True∧True))))∧True))))
abbrev a8i(t:List UInt8):Prop:=(a0j (0:Int) (a0a (bt (32:Int)) ((a0a (bt (10:Int)) t).getD 0 [])).length∧(((a0a (bt (32:Int)) ((a0a (bt (10:Int)) t).getD 0 [])).getD 0 []).length≤140737488355328 →
 (((!decide (((a0a (bt (32:Int)) ((a0a (bt (10:Int)) t).getD 0 [])).getD 0 [])=([97,117,116,111,109,97,116,111,110])))=true →
 ((a0b.mk (a0t.mk (0:Int) (0:Int)) [] [])=(raV t)∧(5:Int)=(raC t)))∧((!decide (((a0a (bt (32:Int)) ((a0a (bt (10:Int)) t).getD 0 [])).getD 0 [])=([97,117,116,111,109,97,116,111,110])))=false →
 (b2i t)))))
abbrev a8j(t:List UInt8):Prop:=((true=true →
 ((a0b.mk (a0t.mk (0:Int) (0:Int)) [] [])=(raV t)∧(5:Int)=(raC t)))∧(true=false →
 (b2i t)))
abbrev b2j(t:List UInt8):Prop:=(a0e (((a0a (bt (32:Int)) ((a0a (bt (10:Int)) t).getD 0 [])).length:Int)) →
 (((!(decide ((((a0a (bt (32:Int)) ((a0a (bt (10:Int)) t).getD 0 [])).length:Int))=(3:Int))))=false →
 (a8i t))∧((!(decide ((((a0a (bt (32:Int)) ((a0a (bt (10:Int)) t).getD 0 [])).length:Int))=(3:Int))))=(!false) →
 (a8j t))))
abbrev b2k(t:List UInt8):Prop:=(((a0n 9 ((a0a (bt (32:Int)) ((a0a (bt (10:Int)) t).getD 0 [])).getD 1 []))=(a0n 9 ((a0a (bt (32:Int)) ((a0a (bt (10:Int)) t).getD 0 [])).getD 1 []))∧((a0n 9 ((a0a (bt (32:Int)) ((a0a (bt (10:Int)) t).getD 0 [])).getD 2 []))=(a0n 9 ((a0a (bt (32:Int)) ((a0a (bt (10:Int)) t).getD 0 [])).getD 2 []))∧(True∧(True∧True))))∧(((0:Int)=(0:Int)∧((0:Int)=(0:Int)∧(True∧(True∧True))))∧True))
abbrev b2l(t:List UInt8):Prop:=((a0n 9 ((hdW t).getD 1 []))=(a0n 9 ((hdW t).getD 1 []))∧((a0n 9 ((hdW t).getD 2 []))=(a0n 9 ((hdW t).getD 2 []))∧(True∧(True∧True))))
abbrev a5l(t:List UInt8)(i3:Nat):Prop:=((b2l t)∧((((bdy t).take i3).map eA)=(((bdy t).take i3).map eA)∧((((bdy t).take i3).map eN)=(((bdy t).take i3).map eN)∧(((0:Int)=(0:Int)∧((0:Int)=(0:Int)∧(True∧(True∧True))))∧True))))
abbrev b2m(t:List UInt8)(i3:Nat):Prop:=(∃ u4:Unit,(QP t i3 0∧((True∧((a0a (bt (10:Int)) t)=(a0a (bt (10:Int)) t)∧(True∧((gO t i3)=(gO t i3)∧(((i3:Int)+1)=((i3:Int)+1)∧True)))))∧(a5l t i3))))
abbrev b2n(t:List UInt8)(i3:Nat):Prop:=((a0b.mk (a0t.mk (a0n 9 ((hdW t).getD 1 [])) (a0n 9 ((hdW t).getD 2 []))) (((bdy t).take i3).map eA) (((bdy t).take i3).map eN))=(raV t)∧(0:Int)=(raC t))
abbrev b2o(t:List UInt8)(i3:Nat):Prop:=(((!(gO t i3))=false →
 (((!(aOk (a0b.mk (a0t.mk (a0n 9 ((hdW t).getD 1 [])) (a0n 9 ((hdW t).getD 2 []))) (((bdy t).take i3).map eA) (((bdy t).take i3).map eN))))=true →
 ((a0b.mk (a0t.mk (0:Int) (0:Int)) [] [])=(raV t)∧(5:Int)=(raC t)))∧((!(aOk (a0b.mk (a0t.mk (a0n 9 ((hdW t).getD 1 [])) (a0n 9 ((hdW t).getD 2 []))) (((bdy t).take i3).map eA) (((bdy t).take i3).map eN))))=false →
 (b2n t i3))))∧((!(gO t i3))=(!false) →
 ((true=true →
 ((a0b.mk (a0t.mk (0:Int) (0:Int)) [] [])=(raV t)∧(5:Int)=(raC t)))∧(true=false →
 (b2n t i3)))))
abbrev a7i(t:List UInt8)(i3:Nat):Prop:=((a0a (bt (10:Int)) t)=(a0a (bt (10:Int)) t)∧(((i3:Int)+1)=((i3:Int)+1)∧(((a0a (bt (10:Int)) t).getD (Int.toNat ((i3:Int)+1)) [])=((a0a (bt (10:Int)) t).getD (Int.toNat ((i3:Int)+1)) [])∧(((a0a (bt (10:Int)) t).getD (Int.toNat ((i3:Int)+1)) [])=((a0a (bt (10:Int)) t).getD (Int.toNat ((i3:Int)+1)) [])∧((a0a (bt (32:Int)) ((a0a (bt (10:Int)) t).getD (Int.toNat ((i3:Int)+1)) []))=(a0a (bt (32:Int)) ((a0a (bt (10:Int)) t).getD (Int.toNat ((i3:Int)+1)) []))∧((a0a (bt (32:Int)) ((a0a (bt (10:Int)) t).getD (Int.toNat ((i3:Int)+1)) []))=(a0a (bt (32:Int)) ((a0a (bt (10:Int)) t).getD (Int.toNat ((i3:Int)+1)) []))∧(((a0a (bt (32:Int)) ((a0a (bt (10:Int)) t).getD (Int.toNat ((i3:Int)+1)) [])).getD 0 [])=((a0a (bt (32:Int)) ((a0a (bt (10:Int)) t).getD (Int.toNat ((i3:Int)+1)) [])).getD 0 [])∧(((a0a (bt (32:Int)) ((a0a (bt (10:Int)) t).getD (Int.toNat ((i3:Int)+1)) [])).getD 0 [])=((a0a (bt (32:Int)) ((a0a (bt (10:Int)) t).getD (Int.toNat ((i3:Int)+1)) [])).getD 0 [])∧((decide (((a0a (bt (32:Int)) ((a0a (bt (10:Int)) t).getD (Int.toNat ((i3:Int)+1)) [])).getD 0 [])=([115,116,97,116,101])))=(decide (((a0a (bt (32:Int)) ((a0a (bt (10:Int)) t).getD (Int.toNat ((i3:Int)+1)) [])).getD 0 [])=([115,116,97,116,101])))∧True)))))))))
abbrev b1u(t:List UInt8)(i3:Nat)(k5:Nat):Prop:=(∃ u6:Unit,(QG t i3 k5∧((True∧((a0a (bt (10:Int)) t)=(a0a (bt (10:Int)) t)∧(True∧((gI t i3 k5)=(gI t i3 k5)∧(((i3:Int)+1)=((i3:Int)+1)∧((a0a (bt (32:Int)) ((a0a (bt (10:Int)) t).getD (Int.toNat ((i3:Int)+1)) []))=(a0a (bt (32:Int)) ((a0a (bt (10:Int)) t).getD (Int.toNat ((i3:Int)+1)) []))∧(True∧(True∧(((k5:Int)+1)=((k5:Int)+1)∧(a7i t i3))))))))))∧((((lnW (lX t i3)).take k5).map cY)=(((lnW (lX t i3)).take k5).map cY)∧((((lnW (lX t i3)).take k5).map cR)=(((lnW (lX t i3)).take k5).map cR)∧(a5l t i3))))))
abbrev b1v(t:List UInt8)(i3:Nat)(k5:Nat):Prop:=(a2d ((((bdy t).take i3).map eA).length+([(((lnW (lX t i3)).take k5).map cY)]).length) 24∧(a2d ((((bdy t).take i3).map eN).length+([(((lnW (lX t i3)).take k5).map cR)]).length) 24∧(a0e (((i3:Int)+1)+(1:Int))∧(∃ i6:Nat,(OP t i6∧((bdy t).length - i6<(bdy t).length - i3∧((True∧((a0a (bt (10:Int)) t)=(a0a (bt (10:Int)) t)∧(True∧((gI t i3 k5)=(gO t i6)∧((((i3:Int)+1)+(1:Int))=((i6:Int)+1)∧True)))))∧((b2l t)∧(((((bdy t).take i3).map eA)++([(((lnW (lX t i3)).take k5).map cY)]))=(((bdy t).take i6).map eA)∧(((((bdy t).take i3).map eN)++([(((lnW (lX t i3)).take k5).map cR)]))=(((bdy t).take i6).map eN)∧(((0:Int)=(0:Int)∧((0:Int)=(0:Int)∧(True∧(True∧True))))∧True)))))))))))
theorem c5n(t:List UInt8):awp (a1c [a3v,a3e,a9f,b0v]) (a0m a3o) (b5a t) 0 (a1m (a1c [a3v,a3e,a9f,b0v]) a3o fun r=>a2e r [⟨(.st .automaton),raV t⟩,⟨(.int .i64),raC t⟩]) (a0q a3o [.val ⟨.str,t⟩]) =
 (((t.length≤1048576∧0≤(10:Int)∧(10:Int)≤255)∧((a0a (bt (10:Int)) t).length≤140737488355328 →
 (a0j (0:Int) (a0a (bt (10:Int)) t).length∧(((a0a (bt (10:Int)) t).getD 0 []).length≤140737488355328 →
 ((((a0a (bt (10:Int)) t).getD 0 []).length≤1048576∧0≤(32:Int)∧(32:Int)≤255)∧((a0a (bt (32:Int)) ((a0a (bt (10:Int)) t).getD 0 [])).length≤140737488355328 →
 ((a0e (((a0a (bt (10:Int)) t).length:Int)) →
 (((decide ((((a0a (bt (10:Int)) t).length:Int))<(2:Int)))=false →
 (a0e (((a0a (bt (10:Int)) t).length:Int)) →
 (a0e ((((a0a (bt (10:Int)) t).length:Int)) - (1:Int))∧(a0j ((((a0a (bt (10:Int)) t).length:Int)) - (1:Int)) (a0a (bt (10:Int)) t).length∧(((a0a (bt (10:Int)) t).getD (Int.toNat ((((a0a (bt (10:Int)) t).length:Int)) - (1:Int))) []).length≤140737488355328 →
 (((!decide (((a0a (bt (10:Int)) t).getD (Int.toNat ((((a0a (bt (10:Int)) t).length:Int)) - (1:Int))) [])=[]))=false →
 (b2j t))∧((!decide (((a0a (bt (10:Int)) t).getD (Int.toNat ((((a0a (bt (10:Int)) t).length:Int)) - (1:Int))) [])=[]))=(!false) →
 ((true=false →
 (a8i t))∧(true=(!false) →
 (a8j t))))))))))∧((decide ((((a0a (bt (10:Int)) t).length:Int))<(2:Int)))=(!false) →
 ((true=false →
 (b2j t))∧(true=(!false) →
 ((true=false →
 (a8i t))∧(true=(!false) →
 (a8j t))))))))∧(∀ u1:Unit,(okH t=true →
 (a0j (1:Int) (a0a (bt (32:Int)) ((a0a (bt (10:Int)) t).getD 0 [])).length∧(((a0a (bt (32:Int)) ((a0a (bt (10:Int)) t).getD 0 [])).getD 1 []).length≤140737488355328 →
 (a0e (a0n 9 ((a0a (bt (32:Int)) ((a0a (bt (10:Int)) t).getD 0 [])).getD 1 [])) →
 (a0j (2:Int) (a0a (bt (32:Int)) ((a0a (bt (10:Int)) t).getD 0 [])).length∧(((a0a (bt (32:Int)) ((a0a (bt (10:Int)) t).getD 0 [])).getD 2 []).length≤140737488355328 →
 (a0e (a0n 9 ((a0a (bt (32:Int)) ((a0a (bt (10:Int)) t).getD 0 [])).getD 2 [])) →
 ((((a1a 9 ((a0a (bt (32:Int)) ((a0a (bt (10:Int)) t).getD 0 [])).getD 1 []))=true →
 (∃ u2:Unit,(okH t=true∧((True∧((a0a (bt (10:Int)) t)=(a0a (bt (10:Int)) t)∧(True∧((a1a 9 ((a0a (bt (32:Int)) ((a0a (bt (10:Int)) t).getD 0 [])).getD 2 []))=(gO t 0)∧True))))∧(b2k t)))))∧((a1a 9 ((a0a (bt (32:Int)) ((a0a (bt (10:Int)) t).getD 0 [])).getD 1 []))=(!true) →
 (∃ u2:Unit,(okH t=true∧((True∧((a0a (bt (10:Int)) t)=(a0a (bt (10:Int)) t)∧(True∧(false=(gO t 0)∧True))))∧(b2k t))))))∧(∀ u2:Unit,(okH t=true →
 ((∃ i3:Nat,(OP t i3∧((True∧((a0a (bt (10:Int)) t)=(a0a (bt (10:Int)) t)∧(True∧((gO t 0)=(gO t i3)∧((1:Int)=((i3:Int)+1)∧True)))))∧(((a0n 9 ((a0a (bt (32:Int)) ((a0a (bt (10:Int)) t).getD 0 [])).getD 1 []))=(a0n 9 ((hdW t).getD 1 []))∧((a0n 9 ((a0a (bt (32:Int)) ((a0a (bt (10:Int)) t).getD 0 [])).getD 2 []))=(a0n 9 ((hdW t).getD 2 []))∧(True∧(True∧True))))∧((((bdy t).take i3).map eA)=[]∧((((bdy t).take i3).map eN)=[]∧(((0:Int)=(0:Int)∧((0:Int)=(0:Int)∧(True∧(True∧True))))∧True)))))))∧(∀ i3:Nat,(OP t i3 →
 ((a0e (((i3:Int)+1)+(1:Int))∧(a0e (((a0a (bt (10:Int)) t).length:Int)) →
 (((decide ((((i3:Int)+1)+(1:Int))<(((a0a (bt (10:Int)) t).length:Int))))=true →
 (((gO t i3)=true →
 (b2m t i3))∧((gO t i3)=false →
 (b2o t i3))))∧((decide ((((i3:Int)+1)+(1:Int))<(((a0a (bt (10:Int)) t).length:Int))))=(!true) →
 ((false=true →
 (b2m t i3))∧(false=false →
 (b2o t i3)))))))∧(∀ u4:Unit,(QP t i3 0 →
 (a0j ((i3:Int)+1) (a0a (bt (10:Int)) t).length∧(((a0a (bt (10:Int)) t).getD (Int.toNat ((i3:Int)+1)) []).length≤140737488355328 →
 ((((a0a (bt (10:Int)) t).getD (Int.toNat ((i3:Int)+1)) []).length≤1048576∧0≤(32:Int)∧(32:Int)≤255)∧((a0a (bt (32:Int)) ((a0a (bt (10:Int)) t).getD (Int.toNat ((i3:Int)+1)) [])).length≤140737488355328 →
 (a0j (0:Int) (a0a (bt (32:Int)) ((a0a (bt (10:Int)) t).getD (Int.toNat ((i3:Int)+1)) [])).length∧(((a0a (bt (32:Int)) ((a0a (bt (10:Int)) t).getD (Int.toNat ((i3:Int)+1)) [])).getD 0 []).length≤140737488355328 →
 ((∃ k5:Nat,(QP t i3 k5∧((True∧((a0a (bt (10:Int)) t)=(a0a (bt (10:Int)) t)∧(True∧((decide (((a0a (bt (32:Int)) ((a0a (bt (10:Int)) t).getD (Int.toNat ((i3:Int)+1)) [])).getD 0 [])=([115,116,97,116,101])))=(gI t i3 k5)∧(((i3:Int)+1)=((i3:Int)+1)∧((a0a (bt (32:Int)) ((a0a (bt (10:Int)) t).getD (Int.toNat ((i3:Int)+1)) []))=(a0a (bt (32:Int)) ((a0a (bt (10:Int)) t).getD (Int.toNat ((i3:Int)+1)) []))∧(True∧(True∧((1:Int)=((k5:Int)+1)∧(a7i t i3))))))))))∧([]=(((lnW (lX t i3)).take k5).map cY)∧([]=(((lnW (lX t i3)).take k5).map cR)∧(a5l t i3))))))∧(∀ k5:Nat,(QP t i3 k5 →
 ((a0e (((a0a (bt (32:Int)) ((a0a (bt (10:Int)) t).getD (Int.toNat ((i3:Int)+1)) [])).length:Int)) →
 (((decide (((k5:Int)+1)<(((a0a (bt (32:Int)) ((a0a (bt (10:Int)) t).getD (Int.toNat ((i3:Int)+1)) [])).length:Int))))=true →
 (((gI t i3 k5)=true →
 (b1u t i3 k5))∧((gI t i3 k5)=false →
 (b1v t i3 k5))))∧((decide (((k5:Int)+1)<(((a0a (bt (32:Int)) ((a0a (bt (10:Int)) t).getD (Int.toNat ((i3:Int)+1)) [])).length:Int))))=(!true) →
 ((false=true →
 (b1u t i3 k5))∧(false=false →
 (b1v t i3 k5))))))∧(∀ u6:Unit,(QG t i3 k5 →
 (a0j ((k5:Int)+1) (a0a (bt (32:Int)) ((a0a (bt (10:Int)) t).getD (Int.toNat ((i3:Int)+1)) [])).length∧(((a0a (bt (32:Int)) ((a0a (bt (10:Int)) t).getD (Int.toNat ((i3:Int)+1)) [])).getD (Int.toNat ((k5:Int)+1)) []).length≤140737488355328 →
 (((a0a (bt (32:Int)) ((a0a (bt (10:Int)) t).getD (Int.toNat ((i3:Int)+1)) [])).getD (Int.toNat ((k5:Int)+1)) []).length≤1048576∧((cR ((a0a (bt (32:Int)) ((a0a (bt (10:Int)) t).getD (Int.toNat ((i3:Int)+1)) [])).getD (Int.toNat ((k5:Int)+1)) [])).length≤140737488355328 →
 (a2d ((((lnW (lX t i3)).take k5).map cY).length+([(cY ((a0a (bt (32:Int)) ((a0a (bt (10:Int)) t).getD (Int.toNat ((i3:Int)+1)) [])).getD (Int.toNat ((k5:Int)+1)) []))]).length) 1∧(a2d ((((lnW (lX t i3)).take k5).map cR).length+([(cR ((a0a (bt (32:Int)) ((a0a (bt (10:Int)) t).getD (Int.toNat ((i3:Int)+1)) [])).getD (Int.toNat ((k5:Int)+1)) []))]).length) 24∧(a0e (((k5:Int)+1)+(1:Int))∧(∃ k7:Nat,(QP t i3 k7∧((lnW (lX t i3)).length - k7<(lnW (lX t i3)).length - k5∧((True∧((a0a (bt (10:Int)) t)=(a0a (bt (10:Int)) t)∧(True∧((a3b 9 ((a0a (bt (32:Int)) ((a0a (bt (10:Int)) t).getD (Int.toNat ((i3:Int)+1)) [])).getD (Int.toNat ((k5:Int)+1)) []))=(gI t i3 k7)∧(((i3:Int)+1)=((i3:Int)+1)∧((a0a (bt (32:Int)) ((a0a (bt (10:Int)) t).getD (Int.toNat ((i3:Int)+1)) []))=(a0a (bt (32:Int)) ((a0a (bt (10:Int)) t).getD (Int.toNat ((i3:Int)+1)) []))∧(True∧(True∧((((k5:Int)+1)+(1:Int))=((k7:Int)+1)∧(a7i t i3))))))))))∧(((((lnW (lX t i3)).take k5).map cY)++([(cY ((a0a (bt (32:Int)) ((a0a (bt (10:Int)) t).getD (Int.toNat ((i3:Int)+1)) [])).getD (Int.toNat ((k5:Int)+1)) []))]))=(((lnW (lX t i3)).take k7).map cY)∧(((((lnW (lX t i3)).take k5).map cR)++([(cR ((a0a (bt (32:Int)) ((a0a (bt (10:Int)) t).getD (Int.toNat ((i3:Int)+1)) [])).getD (Int.toNat ((k5:Int)+1)) []))]))=(((lnW (lX t i3)).take k7).map cR)∧(a5l t i3))))))))))))))))))))))))))))))))))))))))))))))))))):=by kernel_rfl
theorem c5d(hE:a0z [a3v,a3e,a9f,b0v]):Ctr.Good a4n:=by
 refine⟨a1g b4a rfl (by decide),?_⟩
 show ∀ (t:List UInt8),(t.length≤1048576)→a1h a0k a9y [.val ⟨.str,t⟩] (·=[⟨(.st .automaton),raV t⟩,⟨(.int .i64),raC t⟩])
 intro t hp
 refine a1k (wr:=[]) (cl:=[]) (ro:=[]) hE b4a c1j (b5a t) ?_
 rewrite [c5n t]
 have f0:=b0r 10 t
 have f1:=a9r 10 t
 have f2:=b0r 32 ((a0a 10 t).getD 0 [])
 refine⟨?_,fun a0=>⟨?_,fun a1=>⟨?_,fun a2=>⟨fun a3=>⟨fun a4=>fun a5=>⟨?_,⟨?_,fun a6=>⟨fun a7=>fun a8=>⟨fun a9=>⟨?_,fun a10=>⟨fun a11=>⟨?_,?_⟩,fun a11=>⟨(),⟨?_,⟨⟨trivial,⟨rfl,⟨rfl,trivial⟩⟩⟩,⟨⟨rfl,⟨rfl,⟨trivial,⟨trivial,trivial⟩⟩⟩⟩,trivial⟩⟩⟩⟩⟩⟩,fun a9=>⟨fun a10=>⟨?_,?_⟩,fun a10=>⟨(),⟨?_,⟨⟨trivial,⟨rfl,⟨rfl,trivial⟩⟩⟩,⟨⟨rfl,⟨rfl,⟨trivial,⟨trivial,trivial⟩⟩⟩⟩,trivial⟩⟩⟩⟩⟩⟩,fun a7=>⟨fun a8=>⟨?_,fun a9=>⟨fun a10=>⟨?_,?_⟩,fun a10=>⟨(),⟨?_,⟨⟨trivial,⟨rfl,⟨rfl,trivial⟩⟩⟩,⟨⟨rfl,⟨rfl,⟨trivial,⟨trivial,trivial⟩⟩⟩⟩,trivial⟩⟩⟩⟩⟩⟩,fun a8=>⟨fun a9=>⟨?_,?_⟩,fun a9=>⟨(),⟨?_,⟨⟨trivial,⟨rfl,⟨rfl,trivial⟩⟩⟩,⟨⟨rfl,⟨rfl,⟨trivial,⟨trivial,trivial⟩⟩⟩⟩,trivial⟩⟩⟩⟩⟩⟩⟩⟩⟩,fun a4=>⟨fun a5=>fun a6=>⟨fun a7=>⟨?_,fun a8=>⟨fun a9=>⟨?_,?_⟩,fun a9=>⟨(),⟨?_,⟨⟨trivial,⟨rfl,⟨rfl,trivial⟩⟩⟩,⟨⟨rfl,⟨rfl,⟨trivial,⟨trivial,trivial⟩⟩⟩⟩,trivial⟩⟩⟩⟩⟩⟩,fun a7=>⟨fun a8=>⟨?_,?_⟩,fun a8=>⟨(),⟨?_,⟨⟨trivial,⟨rfl,⟨rfl,trivial⟩⟩⟩,⟨⟨rfl,⟨rfl,⟨trivial,⟨trivial,trivial⟩⟩⟩⟩,trivial⟩⟩⟩⟩⟩⟩,fun a5=>⟨fun a6=>⟨?_,fun a7=>⟨fun a8=>⟨?_,?_⟩,fun a8=>⟨(),⟨?_,⟨⟨trivial,⟨rfl,⟨rfl,trivial⟩⟩⟩,⟨⟨rfl,⟨rfl,⟨trivial,⟨trivial,trivial⟩⟩⟩⟩,trivial⟩⟩⟩⟩⟩⟩,fun a6=>⟨fun a7=>⟨?_,?_⟩,fun a7=>⟨(),⟨?_,⟨⟨trivial,⟨rfl,⟨rfl,trivial⟩⟩⟩,⟨⟨rfl,⟨rfl,⟨trivial,⟨trivial,trivial⟩⟩⟩⟩,trivial⟩⟩⟩⟩⟩⟩⟩⟩,fun u1=>fun a3=>⟨?_,fun a4=>fun a5=>⟨?_,fun a6=>fun a7=>⟨⟨fun a8=>⟨(),⟨?_,⟨⟨trivial,⟨rfl,⟨trivial,⟨?_,trivial⟩⟩⟩⟩,⟨⟨rfl,⟨rfl,⟨trivial,⟨trivial,trivial⟩⟩⟩⟩,⟨⟨rfl,⟨rfl,⟨trivial,⟨trivial,trivial⟩⟩⟩⟩,trivial⟩⟩⟩⟩⟩,fun a8=>⟨(),⟨?_,⟨⟨trivial,⟨rfl,⟨trivial,⟨?_,trivial⟩⟩⟩⟩,⟨⟨rfl,⟨rfl,⟨trivial,⟨trivial,trivial⟩⟩⟩⟩,⟨⟨rfl,⟨rfl,⟨trivial,⟨trivial,trivial⟩⟩⟩⟩,trivial⟩⟩⟩⟩⟩⟩,fun u2=>fun a8=>⟨⟨0,⟨?_,⟨⟨trivial,⟨rfl,⟨trivial,⟨?_,⟨?_,trivial⟩⟩⟩⟩⟩,⟨⟨?_,⟨?_,⟨trivial,⟨trivial,trivial⟩⟩⟩⟩,⟨?_,⟨?_,⟨⟨rfl,⟨rfl,⟨trivial,⟨trivial,trivial⟩⟩⟩⟩,trivial⟩⟩⟩⟩⟩⟩⟩,fun i3=>fun a9=>⟨⟨?_,fun a10=>⟨fun a11=>⟨fun a12=>⟨(),⟨?_,⟨⟨trivial,⟨rfl,⟨trivial,⟨rfl,⟨rfl,trivial⟩⟩⟩⟩⟩,⟨⟨rfl,⟨rfl,⟨trivial,⟨trivial,trivial⟩⟩⟩⟩,⟨rfl,⟨rfl,⟨⟨rfl,⟨rfl,⟨trivial,⟨trivial,trivial⟩⟩⟩⟩,trivial⟩⟩⟩⟩⟩⟩⟩,fun a12=>⟨fun a13=>⟨fun a14=>⟨?_,?_⟩,fun a14=>⟨?_,?_⟩⟩,fun a13=>⟨fun a14=>⟨?_,?_⟩,fun a14=>⟨?_,?_⟩⟩⟩⟩,fun a11=>⟨fun a12=>⟨(),⟨?_,⟨⟨trivial,⟨rfl,⟨trivial,⟨rfl,⟨rfl,trivial⟩⟩⟩⟩⟩,⟨⟨rfl,⟨rfl,⟨trivial,⟨trivial,trivial⟩⟩⟩⟩,⟨rfl,⟨rfl,⟨⟨rfl,⟨rfl,⟨trivial,⟨trivial,trivial⟩⟩⟩⟩,trivial⟩⟩⟩⟩⟩⟩⟩,fun a12=>⟨fun a13=>⟨fun a14=>⟨?_,?_⟩,fun a14=>⟨?_,?_⟩⟩,fun a13=>⟨fun a14=>⟨?_,?_⟩,fun a14=>⟨?_,?_⟩⟩⟩⟩⟩⟩,fun u4=>fun a10=>⟨?_,fun a11=>⟨?_,fun a12=>⟨?_,fun a13=>⟨⟨0,⟨?_,⟨⟨trivial,⟨rfl,⟨trivial,⟨?_,⟨rfl,⟨rfl,⟨trivial,⟨trivial,⟨?_,⟨rfl,⟨rfl,⟨rfl,⟨rfl,⟨rfl,⟨rfl,⟨rfl,⟨rfl,⟨?_,trivial⟩⟩⟩⟩⟩⟩⟩⟩⟩⟩⟩⟩⟩⟩⟩⟩⟩⟩,⟨?_,⟨?_,⟨⟨rfl,⟨rfl,⟨trivial,⟨trivial,trivial⟩⟩⟩⟩,⟨rfl,⟨rfl,⟨⟨rfl,⟨rfl,⟨trivial,⟨trivial,trivial⟩⟩⟩⟩,trivial⟩⟩⟩⟩⟩⟩⟩⟩⟩,fun k5=>fun a14=>⟨fun a15=>⟨fun a16=>⟨fun a17=>⟨(),⟨?_,⟨⟨trivial,⟨rfl,⟨trivial,⟨rfl,⟨rfl,⟨rfl,⟨trivial,⟨trivial,⟨rfl,⟨rfl,⟨rfl,⟨rfl,⟨rfl,⟨rfl,⟨rfl,⟨rfl,⟨rfl,⟨?_,trivial⟩⟩⟩⟩⟩⟩⟩⟩⟩⟩⟩⟩⟩⟩⟩⟩⟩⟩,⟨rfl,⟨rfl,⟨⟨rfl,⟨rfl,⟨trivial,⟨trivial,trivial⟩⟩⟩⟩,⟨rfl,⟨rfl,⟨⟨rfl,⟨rfl,⟨trivial,⟨trivial,trivial⟩⟩⟩⟩,trivial⟩⟩⟩⟩⟩⟩⟩⟩⟩,fun a17=>⟨?_,⟨?_,⟨?_,⟨i3+1,⟨?_,⟨?_,⟨⟨trivial,⟨rfl,⟨trivial,⟨?_,⟨?_,trivial⟩⟩⟩⟩⟩,⟨⟨rfl,⟨rfl,⟨trivial,⟨trivial,trivial⟩⟩⟩⟩,⟨?_,⟨?_,⟨⟨rfl,⟨rfl,⟨trivial,⟨trivial,trivial⟩⟩⟩⟩,trivial⟩⟩⟩⟩⟩⟩⟩⟩⟩⟩⟩⟩,fun a16=>⟨fun a17=>⟨(),⟨?_,⟨⟨trivial,⟨rfl,⟨trivial,⟨rfl,⟨rfl,⟨rfl,⟨trivial,⟨trivial,⟨rfl,⟨rfl,⟨rfl,⟨rfl,⟨rfl,⟨rfl,⟨rfl,⟨rfl,⟨rfl,⟨?_,trivial⟩⟩⟩⟩⟩⟩⟩⟩⟩⟩⟩⟩⟩⟩⟩⟩⟩⟩,⟨rfl,⟨rfl,⟨⟨rfl,⟨rfl,⟨trivial,⟨trivial,trivial⟩⟩⟩⟩,⟨rfl,⟨rfl,⟨⟨rfl,⟨rfl,⟨trivial,⟨trivial,trivial⟩⟩⟩⟩,trivial⟩⟩⟩⟩⟩⟩⟩⟩⟩,fun a17=>⟨?_,⟨?_,⟨?_,⟨i3+1,⟨?_,⟨?_,⟨⟨trivial,⟨rfl,⟨trivial,⟨?_,⟨?_,trivial⟩⟩⟩⟩⟩,⟨⟨rfl,⟨rfl,⟨trivial,⟨trivial,trivial⟩⟩⟩⟩,⟨?_,⟨?_,⟨⟨rfl,⟨rfl,⟨trivial,⟨trivial,trivial⟩⟩⟩⟩,trivial⟩⟩⟩⟩⟩⟩⟩⟩⟩⟩⟩⟩⟩,fun u6=>fun a15=>⟨?_,fun a16=>⟨?_,fun a17=>⟨?_,⟨?_,⟨?_,⟨k5+1,⟨?_,⟨?_,⟨⟨trivial,⟨rfl,⟨trivial,⟨?_,⟨rfl,⟨rfl,⟨trivial,⟨trivial,⟨?_,⟨rfl,⟨rfl,⟨rfl,⟨rfl,⟨rfl,⟨rfl,⟨rfl,⟨rfl,⟨?_,trivial⟩⟩⟩⟩⟩⟩⟩⟩⟩⟩⟩⟩⟩⟩⟩⟩⟩⟩,⟨?_,⟨?_,⟨⟨rfl,⟨rfl,⟨trivial,⟨trivial,trivial⟩⟩⟩⟩,⟨rfl,⟨rfl,⟨⟨rfl,⟨rfl,⟨trivial,⟨trivial,trivial⟩⟩⟩⟩,trivial⟩⟩⟩⟩⟩⟩⟩⟩⟩⟩⟩⟩⟩⟩⟩⟩⟩⟩⟩⟩⟩⟩⟩⟩⟩⟩⟩⟩⟩
 all_goals try and_intros
 all_goals (try simp only[Bool.not_true,Bool.not_false,decide_eq_true_eq,decide_eq_false_iff_not] at *);(try simp only[e3s,e3t,e3u,tn1,d7f,List.getD_cons_zero,Int.toNat_natCast,decide_eq_true_eq,decide_eq_false_iff_not,Bool.not_eq_true',Bool.not_eq_false',Bool.not_true,Bool.not_false,a0j,a0e,a7d,a2d,List.length_cons,List.length_nil,f1v,f1r,f0v,f1m,f2d] at *);(try simp only[tnm _ (b0r 10 t)] at *);(try replace a7:=d5o a7);(try replace a7:=d5n a7);(try replace a9:=d5o a9);(try replace a9:=d5n a9);(try replace a11:=d5o a11);(try replace a11:=d5n a11);first|done|rfl|with_reducible trivial|with_reducible assumption|(have h1:gO t _=true:=(by with_reducible assumption);have h2:gO t _=false:=(by with_reducible assumption);rw[h1] at h2;cases h2)|(have v:QG t _ _:=(by with_reducible assumption);have p:=v.q.len;have lt:=v.lt;have s1:=b6k t;first|omega|exact v.q.next v.lt v.g|exact v.q.good v.lt v.g|exact (v.q.step v.lt).1|exact (v.q.step v.lt).2|exact Nat.le_trans (d4b _ _) (Nat.le_trans (b6k t _) hp))|(have v:QP t _ _:=(by with_reducible assumption);have p:=v.len;have s1:=b6k t;first|omega|exact v.to (by omega) (by with_reducible assumption)|exact (v.done (.inl (by omega))).1|exact (v.done (.inr (by with_reducible assumption))).1|exact (v.done (.inl (by omega))).2.1|exact (v.done (.inr (by with_reducible assumption))).2.1|exact (v.done (.inl (by omega))).2.2.1|exact (v.done (.inr (by with_reducible assumption))).2.2.1|exact (v.done (.inl (by omega))).2.2.2|exact (v.done (.inr (by with_reducible assumption))).2.2.2|exact Nat.le_trans (d4b _ _) (Nat.le_trans (b6k t _) hp))|(have v:OP t _:=(by with_reducible assumption);have p:=v.len;first|omega|exact v.to (by omega) (by with_reducible assumption)|exact (v.no (by with_reducible assumption)).1|exact (v.no (by with_reducible assumption)).2|exact (v.bad (by omega) (by with_reducible assumption) (by with_reducible assumption)).1|exact (v.bad (by omega) (by with_reducible assumption) (by with_reducible assumption)).2|exact (v.yes (by omega) (by with_reducible assumption) (by with_reducible assumption)).1|exact (v.yes (by omega) (by with_reducible assumption) (by with_reducible assumption)).2|exact Nat.le_trans (b6k t _) hp|(have:=v.to (by omega) (by with_reducible assumption);have p2:=this.len;omega))|(have h:okH t=true:=(by with_reducible assumption);have p:=e6h t h;first|omega|exact e9z h|exact f2h t (by with_reducible assumption)|exact f2g t (by with_reducible assumption)|exact Nat.le_trans (e5u t _) hp)|(first|exact (c2i (oh1 (by omega))).1|exact (c2i (oh1 (by omega))).2|exact (c2i (oh2 (by with_reducible assumption))).1|exact (c2i (oh2 (by with_reducible assumption))).2|exact (c2i (oh3 (by omega))).1|exact (c2i (oh3 (by omega))).2|exact (c2i (oh4 (by with_reducible assumption))).1|exact (c2i (oh4 (by with_reducible assumption))).2|exact oh5 (by omega) (by with_reducible assumption) (by omega) (by with_reducible assumption)|exact Nat.le_trans (a8f _ _ (a9l 10 t) 0) hp)|omega|(trace_state;done)
theorem c1m:Ctr.Good a4n:=c5d ⟨b7k,b5q,d2j,d5v,trivial⟩
end
end Go.Proofs.YtmdefiphdgcijaaDoor

set_option linter.unusedVariables false
set_option linter.unusedSimpArgs false
set_option linter.unusedSectionVars false
set_option maxRecDepth 4000
set_option maxHeartbeats 4000000
namespace Go.Proofs.YtmdefiphdgcijaaDoor
noncomputable section
def a7e(k:Int)(xs:List (List Bool))(ys:List (List (List Int))):Int:=bif okL cn1 mk1 k xs then a0y ci2 mi2 (k+(szL cn1 xs:Int)) ys else -1
theorem e1i(k:Int)(xs:List (List Bool))(ys:List (List (List Int))):(okL cn1 mk1 k xs=true→a7e k xs ys=a0y ci2 mi2 (k+(szL cn1 xs:Int)) ys)∧(okL cn1 mk1 k xs=false→a7e k xs ys = -1):=by
 refine⟨fun h=>?_,fun h=>?_⟩<;>· unfold a7e;rw[h];rfl
theorem e7w(xs:List (List Bool))(ys:List (List (List Int))):a7e 1 (mkL cn1 mk1 1 xs) (mkL ci2 mi2 (1+(szL cn1 xs:Int)) ys)=1+(szL cn1 xs:Int)+(szL ci2 ys:Int):=by
 obtain⟨h1,_⟩:=e1h cn1 mk1 e6c e5i 1 xs
 have h2:szL cn1 (mkL cn1 mk1 1 xs)=szL cn1 xs:=e5j 1 xs
 rw[(e1i _ _ _).1 h1,h2,(e1h ci2 mi2 e6a e5h _ ys).2]
theorem c2m{α:Type}(f:α→Nat)(M:Nat):∀ xs:List α,(∀ x∈xs,f x≤M)→szL f xs≤M * xs.length
 | [],_=>by simp[szL]
 | x::xs,h=>by
  have h1:=c2m f M xs fun y hy=>h y (by simp[hy])
  have h2:=h x (by simp)
  simp only[szL,List.length_cons,Nat.mul_succ];omega
theorem szB(r:List Bool):szL cB r=r.length:=by
 induction r with
 | nil=>rfl
 | cons x xs ih=>simp only[szL,List.length_cons,ih,cB];omega
theorem szI(r:List Int):szL cI r=r.length:=by
 induction r with
 | nil=>rfl
 | cons x xs ih=>simp only[szL,List.length_cons,ih,cI];omega
structure e4t(a:a0b):Prop where
 ac:szL cn1 a.accept≤100000
 nx:szL ci2 a.next≤100000
 tl:a.accept.length≤1000
 al:a.next.length≤1000
 ai:∀ i,(a.next.getD i []).length≤1000
theorem e9x{α β:Type}(xs:List α)(ys:List β)(h:xs.length=ys.length):(∀ x∈xs,∃ y,(x,y)∈xs.zip ys)∧∀ y∈ys,∃ x,(x,y)∈xs.zip ys:=by
 obtain⟨h1,h2⟩:=d2a xs ys h
 refine⟨fun x hx=>?_,fun y hy=>?_⟩
 ·rw[←h1] at hx
  obtain⟨p,hp,rfl⟩:=List.mem_map.1 hx
  exact⟨p.2,hp⟩
 ·rw[←h2] at hy
  obtain⟨p,hp,rfl⟩:=List.mem_map.1 hy
  exact⟨p.1,hp⟩
theorem e4v(a:a0b)(h:aOk a=true):e4t a:=by
 have A:=d4t a h
 have hl:=a3u a.sig A.t
 obtain⟨z1,z2⟩:=e9x a.accept a.next A.nx.symm
 have h1:=c2m cn1 8 a.accept fun r hr=>by
  obtain⟨y,hy⟩:=z1 r hr
  have:=(A.st _ hy).2.1
  show szL cB r≤8
  rw[szB];simp only at this;omega
 have hN:∀ y∈a.next,y.length≤8∧∀ r∈y,r.length≤4:=fun y hy=>by
  obtain⟨x,hx⟩:=z2 y hy
  have q:=A.st _ hx
  refine⟨by have:=q.1;have:=q.2.1;simp only at *;omega,fun r hr=>by have:=(q.2.2 r hr).2;have:=A.c.2;omega⟩
 have h2:=c2m ci2 32 a.next fun y hy=>by
  have:=c2m ci1 4 y fun r hr=>by show szL cI r≤4;rw[szI];exact (hN y hy).2 r hr
  have:=(hN y hy).1
  show szL ci1 y≤32
  omega
 have:=A.n2;have:=A.nx
 refine⟨by omega,by omega,by omega,by omega,fun i=>?_⟩
 rcases Nat.lt_or_ge i a.next.length with k|k
 ·have:=(hN _ (b0s [] a.next i k)).1;omega
 ·rw[List.getD_eq_getElem?_getD,List.getElem?_eq_none k];simp
theorem e6m(t:List UInt8):e4t (raV t):=by
 rcases Bool.eq_false_or_eq_true (okI t) with h|h
 ·rw[((b3r t).1 h).1]
  refine e4v _ ?_
  simp only[okI,Bool.and_eq_true] at h
  exact h.2.2.2.2.2.1
 ·rw[((b3r t).2 h).1]
  exact⟨Nat.zero_le _,Nat.zero_le _,Nat.zero_le _,Nat.zero_le _,fun i=>by simp⟩
theorem e6u(xs:List (List (List Int)))(h:xs.length≤1000)(hi:∀ i,(xs.getD i []).length≤1000):a5x xs:=⟨by omega,fun i=>by have:=hi i;omega⟩
theorem e6t(k:Int)(xs:List (List (List Int)))(h:xs.length≤1000)(hi:∀ i,(xs.getD i []).length≤1000):a5x (mkL ci2 mi2 k xs):=by
 refine⟨by rw[a5o];omega,fun i=>?_⟩
 rcases Nat.lt_or_ge i xs.length with q|q
 ·rw[c6u ci2 mi2 [] k xs i q]
  show (mkL ci1 mi1 _ _).length≤_
  rw[a5o]
  have:=hi i;omega
 ·rw[List.getD_eq_getElem?_getD,List.getElem?_eq_none (by rw[a5o];exact q)];simp
def a2n:MK:=⟨b5g,⟨(.st .automaton),fun (a:a0b) (k:Int)=>(some (0≤k∧k+(szL cn1 a.accept:Int)+(szL ci2 a.next:Int)≤4611686018427387904∧a.accept.length≤1048576∧a5x a.next),(a0b.mk a.sig (mkL cn1 mk1 k a.accept) (mkL ci2 mi2 (k+(szL cn1 a.accept:Int)) a.next)),k+(szL cn1 a.accept:Int)+(szL ci2 a.next:Int))⟩⟩
def a9g(a:a0b)(k:Int):Nat→a0w:=fun _ => .none
theorem c3l(a:a0b)(k:Int):awp (a6n [] [] [a3g,a2s] [8,12] []) (a0m a1u) (a9g a k) 0 (a3s a1u a2n.m a k) (a1v a1u ⟨(.st .automaton),a⟩ k) =
 (((0≤k∧k+(szL cn1 a.accept:Int)≤4611686018427387904∧a.accept.length≤1048576)∧((0≤(k+(szL cn1 a.accept:Int))∧(k+(szL cn1 a.accept:Int))+(szL ci2 a.next:Int)≤4611686018427387904∧a5x a.next)∧(((k+(szL cn1 a.accept:Int))+(szL ci2 a.next:Int))=(k+(szL cn1 a.accept:Int)+(szL ci2 a.next:Int))∧(a0b.mk a.sig (mkL cn1 mk1 k a.accept) (mkL ci2 mi2 (k+(szL cn1 a.accept:Int)) a.next))=(a0b.mk a.sig (mkL cn1 mk1 k a.accept) (mkL ci2 mi2 (k+(szL cn1 a.accept:Int)) a.next)))))):=by kernel_rfl
theorem c3h(hE:a0z [])(hO:b3g [])(hM:b3f [a3g,a2s])(hS:b3h []):MK.Good a2n:=by
 refine⟨a1g b3z rfl (by decide),b0i (own:=[8,12]) (wr:=[]) (cl:=[]) (ro:=[]) hE hO hM hS b3z c1i (fun a k=>a9g a k) (fun x=>Nat.le_of_ble_eq_true rfl) (Nat.le_of_ble_eq_true (by kernel_rfl)) ?_⟩
 show ∀ (a:a0b) (k:Int),(0≤k∧k+(szL cn1 a.accept:Int)+(szL ci2 a.next:Int)≤4611686018427387904∧a.accept.length≤1048576∧a5x a.next)→a0e k→awp (a6n [] [] [a3g,a2s] [8,12] []) (a0m a1u) (a9g a k) 0 (a3s a1u a2n.m a k) (a1v a1u ⟨(.st .automaton),a⟩ k)
 intro a k hp hk
 rewrite [c3l a k]
 refine⟨?_,⟨?_,⟨?_,rfl⟩⟩⟩
 all_goals try and_intros
 all_goals first|rfl|trivial|omega|(simp only[decide_eq_true_eq,decide_eq_false_iff_not,a0j,a0e,a3d,a7d,c4u,a2d] at *;omega)|(simp[a0j,a0e] at *;omega)|grind
theorem c0t:MK.Good a2n:=c3h trivial trivial ⟨c4x,c1n,trivial⟩ trivial
def a4m:Ctr:=⟨a9x,[.v (.st .automaton), .v (.int .i64)],fun (a:a0b) (k:Int)=>⟨(some (0≤k∧k+(szL cn1 a.accept:Int)+(szL ci2 a.next:Int)≤4611686018427387904∧a.accept.length≤1048576∧a5x a.next),[⟨(.int .i64),a7e k a.accept a.next⟩])⟩⟩
def b4z(a:a0b)(k:Int):Nat→a0w:=fun _ => .none
theorem c5m(a:a0b)(k:Int):awp (a1c [a6j,a5a] [] [] [2]) (a0m a3n) (b4z a k) 0 (a1m (a1c [a6j,a5a] [] [] [2]) a3n fun r=>a2e r [⟨(.int .i64),a7e k a.accept a.next⟩]) (a0q a3n [.val ⟨(.st .automaton),a⟩, .val ⟨(.int .i64),k⟩]) =
 ((a.accept.length≤140737488355328 →
 ((0≤k∧k+(szL cn1 a.accept:Int)≤4611686018427387904∧a.accept.length≤1048576)∧(a0e (a0y cn1 mk1 k a.accept) →
 (((decide ((a0y cn1 mk1 k a.accept)<(0:Int)))=true →
 (-1:Int)=(a7e k a.accept a.next))∧((decide ((a0y cn1 mk1 k a.accept)<(0:Int)))=false →
 (a.next.length≤140737488355328 →
 ((0≤(a0y cn1 mk1 k a.accept)∧(a0y cn1 mk1 k a.accept)+(szL ci2 a.next:Int)≤4611686018427387904∧a5x a.next)∧(a0e (a0y ci2 mi2 (a0y cn1 mk1 k a.accept) a.next) →
 (((decide ((a0y ci2 mi2 (a0y cn1 mk1 k a.accept) a.next)<(0:Int)))=true →
 (-1:Int)=(a7e k a.accept a.next))∧((decide ((a0y ci2 mi2 (a0y cn1 mk1 k a.accept) a.next)<(0:Int)))=false →
 (a0y ci2 mi2 (a0y cn1 mk1 k a.accept) a.next)=(a7e k a.accept a.next)))))))))))):=by kernel_rfl
theorem c5c(hE:a0z [a6j,a5a]):Ctr.Good a4m:=by
 refine⟨a1g b3y rfl (by decide),?_⟩
 show ∀ (a:a0b) (k:Int),(0≤k∧k+(szL cn1 a.accept:Int)+(szL ci2 a.next:Int)≤4611686018427387904∧a.accept.length≤1048576∧a5x a.next)→a1h a0k a9x [.val ⟨(.st .automaton),a⟩, .val ⟨(.int .i64),k⟩] (·=[⟨(.int .i64),a7e k a.accept a.next⟩])
 intro a k hp
 refine a1k (wr:=[]) (cl:=[]) (ro:=[2]) hE b3y c1h (b4z a k) ?_
 rewrite [c5m a k]
 have f2:=b3k cn1 mk1 k a.accept
 have f3:=b3k ci2 mi2 (k+(szL cn1 a.accept:Int)) a.next
 have f4:=e1i k a.accept a.next
 refine fun a0=>⟨?_,fun a1=>⟨fun a2=>?_,fun a2=>fun a3=>⟨?_,fun a4=>⟨fun a5=>?_,fun a5=>?_⟩⟩⟩⟩
 all_goals try and_intros
 all_goals first|rfl|trivial|omega|(simp only[decide_eq_true_eq,decide_eq_false_iff_not,a0j,a0e,b3b,b4s,b3c,b4t,Bool.not_eq_true',Bool.not_eq_false'] at *;first|omega|grind)|grind
theorem c1l:Ctr.Good a4m:=c5c ⟨c6i,c3c,trivial⟩
def a9m:Ctr:=⟨a3w,[.v .str],fun (t:List UInt8)=>⟨(none,[⟨.bool,true⟩])⟩⟩
def a9n(t:List UInt8):Nat→a0w:=fun _ => .none
abbrev a8o(t:List UInt8):Prop:=((decide ((a7e (1:Int) (a0b.mk (raV t).sig ((a0b.mk (raV t).sig (mkL cn1 mk1 (1:Int) (raV t).accept) (mkL ci2 mi2 ((1:Int)+(szL cn1 (raV t).accept:Int)) (raV t).next))).accept ((a0b.mk (raV t).sig (mkL cn1 mk1 (1:Int) (raV t).accept) (mkL ci2 mi2 ((1:Int)+(szL cn1 (raV t).accept:Int)) (raV t).next))).next).accept (a0b.mk (raV t).sig ((a0b.mk (raV t).sig (mkL cn1 mk1 (1:Int) (raV t).accept) (mkL ci2 mi2 ((1:Int)+(szL cn1 (raV t).accept:Int)) (raV t).next))).accept ((a0b.mk (raV t).sig (mkL cn1 mk1 (1:Int) (raV t).accept) (mkL ci2 mi2 ((1:Int)+(szL cn1 (raV t).accept:Int)) (raV t).next))).next).next)<(0:Int)))=true →
 false=true)
abbrev a8p(t:List UInt8):Prop:=((!(decide ((a7e (1:Int) (a0b.mk (raV t).sig ((a0b.mk (raV t).sig (mkL cn1 mk1 (1:Int) (raV t).accept) (mkL ci2 mi2 ((1:Int)+(szL cn1 (raV t).accept:Int)) (raV t).next))).accept ((a0b.mk (raV t).sig (mkL cn1 mk1 (1:Int) (raV t).accept) (mkL ci2 mi2 ((1:Int)+(szL cn1 (raV t).accept:Int)) (raV t).next))).next).accept (a0b.mk (raV t).sig ((a0b.mk (raV t).sig (mkL cn1 mk1 (1:Int) (raV t).accept) (mkL ci2 mi2 ((1:Int)+(szL cn1 (raV t).accept:Int)) (raV t).next))).accept ((a0b.mk (raV t).sig (mkL cn1 mk1 (1:Int) (raV t).accept) (mkL ci2 mi2 ((1:Int)+(szL cn1 (raV t).accept:Int)) (raV t).next))).next).next)=((1:Int)+(szL cn1 (raV t).accept:Int)+(szL ci2 (raV t).next:Int)))))=true →
 false=true)
abbrev a8q(t:List UInt8):Prop:=((0≤(1:Int)∧(1:Int)+(szL cn1 (a0b.mk (raV t).sig ((a0b.mk (raV t).sig (mkL cn1 mk1 (1:Int) (raV t).accept) (mkL ci2 mi2 ((1:Int)+(szL cn1 (raV t).accept:Int)) (raV t).next))).accept ((a0b.mk (raV t).sig (mkL cn1 mk1 (1:Int) (raV t).accept) (mkL ci2 mi2 ((1:Int)+(szL cn1 (raV t).accept:Int)) (raV t).next))).next).accept:Int)+(szL ci2 (a0b.mk (raV t).sig ((a0b.mk (raV t).sig (mkL cn1 mk1 (1:Int) (raV t).accept) (mkL ci2 mi2 ((1:Int)+(szL cn1 (raV t).accept:Int)) (raV t).next))).accept ((a0b.mk (raV t).sig (mkL cn1 mk1 (1:Int) (raV t).accept) (mkL ci2 mi2 ((1:Int)+(szL cn1 (raV t).accept:Int)) (raV t).next))).next).next:Int)≤4611686018427387904∧(a0b.mk (raV t).sig ((a0b.mk (raV t).sig (mkL cn1 mk1 (1:Int) (raV t).accept) (mkL ci2 mi2 ((1:Int)+(szL cn1 (raV t).accept:Int)) (raV t).next))).accept ((a0b.mk (raV t).sig (mkL cn1 mk1 (1:Int) (raV t).accept) (mkL ci2 mi2 ((1:Int)+(szL cn1 (raV t).accept:Int)) (raV t).next))).next).accept.length≤1048576∧a5x (a0b.mk (raV t).sig ((a0b.mk (raV t).sig (mkL cn1 mk1 (1:Int) (raV t).accept) (mkL ci2 mi2 ((1:Int)+(szL cn1 (raV t).accept:Int)) (raV t).next))).accept ((a0b.mk (raV t).sig (mkL cn1 mk1 (1:Int) (raV t).accept) (mkL ci2 mi2 ((1:Int)+(szL cn1 (raV t).accept:Int)) (raV t).next))).next).next)∧(a0e (a7e (1:Int) (a0b.mk (raV t).sig ((a0b.mk (raV t).sig (mkL cn1 mk1 (1:Int) (raV t).accept) (mkL ci2 mi2 ((1:Int)+(szL cn1 (raV t).accept:Int)) (raV t).next))).accept ((a0b.mk (raV t).sig (mkL cn1 mk1 (1:Int) (raV t).accept) (mkL ci2 mi2 ((1:Int)+(szL cn1 (raV t).accept:Int)) (raV t).next))).next).accept (a0b.mk (raV t).sig ((a0b.mk (raV t).sig (mkL cn1 mk1 (1:Int) (raV t).accept) (mkL ci2 mi2 ((1:Int)+(szL cn1 (raV t).accept:Int)) (raV t).next))).accept ((a0b.mk (raV t).sig (mkL cn1 mk1 (1:Int) (raV t).accept) (mkL ci2 mi2 ((1:Int)+(szL cn1 (raV t).accept:Int)) (raV t).next))).next).next) →
 ((a8o t)∧((decide ((a7e (1:Int) (a0b.mk (raV t).sig ((a0b.mk (raV t).sig (mkL cn1 mk1 (1:Int) (raV t).accept) (mkL ci2 mi2 ((1:Int)+(szL cn1 (raV t).accept:Int)) (raV t).next))).accept ((a0b.mk (raV t).sig (mkL cn1 mk1 (1:Int) (raV t).accept) (mkL ci2 mi2 ((1:Int)+(szL cn1 (raV t).accept:Int)) (raV t).next))).next).accept (a0b.mk (raV t).sig ((a0b.mk (raV t).sig (mkL cn1 mk1 (1:Int) (raV t).accept) (mkL ci2 mi2 ((1:Int)+(szL cn1 (raV t).accept:Int)) (raV t).next))).accept ((a0b.mk (raV t).sig (mkL cn1 mk1 (1:Int) (raV t).accept) (mkL ci2 mi2 ((1:Int)+(szL cn1 (raV t).accept:Int)) (raV t).next))).next).next)<(0:Int)))=false →
 ((a8p t)∧((!(decide ((a7e (1:Int) (a0b.mk (raV t).sig ((a0b.mk (raV t).sig (mkL cn1 mk1 (1:Int) (raV t).accept) (mkL ci2 mi2 ((1:Int)+(szL cn1 (raV t).accept:Int)) (raV t).next))).accept ((a0b.mk (raV t).sig (mkL cn1 mk1 (1:Int) (raV t).accept) (mkL ci2 mi2 ((1:Int)+(szL cn1 (raV t).accept:Int)) (raV t).next))).next).accept (a0b.mk (raV t).sig ((a0b.mk (raV t).sig (mkL cn1 mk1 (1:Int) (raV t).accept) (mkL ci2 mi2 ((1:Int)+(szL cn1 (raV t).accept:Int)) (raV t).next))).accept ((a0b.mk (raV t).sig (mkL cn1 mk1 (1:Int) (raV t).accept) (mkL ci2 mi2 ((1:Int)+(szL cn1 (raV t).accept:Int)) (raV t).next))).next).next)=((1:Int)+(szL cn1 (raV t).accept:Int)+(szL ci2 (raV t).next:Int)))))=false →
 true=true))))))
abbrev a8r(t:List UInt8):Prop:=((0≤(1:Int)∧(1:Int)+(szL cn1 (raV t).accept:Int)+(szL ci2 (raV t).next:Int)≤4611686018427387904∧(raV t).accept.length≤1048576∧a5x (raV t).next)∧((0≤(1:Int)∧(1:Int)+(szL cn1 (a0b.mk (raV t).sig ((a0b.mk (raV t).sig (mkL cn1 mk1 (1:Int) (raV t).accept) (mkL ci2 mi2 ((1:Int)+(szL cn1 (raV t).accept:Int)) (raV t).next))).accept ((a0b.mk (raV t).sig (mkL cn1 mk1 (1:Int) (raV t).accept) (mkL ci2 mi2 ((1:Int)+(szL cn1 (raV t).accept:Int)) (raV t).next))).next).accept:Int)+(szL ci2 (a0b.mk (raV t).sig ((a0b.mk (raV t).sig (mkL cn1 mk1 (1:Int) (raV t).accept) (mkL ci2 mi2 ((1:Int)+(szL cn1 (raV t).accept:Int)) (raV t).next))).accept ((a0b.mk (raV t).sig (mkL cn1 mk1 (1:Int) (raV t).accept) (mkL ci2 mi2 ((1:Int)+(szL cn1 (raV t).accept:Int)) (raV t).next))).next).next:Int)≤4611686018427387904∧(a0b.mk (raV t).sig ((a0b.mk (raV t).sig (mkL cn1 mk1 (1:Int) (raV t).accept) (mkL ci2 mi2 ((1:Int)+(szL cn1 (raV t).accept:Int)) (raV t).next))).accept ((a0b.mk (raV t).sig (mkL cn1 mk1 (1:Int) (raV t).accept) (mkL ci2 mi2 ((1:Int)+(szL cn1 (raV t).accept:Int)) (raV t).next))).next).accept.length≤1048576∧a5x (a0b.mk (raV t).sig ((a0b.mk (raV t).sig (mkL cn1 mk1 (1:Int) (raV t).accept) (mkL ci2 mi2 ((1:Int)+(szL cn1 (raV t).accept:Int)) (raV t).next))).accept ((a0b.mk (raV t).sig (mkL cn1 mk1 (1:Int) (raV t).accept) (mkL ci2 mi2 ((1:Int)+(szL cn1 (raV t).accept:Int)) (raV t).next))).next).next)∧(a0e (a7e (1:Int) (a0b.mk (raV t).sig ((a0b.mk (raV t).sig (mkL cn1 mk1 (1:Int) (raV t).accept) (mkL ci2 mi2 ((1:Int)+(szL cn1 (raV t).accept:Int)) (raV t).next))).accept ((a0b.mk (raV t).sig (mkL cn1 mk1 (1:Int) (raV t).accept) (mkL ci2 mi2 ((1:Int)+(szL cn1 (raV t).accept:Int)) (raV t).next))).next).accept (a0b.mk (raV t).sig ((a0b.mk (raV t).sig (mkL cn1 mk1 (1:Int) (raV t).accept) (mkL ci2 mi2 ((1:Int)+(szL cn1 (raV t).accept:Int)) (raV t).next))).accept ((a0b.mk (raV t).sig (mkL cn1 mk1 (1:Int) (raV t).accept) (mkL ci2 mi2 ((1:Int)+(szL cn1 (raV t).accept:Int)) (raV t).next))).next).next) →
 ((a8o t)∧((decide ((a7e (1:Int) (a0b.mk (raV t).sig ((a0b.mk (raV t).sig (mkL cn1 mk1 (1:Int) (raV t).accept) (mkL ci2 mi2 ((1:Int)+(szL cn1 (raV t).accept:Int)) (raV t).next))).accept ((a0b.mk (raV t).sig (mkL cn1 mk1 (1:Int) (raV t).accept) (mkL ci2 mi2 ((1:Int)+(szL cn1 (raV t).accept:Int)) (raV t).next))).next).accept (a0b.mk (raV t).sig ((a0b.mk (raV t).sig (mkL cn1 mk1 (1:Int) (raV t).accept) (mkL ci2 mi2 ((1:Int)+(szL cn1 (raV t).accept:Int)) (raV t).next))).accept ((a0b.mk (raV t).sig (mkL cn1 mk1 (1:Int) (raV t).accept) (mkL ci2 mi2 ((1:Int)+(szL cn1 (raV t).accept:Int)) (raV t).next))).next).next)<(0:Int)))=false →
 ((a8p t)∧((!(decide ((a7e (1:Int) (a0b.mk (raV t).sig ((a0b.mk (raV t).sig (mkL cn1 mk1 (1:Int) (raV t).accept) (mkL ci2 mi2 ((1:Int)+(szL cn1 (raV t).accept:Int)) (raV t).next))).accept ((a0b.mk (raV t).sig (mkL cn1 mk1 (1:Int) (raV t).accept) (mkL ci2 mi2 ((1:Int)+(szL cn1 (raV t).accept:Int)) (raV t).next))).next).accept (a0b.mk (raV t).sig ((a0b.mk (raV t).sig (mkL cn1 mk1 (1:Int) (raV t).accept) (mkL ci2 mi2 ((1:Int)+(szL cn1 (raV t).accept:Int)) (raV t).next))).accept ((a0b.mk (raV t).sig (mkL cn1 mk1 (1:Int) (raV t).accept) (mkL ci2 mi2 ((1:Int)+(szL cn1 (raV t).accept:Int)) (raV t).next))).next).next)=((1:Int)+(szL cn1 (raV t).accept:Int)+(szL ci2 (raV t).next:Int)))))=false →
 (t.length≤1048576∧(a0e (raC t) →
 (((!(eqB (raV t) (raV t)))=false →
 (((!(decide ((raC t)=(raC t))))=true →
 false=true)∧((!(decide ((raC t)=(raC t))))=false →
 (a8q t))))∧((!(eqB (raV t) (raV t)))=(!false) →
 ((true=true →
 false=true)∧(true=false →
 (a8q t))))))))))))))
theorem b6x(t:List UInt8):awp (a6n [a5s,a4m,a4n] [a4f] [a2n] [21,35,46] []) (a0m a2b) (a9n t) 0 (a1m (a6n [a5s,a4m,a4n] [a4f] [a2n] [21,35,46] []) a2b fun r=>a2e r [⟨.bool,true⟩]) (a0q a2b [.val ⟨.str,t⟩]) =
 ((a0e ((t.length:Int)) →
 (((decide ((1048576:Int)<((t.length:Int))))=true →
 true=true)∧((decide ((1048576:Int)<((t.length:Int))))=false →
 (t.length≤1048576∧(a0e (raC t) →
 (t.length≤1048576∧(a0e (raC t) →
 (((!(eqB (raV t) (raV t)))=false →
 (((!(decide ((raC t)=(raC t))))=true →
 false=true)∧((!(decide ((raC t)=(raC t))))=false →
 (a8r t))))∧((!(eqB (raV t) (raV t)))=(!false) →
 ((true=true →
 false=true)∧(true=false →
 (a8r t))))))))))))):=by kernel_rfl
theorem b6s(hE:a0z [a5s,a4m,a4n])(hO:b3g [a4f])(hM:b3f [a2n])(hS:b3h []):Ctr.Good a9m:=by
 refine⟨a1g a8v rfl (by decide),?_⟩
 show ∀ (t:List UInt8),True→a1h a0k a3w [.val ⟨.str,t⟩] (·=[⟨.bool,true⟩])
 intro t _
 refine e4j (own:=[21,35,46]) (wr:=[]) (cl:=[]) (ro:=[]) hE hO hM hS a8v b4r (a9n t) ?_
 rewrite [b6x t]
 obtain⟨f1,f2,f3,f4,f5⟩:=e6m t
 have f6:=e6u _ f4 f5
 have f7:=e6t (1+(szL cn1 (raV t).accept:Int)) _ f4 f5
 have f8:=e7w (raV t).accept (raV t).next
 have f9:szL cn1 (mkL cn1 mk1 1 (raV t).accept)=szL cn1 (raV t).accept:=e5j 1 _
 have f10:szL ci2 (mkL ci2 mi2 (1+(szL cn1 (raV t).accept:Int)) (raV t).next)=szL ci2 (raV t).next:=(b2s ci2 mi2 e6a e5h _ _).2
 have f11:(mkL cn1 mk1 1 (raV t).accept).length=(raV t).accept.length:=a5o _ _ _ _
 refine fun a0=>⟨fun a1=>rfl,fun a1=>⟨?_,fun a2=>⟨?_,fun a3=>⟨fun a4=>⟨fun a5=>?_,fun a5=>⟨?_,⟨?_,fun a6=>⟨fun a7=>?_,fun a7=>⟨fun a8=>?_,fun a8=>⟨?_,fun a9=>⟨fun a10=>⟨fun a11=>?_,fun a11=>⟨?_,fun a12=>⟨fun a13=>?_,fun a13=>⟨fun a14=>?_,fun a14=>rfl⟩⟩⟩⟩,fun a10=>⟨fun a11=>?_,fun a11=>⟨?_,fun a12=>⟨fun a13=>?_,fun a13=>⟨fun a14=>?_,fun a14=>rfl⟩⟩⟩⟩⟩⟩⟩⟩⟩⟩⟩,fun a4=>⟨fun a5=>?_,fun a5=>⟨?_,⟨?_,fun a6=>⟨fun a7=>?_,fun a7=>⟨fun a8=>?_,fun a8=>⟨?_,fun a9=>⟨fun a10=>⟨fun a11=>?_,fun a11=>⟨?_,fun a12=>⟨fun a13=>?_,fun a13=>⟨fun a14=>?_,fun a14=>rfl⟩⟩⟩⟩,fun a10=>⟨fun a11=>?_,fun a11=>⟨?_,fun a12=>⟨fun a13=>?_,fun a13=>⟨fun a14=>?_,fun a14=>rfl⟩⟩⟩⟩⟩⟩⟩⟩⟩⟩⟩⟩⟩⟩⟩
 all_goals try and_intros
 all_goals first|rfl|trivial|omega|(simp only[decide_eq_true_eq,decide_eq_false_iff_not,a0j,a0e,a3d,a7d,c4u,a2d] at *;omega)|(simp[a0j,a0e] at *;omega)|grind|(simp_all;done)
theorem b4w:Ctr.Good a9m:=b6s ⟨c4a,c1l,c1m,trivial⟩ ⟨c0z,trivial⟩ ⟨c0t,trivial⟩ trivial
theorem c0q:∀ tvs:List TV,tvs.map TV.τ=[.str]→a1h a0k a3w (tvs.map .val) (·=[⟨.bool,true⟩]):=by
 intro tvs h
 match tvs,h with
 | [⟨t0,a0⟩],h =>
  simp only[List.map_cons,List.map_nil,List.cons.injEq,and_true] at h
  obtain rfl:=h
  exact b4w.2 a0 trivial
end
end Go.Proofs.YtmdefiphdgcijaaDoor

/- Cond, Cond2, Cond3. -/
import Derived.Test.YthebhlkdppmefaaGreatVmUse
import Derived.Test.YthebhlkdppmefaaGreatVmLib
import Derived.Test.YthebhlkdppmefaaGreatVmSz
import Derived.Test.YthebhlkdppmefaaGreatVmValid
import Derived.Test.YthebhlkdppmefaaGreatVmBld
set_option linter.unusedVariables false
set_option linter.unusedSimpArgs false
set_option linter.unusedSectionVars false
set_option maxRecDepth 4000
set_option maxHeartbeats 4000000
namespace Go.Proofs.YthebhlkdppmefaaGreat
noncomputable section
def a4x(b n:Int):Bool:=decide (0≤n∧n≤b - 1)
theorem h6j(b:Int)(xs:List Int)(i:Nat)(h:i<xs.length)(k:a0v (a4x b) xs=true):0≤xs.getD i 0∧xs.getD i 0≤b - 1:=by
 have:=b8z (a4x b) 0 xs i h k
 simpa [a4x] using this
def h7n(a n:Int):Bool:=decide (((Int.toNat (Int.fdiv a (2 ^ n.toNat)) &&& Int.toNat 1:Nat):Int)=0)
def f3v(a n:Int):a0b:=if h7n a n=true then ⟨5,0,[⟨3,n,[]⟩]⟩ else ⟨3,n,[]⟩
def a1z(a:Int):Nat→a0b
 | 0=>⟨2,0,[]⟩
 | 1=>f3v a 0
 | n+2=>⟨7,0,[a1z a (n+1),f3v a ((n+1:Nat):Int)]⟩
def a4m(a:Int)(i:Nat):a0b:=if i=0 then ⟨0,0,[]⟩ else a1z a i
theorem i0b(a:Int):a4m a 0=⟨0,0,[]⟩:=rfl
theorem g2d(a:Int)(i:Nat)(h:i≠0):a4m a i=a1z a i:=by simp[a4m,h]
theorem h3x(a:Int)(i:Nat)(h:i=0):a1z a (i+1)=f3v a i:=by subst h;rfl
theorem h3y(a:Int)(i:Nat)(h:i≠0):a1z a (i+1)=⟨7,0,[a1z a i,f3v a i]⟩:=by
 match i,h with
 | i+1,_=>rfl
theorem h9t(a n:Int)(h:decide (((Int.toNat (Int.fdiv a (2 ^ n.toNat)) &&& Int.toNat 1:Nat):Int)=0)=true):f3v a n=⟨5,0,[⟨3,n,[]⟩]⟩:=by
 have h:h7n a n=true:=h
 simp[f3v,h]
theorem h9s(a n:Int)(h:decide (((Int.toNat (Int.fdiv a (2 ^ n.toNat)) &&& Int.toNat 1:Nat):Int)=0)=false):f3v a n=⟨3,n,[]⟩:=by
 have h:h7n a n=false:=h
 simp[f3v,h]
theorem mkE(x:a0b):a0b.mk x.kind x.num x.kids=x:=by cases x;rfl
def a4b(xs:List a0b):a0b:=xs.foldl (fun o e=>⟨6,0,[o,e]⟩) ⟨1,0,[]⟩
theorem e1y(xs:List a0b)(e:a0b):a4b (xs++[e])=⟨6,0,[a4b xs,e]⟩:=by simp[a4b,List.foldl_append]
def h3e(x:a0b):a3u:=⟨x.kind,x.num,none⟩
def a7a(xs:List a0b)(i:Nat):List a3u:=(xs.take i).map h3e++(xs.drop i).map toO
theorem i0d(xs:List a0b):a7a xs 0=List.map toO xs:=by simp[a7a]
theorem h6a(xs:List a0b)(i:Nat):(a7a xs i).length=xs.length:=by simp[a7a];omega
theorem f4p(xs:List a0b)(i:Nat)(z:a3u)(h:i<xs.length):(a7a xs i).getD i z=toO (xs.getD i ⟨0,0,[]⟩):=by
 have e:((xs.take i).map h3e).length=i:=by simp;omega
 simp only[a7a,List.getD_eq_getElem?_getD]
 rw[List.getElem?_append_right (by omega),e,Nat.sub_self]
 simp[h]
theorem i2i(xs:List a0b)(i:Nat)(z:a3u)(h:i<xs.length):(a7a xs i).set i ⟨((a7a xs i).getD i z).kind,((a7a xs i).getD i z).num,none⟩=a7a xs (i+1):=by
 rw[f4p xs i z h]
 have e:((xs.take i).map h3e).length=i:=by simp;omega
 unfold a7a
 rw[List.set_append_right _ _ (by omega),e,Nat.sub_self,List.drop_eq_getElem_cons h,List.map_cons,List.set_cons_zero,List.take_succ_eq_append_getElem h,List.map_append,List.append_assoc]
 simp[h,h3e,toO]
theorem i0c(xs:List a0b)(i:Nat)(z:a3u)(h:i<xs.length):((a7a xs i).getD i z).kids.isSome=true∧True:=by
 rw[f4p xs i z h];exact⟨rfl,trivial⟩
theorem i2j(xs:List a0b)(i:Nat)(z:a3u)(h:i<xs.length):a4b (xs.take (i+1))=⟨6,0,[a4b (xs.take i),⟨((a7a xs i).getD i z).kind,((a7a xs i).getD i z).num,((a7a xs i).getD i z).kids.getD []⟩]⟩:=by
 rw[f4p xs i z h,a8f ⟨0,0,[]⟩ xs i h,e1y]
 show _=a0b.mk 6 0 [a4b (xs.take i),a0b.mk (xs.getD i ⟨0,0,[]⟩).kind (xs.getD i ⟨0,0,[]⟩).num (xs.getD i ⟨0,0,[]⟩).kids]
 rw[mkE]
def ofA(gg:a0h)(xs:List Int):a0b:=a4b (xs.map fun a=>a1z a gg.tests.toNat)
theorem h4u(gg:a0h)(xs:List Int)(i:Nat)(h:i<xs.length):(xs.take (i+1)).map (fun a=>a1z a gg.tests.toNat)=(xs.take i).map (fun a=>a1z a gg.tests.toNat)++[a1z (xs.getD i 0) gg.tests.toNat]:=by
 rw[a8f 0 xs i h,List.map_append];rfl
def a9k:Ctr:=⟨c2i,[.v (.st .sig), .v (.int .i64)],fun (gg:a0h) (atom:Int)=>⟨(some ((0≤gg.tests∧gg.tests≤3)∧0≤atom∧atom≤4096),[⟨(.st .expr),a1z atom gg.tests.toNat⟩])⟩⟩
def c9x(gg:a0h)(atom:Int):Nat→a0p:=(fun zb=>if Nat.beq zb 0 then .mk (Nat) (fun i=>i≤gg.tests.toNat∧0<gg.tests.toNat) (fun i=>gg.tests.toNat - i) [] [0,2,3,8,9,10,11,12,13] (fun i=>[(15, .imm ⟨(.int .i64),((i:Int):Int)⟩)]) [1,4,6,7,14,15,16,17,18,19,20,21,22,23,24,25,26,27,28,29,30,31,32,33,34,35,36] (fun i=>[(5, .box [.imm ⟨(.int .i64),((a4m atom i).kind:Int)⟩, .imm ⟨(.int .i64),((a4m atom i).num:Int)⟩, .tree 3502]),(3502, .tree (.st .expr) ((a4m atom i).kids:List a0b))]) [] [] (fun i=>fun _ => .none) else .none)
theorem e8v(gg:a0h)(atom:Int):awp (a2s [] [b0q,b0r] [] [11,19,26,27,33,34] [] [] [2]) (a0j a7o) (c9x gg atom) 0 (a5k (a2s [] [b0q,b0r] [] [11,19,26,27,33,34] [] [] [2]) a7o fun r=>a1f r [⟨(.st .expr),a1z atom gg.tests.toNat⟩]) (a8e a7o [.val ⟨(.st .sig),gg⟩, .val ⟨(.int .i64),atom⟩]) =
 ((a0c gg.tests →
 (((decide (gg.tests=(0:Int)))=true →
 (a0n (a0b.mk (2:Int) (0:Int) []))=(a1z atom gg.tests.toNat))∧((decide (gg.tests=(0:Int)))=false →
 (a0c gg.tests →
 ((∃ i1:Nat,((i1≤gg.tests.toNat∧0<gg.tests.toNat)∧((atom=atom∧(True∧(True∧(gg.tests=gg.tests∧((0:Int)=(i1:Int)∧True)))))∧(((0:Int)=((a4m atom i1).kind)∧((0:Int)=((a4m atom i1).num)∧(True∧True)))∧(((a4m atom i1).kids)=[]∧(((0:Int)=(0:Int)∧((0:Int)=(0:Int)∧(True∧True)))∧True))))))∧(∀ i1:Nat,((i1≤gg.tests.toNat∧0<gg.tests.toNat) →
 (((decide ((i1:Int)<gg.tests))=true →
 (((0:Int)≤(i1:Int)∧((i1:Int)<(64:Int)∧a0c (atom.fdiv (2 ^ (i1:Int).toNat))))∧(((0:Int)≤(atom.fdiv (2 ^ (i1:Int).toNat))∧((0:Int)≤(1:Int)∧(a0c (atom.fdiv (2 ^ (i1:Int).toNat))∧a0c (1:Int))))∧(((decide (((((atom.fdiv (2 ^ (i1:Int).toNat)).toNat &&& (1:Int).toNat:Nat):Int))=(0:Int)))=true →
 (((decide ((i1:Int)=(0:Int)))=true →
 (a0c ((i1:Int)+(1:Int))∧(∃ i2:Nat,((i2≤gg.tests.toNat∧0<gg.tests.toNat)∧(gg.tests.toNat - i2<gg.tests.toNat - i1∧((atom=atom∧(True∧(True∧(gg.tests=gg.tests∧(((i1:Int)+(1:Int))=(i2:Int)∧True)))))∧(((a0b.mk (5:Int) 0 ([(a0n (a0b.mk (3:Int) (i1:Int) []))])).kind=((a4m atom i2).kind)∧((a0b.mk (5:Int) 0 ([(a0n (a0b.mk (3:Int) (i1:Int) []))])).num=((a4m atom i2).num)∧(True∧True)))∧((a0b.mk (5:Int) 0 ([(a0n (a0b.mk (3:Int) (i1:Int) []))])).kids=((a4m atom i2).kids)∧(((0:Int)=(0:Int)∧((0:Int)=(0:Int)∧(True∧True)))∧True)))))))))∧((decide ((i1:Int)=(0:Int)))=false →
 (a0c ((i1:Int)+(1:Int))∧(∃ i2:Nat,((i2≤gg.tests.toNat∧0<gg.tests.toNat)∧(gg.tests.toNat - i2<gg.tests.toNat - i1∧((atom=atom∧(True∧(True∧(gg.tests=gg.tests∧(((i1:Int)+(1:Int))=(i2:Int)∧True)))))∧(((a0b.mk (7:Int) 0 ([(a0b.mk ((a4m atom i1).kind) ((a4m atom i1).num) ((a4m atom i1).kids)),(a0n (a0b.mk (5:Int) 0 ([(a0n (a0b.mk (3:Int) (i1:Int) []))])))])).kind=((a4m atom i2).kind)∧((a0b.mk (7:Int) 0 ([(a0b.mk ((a4m atom i1).kind) ((a4m atom i1).num) ((a4m atom i1).kids)),(a0n (a0b.mk (5:Int) 0 ([(a0n (a0b.mk (3:Int) (i1:Int) []))])))])).num=((a4m atom i2).num)∧(True∧True)))∧((a0b.mk (7:Int) 0 ([(a0b.mk ((a4m atom i1).kind) ((a4m atom i1).num) ((a4m atom i1).kids)),(a0n (a0b.mk (5:Int) 0 ([(a0n (a0b.mk (3:Int) (i1:Int) []))])))])).kids=((a4m atom i2).kids)∧(((0:Int)=(0:Int)∧((0:Int)=(0:Int)∧(True∧True)))∧True)))))))))))∧((decide (((((atom.fdiv (2 ^ (i1:Int).toNat)).toNat &&& (1:Int).toNat:Nat):Int))=(0:Int)))=false →
 (((decide ((i1:Int)=(0:Int)))=true →
 (a0c ((i1:Int)+(1:Int))∧(∃ i2:Nat,((i2≤gg.tests.toNat∧0<gg.tests.toNat)∧(gg.tests.toNat - i2<gg.tests.toNat - i1∧((atom=atom∧(True∧(True∧(gg.tests=gg.tests∧(((i1:Int)+(1:Int))=(i2:Int)∧True)))))∧(((a0b.mk (3:Int) (i1:Int) []).kind=((a4m atom i2).kind)∧((a0b.mk (3:Int) (i1:Int) []).num=((a4m atom i2).num)∧(True∧True)))∧((a0b.mk (3:Int) (i1:Int) []).kids=((a4m atom i2).kids)∧(((0:Int)=(0:Int)∧((0:Int)=(0:Int)∧(True∧True)))∧True)))))))))∧((decide ((i1:Int)=(0:Int)))=false →
 (a0c ((i1:Int)+(1:Int))∧(∃ i2:Nat,((i2≤gg.tests.toNat∧0<gg.tests.toNat)∧(gg.tests.toNat - i2<gg.tests.toNat - i1∧((atom=atom∧(True∧(True∧(gg.tests=gg.tests∧(((i1:Int)+(1:Int))=(i2:Int)∧True)))))∧(((a0b.mk (7:Int) 0 ([(a0b.mk ((a4m atom i1).kind) ((a4m atom i1).num) ((a4m atom i1).kids)),(a0n (a0b.mk (3:Int) (i1:Int) []))])).kind=((a4m atom i2).kind)∧((a0b.mk (7:Int) 0 ([(a0b.mk ((a4m atom i1).kind) ((a4m atom i1).num) ((a4m atom i1).kids)),(a0n (a0b.mk (3:Int) (i1:Int) []))])).num=((a4m atom i2).num)∧(True∧True)))∧((a0b.mk (7:Int) 0 ([(a0b.mk ((a4m atom i1).kind) ((a4m atom i1).num) ((a4m atom i1).kids)),(a0n (a0b.mk (3:Int) (i1:Int) []))])).kids=((a4m atom i2).kids)∧(((0:Int)=(0:Int)∧((0:Int)=(0:Int)∧(True∧True)))∧True)))))))))))))))∧((decide ((i1:Int)<gg.tests))=false →
 (a0b.mk ((a4m atom i1).kind) ((a4m atom i1).num) ((a4m atom i1).kids))=(a1z atom gg.tests.toNat))))))))))):=by kernel_rfl
theorem e8a(hE:a0o [])(hO:a5c [b0q,b0r])(hM:a5s [])(hS:a5d []):Ctr.OGood a9k:=by
 refine⟨a0l c9j rfl (by decide),?_⟩
 show ∀ (gg:a0h) (atom:Int),((0≤gg.tests∧gg.tests≤3)∧0≤atom∧atom≤4096)→a6q prog c2i [.val ⟨(.st .sig),gg⟩, .val ⟨(.int .i64),atom⟩] [⟨(.st .expr),a1z atom gg.tests.toNat⟩]
 intro gg atom hp
 refine a4j (own:=[11,19,26,27,33,34]) (wr:=[]) (cl:=[]) (ro:=[2]) hE hO hM hS c9j e3u (c9x gg atom) ?_
 rewrite [e8v gg atom]
 have g0:gg.tests=0→a0b.mk 2 0 []=a1z atom gg.tests.toNat:=fun h=>by rw[h];rfl
 have g1:∀ i:Nat,i≤gg.tests.toNat→gg.tests≤(i:Int)→0<gg.tests.toNat→a4m atom i=a1z atom gg.tests.toNat:=fun i h1 h2 h3=>by rw[g2d atom i (by omega),show i=gg.tests.toNat by omega]
 refine fun a0=>⟨fun a1=>?_,fun a1=>fun a2=>⟨⟨0,⟨?_,⟨⟨rfl,⟨trivial,⟨trivial,⟨rfl,⟨?_,trivial⟩⟩⟩⟩⟩,⟨⟨?_,⟨?_,⟨trivial,trivial⟩⟩⟩,⟨?_,⟨⟨rfl,⟨rfl,⟨trivial,trivial⟩⟩⟩,trivial⟩⟩⟩⟩⟩⟩,fun i1 a3=>have b3x0:=g2d atom i1;have b3x1:=g2d atom (i1+1) (by omega);have b3x2:=h3x atom i1;have b3x3:=h3y atom i1;have b3x4:=h9t atom i1;have b3x5:=h9s atom i1;have b3x6:=d1w atom i1 hp.2;⟨fun a4=>⟨⟨?_,⟨?_,?_⟩⟩,⟨⟨?_,⟨?_,⟨?_,?_⟩⟩⟩,⟨fun a5=>⟨fun a6=>⟨?_,⟨i1+1,⟨?_,⟨?_,⟨⟨rfl,⟨trivial,⟨trivial,⟨rfl,⟨?_,trivial⟩⟩⟩⟩⟩,⟨⟨?_,⟨?_,⟨trivial,trivial⟩⟩⟩,⟨?_,⟨⟨rfl,⟨rfl,⟨trivial,trivial⟩⟩⟩,trivial⟩⟩⟩⟩⟩⟩⟩⟩,fun a6=>⟨?_,⟨i1+1,⟨?_,⟨?_,⟨⟨rfl,⟨trivial,⟨trivial,⟨rfl,⟨?_,trivial⟩⟩⟩⟩⟩,⟨⟨?_,⟨?_,⟨trivial,trivial⟩⟩⟩,⟨?_,⟨⟨rfl,⟨rfl,⟨trivial,trivial⟩⟩⟩,trivial⟩⟩⟩⟩⟩⟩⟩⟩⟩,fun a5=>⟨fun a6=>⟨?_,⟨i1+1,⟨?_,⟨?_,⟨⟨rfl,⟨trivial,⟨trivial,⟨rfl,⟨?_,trivial⟩⟩⟩⟩⟩,⟨⟨?_,⟨?_,⟨trivial,trivial⟩⟩⟩,⟨?_,⟨⟨rfl,⟨rfl,⟨trivial,trivial⟩⟩⟩,trivial⟩⟩⟩⟩⟩⟩⟩⟩,fun a6=>⟨?_,⟨i1+1,⟨?_,⟨?_,⟨⟨rfl,⟨trivial,⟨trivial,⟨rfl,⟨?_,trivial⟩⟩⟩⟩⟩,⟨⟨?_,⟨?_,⟨trivial,trivial⟩⟩⟩,⟨?_,⟨⟨rfl,⟨rfl,⟨trivial,trivial⟩⟩⟩,trivial⟩⟩⟩⟩⟩⟩⟩⟩⟩⟩⟩⟩,fun a4=>?_⟩⟩⟩
 all_goals try and_intros
 all_goals try simp only[a0b.eta,a0d.eta,a1g.eta,a0e.eta,a2u,a2z,a2o,a2f] at *
 all_goals first|rfl|trivial|omega|(simp only[decide_eq_true_eq,decide_eq_false_iff_not,a0k,a0c,a8l,a8k,b0e,b0d] at *;omega)|((try simp only[mkE] at *);first|rfl|omega|(simp_all [i0b];done)|grind [b0e,b0d,a0c])
theorem e2t:Ctr.OGood a9k:=e8a trivial ⟨e1v,e1w,trivial⟩ trivial trivial
def c0a:Ctr:=⟨d8t,[.o (.slice (.st .expr))],fun (xs:List a0b)=>⟨(some (xs.length≤1000),[⟨(.st .expr),a4b xs⟩])⟩⟩
def f0b(xs:List a0b):Nat→a0p:=(fun zb=>if Nat.beq zb 0 then .mk (Nat) (fun i=>i≤xs.length) (fun i=>xs.length - i) [] [0,1,4,6] (fun i=>[(9, .imm ⟨(.int .i64),((i:Int):Int)⟩)]) [2,5,7,8,9,10,11,12,13,14,15,16,17,18] (fun i=>[(3, .box [.imm ⟨(.int .i64),((a4b (xs.take i)).kind:Int)⟩, .imm ⟨(.int .i64),((a4b (xs.take i)).num:Int)⟩, .tree 1702]),(1702, .tree (.st .expr) ((a4b (xs.take i)).kids:List a0b)),(1000000, .tree (.st .oExpr) (a7a xs i:List a3u))]) [] [] (fun i=>fun _ => .none) else .none)
theorem h0e(xs:List a0b):awp (a2s [] [b0q,b0r] [] [6,15,16,12] []) (a0j b7j) (f0b xs) 0 (a5k (a2s [] [b0q,b0r] [] [6,15,16,12] []) b7j fun r=>a1f r [⟨(.st .expr),a4b xs⟩]) (a8e b7j [.own ⟨(.slice (.st .expr)),xs⟩]) =
 (((∃ i1:Nat,(i1≤xs.length∧((True∧(True∧(True∧(((xs.length:Int))=((xs.length:Int))∧((0:Int)=(i1:Int)∧True)))))∧(((a0b.mk (1:Int) (0:Int) []).kind=((a4b (xs.take i1)).kind)∧((a0b.mk (1:Int) (0:Int) []).num=((a4b (xs.take i1)).num)∧(True∧True)))∧((a0b.mk (1:Int) (0:Int) []).kids=((a4b (xs.take i1)).kids)∧((List.map toO xs)=(a7a xs i1)∧(((0:Int)=(0:Int)∧((0:Int)=(0:Int)∧(True∧True)))∧True)))))))∧(∀ i1:Nat,(i1≤xs.length →
 (((decide ((i1:Int)<((xs.length:Int))))=true →
 (a0k (i1:Int) (a7a xs i1).length∧((((a7a xs i1).getD i1 (a3u.mk (0:Int) (0:Int) none)).kids.isSome=true∧True)∧(a0c ((i1:Int)+(1:Int))∧(∃ i2:Nat,(i2≤xs.length∧(xs.length - i2<xs.length - i1∧((True∧(True∧(True∧(((xs.length:Int))=((xs.length:Int))∧(((i1:Int)+(1:Int))=(i2:Int)∧True)))))∧(((a0b.mk (6:Int) 0 ([(a0b.mk ((a4b (xs.take i1)).kind) ((a4b (xs.take i1)).num) ((a4b (xs.take i1)).kids)),(a0b.mk ((a7a xs i1).getD i1 (a3u.mk (0:Int) (0:Int) none)).kind ((a7a xs i1).getD i1 (a3u.mk (0:Int) (0:Int) none)).num (((a7a xs i1).getD i1 (a3u.mk (0:Int) (0:Int) none)).kids.getD []))])).kind=((a4b (xs.take i2)).kind)∧((a0b.mk (6:Int) 0 ([(a0b.mk ((a4b (xs.take i1)).kind) ((a4b (xs.take i1)).num) ((a4b (xs.take i1)).kids)),(a0b.mk ((a7a xs i1).getD i1 (a3u.mk (0:Int) (0:Int) none)).kind ((a7a xs i1).getD i1 (a3u.mk (0:Int) (0:Int) none)).num (((a7a xs i1).getD i1 (a3u.mk (0:Int) (0:Int) none)).kids.getD []))])).num=((a4b (xs.take i2)).num)∧(True∧True)))∧((a0b.mk (6:Int) 0 ([(a0b.mk ((a4b (xs.take i1)).kind) ((a4b (xs.take i1)).num) ((a4b (xs.take i1)).kids)),(a0b.mk ((a7a xs i1).getD i1 (a3u.mk (0:Int) (0:Int) none)).kind ((a7a xs i1).getD i1 (a3u.mk (0:Int) (0:Int) none)).num (((a7a xs i1).getD i1 (a3u.mk (0:Int) (0:Int) none)).kids.getD []))])).kids=((a4b (xs.take i2)).kids)∧(((a7a xs i1).set i1 (a3u.mk ((a7a xs i1).getD i1 (a3u.mk (0:Int) (0:Int) none)).kind ((a7a xs i1).getD i1 (a3u.mk (0:Int) (0:Int) none)).num none))=(a7a xs i2)∧(((0:Int)=(0:Int)∧((0:Int)=(0:Int)∧(True∧True)))∧True))))))))))))∧((decide ((i1:Int)<((xs.length:Int))))=false →
 (a0b.mk ((a4b (xs.take i1)).kind) ((a4b (xs.take i1)).num) ((a4b (xs.take i1)).kids))=(a4b xs))))))):=by kernel_rfl
theorem g9f(hE:a0o [])(hO:a5c [b0q,b0r])(hM:a5s [])(hS:a5d []):Ctr.OGood c0a:=by
 refine⟨a0l e9e rfl (by decide),?_⟩
 show ∀ (xs:List a0b),(xs.length≤1000)→a6q prog d8t [.own ⟨(.slice (.st .expr)),xs⟩] [⟨(.st .expr),a4b xs⟩]
 intro xs hp
 refine a4j (own:=[6,15,16,12]) (wr:=[]) (cl:=[]) (ro:=[]) hE hO hM hS e9e g4a (f0b xs) ?_
 rewrite [h0e xs]
 have g0:=i0d xs
 have g1:a4b (xs.take 0)=⟨1,0,[]⟩:=by simp[a4b]
 have g2:∀ i,xs.length≤i→xs.take i=xs:=fun i h=>List.take_of_length_le h
 refine⟨⟨0,⟨?_,⟨⟨trivial,⟨trivial,⟨trivial,⟨rfl,⟨?_,trivial⟩⟩⟩⟩⟩,⟨⟨?_,⟨?_,⟨trivial,trivial⟩⟩⟩,⟨?_,⟨?_,⟨⟨rfl,⟨rfl,⟨trivial,trivial⟩⟩⟩,trivial⟩⟩⟩⟩⟩⟩⟩,fun i1 a0=>have b0x0:=h6a xs i1;have b0x1:=i2i xs i1 ⟨0,0,none⟩;have b0x2:=i0c xs i1 ⟨0,0,none⟩;have b0x3:=i2j xs i1 ⟨0,0,none⟩;⟨fun a1=>⟨?_,⟨?_,⟨?_,⟨i1+1,⟨?_,⟨?_,⟨⟨trivial,⟨trivial,⟨trivial,⟨rfl,⟨?_,trivial⟩⟩⟩⟩⟩,⟨⟨?_,⟨?_,⟨trivial,trivial⟩⟩⟩,⟨?_,⟨?_,⟨⟨rfl,⟨rfl,⟨trivial,trivial⟩⟩⟩,trivial⟩⟩⟩⟩⟩⟩⟩⟩⟩⟩⟩,fun a1=>?_⟩⟩
 all_goals try and_intros
 all_goals first|rfl|trivial|omega|exact g0.symm|(rw[g1];done)|(simp only[decide_eq_true_eq,decide_eq_false_iff_not,a0k,a0c,b0x0] at *;first|omega|exact b0x1 (by omega)|exact (b0x2 (by omega)).1|(rw[b0x3 (by omega)];simp only[mkE];done)|(rw[b0x3 (by omega)];done)|(rw[mkE,g2 i1 (by omega)];done))
theorem g1l:Ctr.OGood c0a:=g9f trivial ⟨e1v,e1w,trivial⟩ trivial trivial
def b6e:Ctr:=⟨d0v,[.v (.st .sig), .v (.slice (.int .i64))],fun (gg:a0h) (xs:List Int)=>⟨(some ((0≤gg.tests∧gg.tests≤3)∧a0v (a4x 8) xs=true∧xs.length≤8),[⟨(.st .expr),ofA gg xs⟩])⟩⟩
def e1k(gg:a0h)(xs:List Int):Nat→a0p:=(fun zb=>if Nat.beq zb 0 then .mk (Nat) (fun i=>i≤xs.length) (fun i=>xs.length - i) [] [0,1,3,6,8] (fun i=>[(11, .imm ⟨(.int .i64),((i:Int):Int)⟩),(5, .tree 2100)]) [2,4,5,7,9,10,11,12,13,14,15,16,17,18,19,20,21,22,23] (fun i=>[(2100, .tree (.st .expr) ((xs.take i).map (fun a=>a1z a gg.tests.toNat):List a0b))]) [] [] (fun i=>fun _ => .none) else .none)
theorem g2u(gg:a0h)(xs:List Int):awp (a2s [] [a9k,c0a] [] [8,18,19,20,23] [] [] [2]) (a0j b2o) (e1k gg xs) 0 (a5k (a2s [] [a9k,c0a] [] [8,18,19,20,23] [] [] [2]) b2o fun r=>a1f r [⟨(.st .expr),ofA gg xs⟩]) (a8e b2o [.val ⟨(.st .sig),gg⟩, .val ⟨(.slice (.int .i64)),xs⟩]) =
 ((a0c ((xs.length:Int)) →
 ((∃ i1:Nat,(i1≤xs.length∧((gg=gg∧(True∧(True∧(xs=xs∧(((xs.length:Int))=((xs.length:Int))∧((0:Int)=(i1:Int)∧True))))))∧([]=((xs.take i1).map (fun a=>a1z a gg.tests.toNat))∧(((0:Int)=(0:Int)∧((0:Int)=(0:Int)∧(True∧True)))∧True)))))∧(∀ i1:Nat,(i1≤xs.length →
 (((decide ((i1:Int)<((xs.length:Int))))=true →
 (a0k (i1:Int) xs.length∧(a0c (xs.getD i1 (0:Int)) →
 (((0≤gg.tests∧gg.tests≤3)∧0≤(xs.getD i1 (0:Int))∧(xs.getD i1 (0:Int))≤4096)∧(a1p (((xs.take i1).map (fun a=>a1z a gg.tests.toNat)).length+([(a0n (a1z (xs.getD i1 (0:Int)) gg.tests.toNat))]).length) 40∧(a0c ((i1:Int)+(1:Int))∧(∃ i2:Nat,(i2≤xs.length∧(xs.length - i2<xs.length - i1∧((gg=gg∧(True∧(True∧(xs=xs∧(((xs.length:Int))=((xs.length:Int))∧(((i1:Int)+(1:Int))=(i2:Int)∧True))))))∧((((xs.take i1).map (fun a=>a1z a gg.tests.toNat))++([(a0n (a1z (xs.getD i1 (0:Int)) gg.tests.toNat))]))=((xs.take i2).map (fun a=>a1z a gg.tests.toNat))∧(((0:Int)=(0:Int)∧((0:Int)=(0:Int)∧(True∧True)))∧True))))))))))))∧((decide ((i1:Int)<((xs.length:Int))))=false →
 (((xs.take i1).map (fun a=>a1z a gg.tests.toNat)).length≤1000∧(a0n (a4b ((xs.take i1).map (fun a=>a1z a gg.tests.toNat))))=(ofA gg xs))))))))):=by kernel_rfl
theorem g1y(hE:a0o [])(hO:a5c [a9k,c0a])(hM:a5s [])(hS:a5d []):Ctr.OGood b6e:=by
 refine⟨a0l d9y rfl (by decide),?_⟩
 show ∀ (gg:a0h) (xs:List Int),((0≤gg.tests∧gg.tests≤3)∧a0v (a4x 8) xs=true∧xs.length≤8)→a6q prog d0v [.val ⟨(.st .sig),gg⟩, .val ⟨(.slice (.int .i64)),xs⟩] [⟨(.st .expr),ofA gg xs⟩]
 intro gg xs hp
 refine a4j (own:=[8,18,19,20,23]) (wr:=[]) (cl:=[]) (ro:=[2]) hE hO hM hS d9y f6m (e1k gg xs) ?_
 rewrite [g2u gg xs]
 have g2:∀ i,xs.length≤i→xs.take i=xs:=fun i h=>List.take_of_length_le h
 refine fun a0=>⟨⟨0,⟨?_,⟨⟨rfl,⟨trivial,⟨trivial,⟨rfl,⟨rfl,⟨?_,trivial⟩⟩⟩⟩⟩⟩,⟨?_,⟨⟨rfl,⟨rfl,⟨trivial,trivial⟩⟩⟩,trivial⟩⟩⟩⟩⟩,fun i1 a1=>have b1x0:=h4u gg xs i1;have b1x1:=h6j 8 xs i1;⟨fun a2=>⟨?_,fun a3=>⟨?_,⟨?_,⟨?_,⟨i1+1,⟨?_,⟨?_,⟨⟨rfl,⟨trivial,⟨trivial,⟨rfl,⟨rfl,⟨?_,trivial⟩⟩⟩⟩⟩⟩,⟨?_,⟨⟨rfl,⟨rfl,⟨trivial,trivial⟩⟩⟩,trivial⟩⟩⟩⟩⟩⟩⟩⟩⟩⟩,fun a2=>⟨?_,?_⟩⟩⟩
 all_goals try and_intros
 all_goals try simp only[a0b.eta,a0d.eta,a1g.eta,a0e.eta,a2u,a2z,a2o,a2f] at *
 all_goals first|rfl|trivial|omega|(simp only[decide_eq_true_eq,decide_eq_false_iff_not,a0k,a0c,a1p,List.length_append,List.length_cons,List.length_nil,List.length_map,List.length_take] at *;first|omega|(have:=b1x1 (by omega) hp.2.1;omega)|(rw[b1x0 (by omega)];done)|(rw[g2 i1 (by omega)];rfl))
theorem f4j:Ctr.OGood b6e:=g1y trivial ⟨e2t,g1l,trivial⟩ trivial trivial
end
end Go.Proofs.YthebhlkdppmefaaGreat

set_option linter.unusedVariables false
set_option linter.unusedSimpArgs false
set_option linter.unusedSectionVars false
set_option maxRecDepth 4000
set_option maxHeartbeats 4000000
namespace Go.Proofs.YthebhlkdppmefaaGreat
noncomputable section
def b6y(xs:List Int)(k:Nat):Bool:=decide (k=0)||decide (xs.getD (k - 1) 0<xs.getD k 0)
def c7t(xs:List Int):Bool:=a4n (b6y xs) xs.length
def i3t(lo hi:Int)(xs:List Int)(k:Nat):Bool:=decide (lo≤xs.getD k 0∧xs.getD k 0≤hi)&&b6y xs k
def i2x(lo hi:Int)(xs:List Int):Bool:=a4n (i3t lo hi xs) xs.length
theorem h3r(xs:List Int)(k:Nat)(h:1≤k):b6y xs k=decide (xs.getD (k - 1) 0<xs.getD k 0):=by
 unfold b6y
 have:k≠0:=by omega
 simp[this]
theorem e8o(k:Nat):((k:Int) - (1:Int)).toNat=k - 1:=by omega
theorem i1i(p:Nat→Bool):a4n p 1=p 0:=by simp[a4n]
theorem h8r(p:Nat→Bool):a4n p 0=true:=rfl
theorem i4f(b n:Int):a4x b n=decide (0≤n∧n≤b - 1):=rfl
theorem i2e(gg:a0h)(xs:List Int)(i:Nat)(h:i<xs.length):ofA gg (xs.take (i+1))=⟨6,0,[ofA gg (xs.take i),a1z (xs.getD i 0) gg.tests.toNat]⟩:=by
 unfold ofA
 rw[h4u gg xs i h,e1y]
theorem h7k(xs:List Int):b6y xs 0=true:=rfl
def b3o:Ctr:=⟨c6c,[.v (.slice (.int .i64))],fun (xs:List Int)=>⟨(none,[⟨.bool,c7t xs⟩])⟩⟩
def d8i(xs:List Int):Nat→a0p:=(fun zb=>if Nat.beq zb 0 then .mk (Nat) (fun k=>1≤k∧(k≤xs.length∨k=1)∧a4n (b6y xs) k=true) (fun k=>xs.length - k) [] [1] (fun k=>[(3, .imm ⟨(.int .i64),((k:Int):Int)⟩)]) [0,2,3,4,5,6,7,8,9,10,11,12,13,14,15,16,17,18,19] (fun k=>[]) [] [] (fun k=>fun _ => .none) else .none)
theorem f8l(xs:List Int):awp (a0r []) (a0j a9t) (d8i xs) 0 (a1c (a0r []) a9t fun r=>a1f r [⟨.bool,c7t xs⟩]) (a0m a9t [.val ⟨(.slice (.int .i64)),xs⟩]) =
 (((∃ k1:Nat,((1≤k1∧(k1≤xs.length∨k1=1)∧a4n (b6y xs) k1=true)∧((xs=xs∧((1:Int)=(k1:Int)∧True))∧True)))∧(∀ k1:Nat,((1≤k1∧(k1≤xs.length∨k1=1)∧a4n (b6y xs) k1=true) →
 (a0c ((xs.length:Int)) →
 (((decide ((k1:Int)<((xs.length:Int))))=true →
 (a0k (k1:Int) xs.length∧(a0c ((k1:Int) - (1:Int))∧(a0k ((k1:Int) - (1:Int)) xs.length∧(a0c (xs.getD k1 (0:Int)) →
 (a0c (xs.getD (Int.toNat ((k1:Int) - (1:Int))) (0:Int)) →
 (((decide ((xs.getD k1 (0:Int))≤(xs.getD (Int.toNat ((k1:Int) - (1:Int))) (0:Int))))=true →
 false=(c7t xs))∧((decide ((xs.getD k1 (0:Int))≤(xs.getD (Int.toNat ((k1:Int) - (1:Int))) (0:Int))))=false →
 (a0c ((k1:Int)+(1:Int))∧(∃ k2:Nat,((1≤k2∧(k2≤xs.length∨k2=1)∧a4n (b6y xs) k2=true)∧(xs.length - k2<xs.length - k1∧((xs=xs∧(((k1:Int)+(1:Int))=(k2:Int)∧True))∧True)))))))))))))∧((decide ((k1:Int)<((xs.length:Int))))=false →
 true=(c7t xs)))))))):=by kernel_rfl
theorem f8a(hE:a0o []):Ctr.Good b3o:=by
 refine⟨a0l d4k rfl (by decide),?_⟩
 show ∀ (xs:List Int),True→a1e prog c6c [.val ⟨(.slice (.int .i64)),xs⟩] (·=[⟨.bool,c7t xs⟩])
 intro xs _
 refine a0w (wr:=[]) (cl:=[]) (ro:=[]) hE d4k f0n (d8i xs) ?_
 rewrite [f8l xs]
 have g0:=i1i (b6y xs)
 have g1:=h7k xs
 have g2:=h8r (b6y xs)
 have g3:c7t xs=a4n (b6y xs) xs.length:=rfl
 refine⟨⟨1,⟨?_,⟨⟨rfl,⟨?_,trivial⟩⟩,trivial⟩⟩⟩,fun k1 a0=>have b0x0:=h3r xs k1;have b0x1:=d2c (b6y xs) k1;have b0x2:=h3j (b6y xs) xs.length k1;have b0x3:=e8o k1;fun a1=>⟨fun a2=>⟨?_,⟨?_,⟨?_,fun a3=>fun a4=>⟨fun a5=>?_,fun a5=>⟨?_,⟨k1+1,⟨?_,⟨?_,⟨⟨rfl,⟨?_,trivial⟩⟩,trivial⟩⟩⟩⟩⟩⟩⟩⟩⟩,fun a2=>?_⟩⟩
 all_goals try and_intros
 all_goals first|rfl|trivial|omega|(simp only[decide_eq_true_eq,decide_eq_false_iff_not,a0k,a0c,e8o] at *;omega)|(simp only[e8o,decide_eq_true_eq,decide_eq_false_iff_not,a0k,a0c,c7t,i2x] at *;first|omega|grind)
theorem f0w:Ctr.Good b3o:=f8a trivial
def b7y:Ctr:=⟨d0u,[.v (.slice (.int .i64)), .v (.int .i64)],fun (xs:List Int) (below:Int)=>⟨(some (0≤below∧below≤4096),[⟨.bool,a0v (a4x below) xs⟩])⟩⟩
def e4s(xs:List Int)(below:Int):Nat→a0p:=(fun zb=>if Nat.beq zb 0 then .mk (Nat) (fun k=>k≤xs.length∧a0v (a4x below) (xs.take k)=true) (fun k=>xs.length - k) [] [0,2,3,5] (fun k=>[(9, .imm ⟨(.int .i64),((k:Int):Int)⟩)]) [1,4,6,7,8,9,10,11,12,13,14,15,16,17,18] (fun k=>[]) [] [] (fun k=>fun _ => .none) else .none)
theorem g7b(xs:List Int)(below:Int):awp (a0r [a3b]) (a0j b2j) (e4s xs below) 0 (a1c (a0r [a3b]) b2j fun r=>a1f r [⟨.bool,a0v (a4x below) xs⟩]) (a0m b2j [.val ⟨(.slice (.int .i64)),xs⟩, .val ⟨(.int .i64),below⟩]) =
 ((a0c ((xs.length:Int)) →
 ((∃ k1:Nat,((k1≤xs.length∧a0v (a4x below) (xs.take k1)=true)∧((below=below∧(xs=xs∧(((xs.length:Int))=((xs.length:Int))∧((0:Int)=(k1:Int)∧True))))∧True)))∧(∀ k1:Nat,((k1≤xs.length∧a0v (a4x below) (xs.take k1)=true) →
 (((decide ((k1:Int)<((xs.length:Int))))=true →
 (a0k (k1:Int) xs.length∧(a0c (xs.getD k1 (0:Int)) →
 (a0c (below - (1:Int))∧((((!(decide ((0:Int)≤(xs.getD k1 (0:Int))∧(xs.getD k1 (0:Int))≤(below - (1:Int)))))=true) →
 false=(a0v (a4x below) xs))∧(((!(decide ((0:Int)≤(xs.getD k1 (0:Int))∧(xs.getD k1 (0:Int))≤(below - (1:Int)))))=false) →
 (a0c ((k1:Int)+(1:Int))∧(∃ k2:Nat,((k2≤xs.length∧a0v (a4x below) (xs.take k2)=true)∧(xs.length - k2<xs.length - k1∧((below=below∧(xs=xs∧(((xs.length:Int))=((xs.length:Int))∧(((k1:Int)+(1:Int))=(k2:Int)∧True))))∧True)))))))))))∧((decide ((k1:Int)<((xs.length:Int))))=false →
 true=(a0v (a4x below) xs)))))))):=by kernel_rfl
theorem g5g(hE:a0o [a3b]):Ctr.Good b7y:=by
 refine⟨a0l d9t rfl (by decide),?_⟩
 show ∀ (xs:List Int) (below:Int),(0≤below∧below≤4096)→a1e prog d0u [.val ⟨(.slice (.int .i64)),xs⟩, .val ⟨(.int .i64),below⟩] (·=[⟨.bool,a0v (a4x below) xs⟩])
 intro xs below hp
 refine a0w (wr:=[]) (cl:=[]) (ro:=[]) hE d9t f6h (e4s xs below) ?_
 rewrite [g7b xs below]
 have f0:=a8h (a4x below) xs
 refine fun a0=>⟨⟨0,⟨?_,⟨⟨rfl,⟨rfl,⟨rfl,⟨?_,trivial⟩⟩⟩⟩,trivial⟩⟩⟩,fun k1 a1=>have b1x0:=a3h (a4x below) 0 xs k1;have b1x1:=a4c (a4x below) 0 xs k1;have b1x2:=a3l (a4x below) xs k1;have b1x3:=i4f below (xs.getD k1 0);⟨fun a2=>⟨?_,fun a3=>⟨?_,⟨fun a4=>?_,fun a4=>⟨?_,⟨k1+1,⟨?_,⟨?_,⟨⟨rfl,⟨rfl,⟨rfl,⟨?_,trivial⟩⟩⟩⟩,trivial⟩⟩⟩⟩⟩⟩⟩⟩,fun a2=>?_⟩⟩
 all_goals try and_intros
 all_goals first|rfl|trivial|omega|(simp only[decide_eq_true_eq,decide_eq_false_iff_not,a0k,a0c] at *;omega)|grind [a0k,a0c]
theorem f7f:Ctr.Good b7y:=g5g ⟨b3i,trivial⟩
def a5f:Ctr:=⟨d4c,[],⟨(none,[⟨(.st .expr),a0b.mk 2 0 []⟩])⟩⟩
def f0a :Nat→a0p:=fun _ => .none
theorem h0d :awp (a0r []) (a0j b5c) (f0a ) 0 (a1c (a0r []) b5c fun r=>a1f r [⟨(.st .expr),a0b.mk 2 0 []⟩]) (a0m b5c []) =
 ((a0b.mk (2:Int) (0:Int) [])=(a0b.mk 2 0 [])):=by kernel_rfl
theorem g9e(hE:a0o []):Ctr.Good a5f:=by
 refine⟨a0l e3n rfl (by decide),?_⟩
 show True→a1e prog d4c [] (·=[⟨(.st .expr),a0b.mk 2 0 []⟩])
 intro  _
 refine a0w (wr:=[]) (cl:=[]) (ro:=[]) hE e3n g0o (f0a ) ?_
 rewrite [h0d ]
 refine ?_
 all_goals try and_intros
 all_goals first|rfl|trivial|omega|(simp only[decide_eq_true_eq,decide_eq_false_iff_not,a0k,a0c,a2k,a8i,a5r,a1p] at *;omega)|(simp[a0k,a0c] at *;omega)|grind
theorem c5w:Ctr.Good a5f:=g9e trivial
def a7y:Ctr:=⟨d0x,[],⟨(none,[⟨(.st .expr),a0b.mk 1 0 []⟩])⟩⟩
def e5d :Nat→a0p:=fun _ => .none
theorem g7m :awp (a0r []) (a0j b2t) (e5d ) 0 (a1c (a0r []) b2t fun r=>a1f r [⟨(.st .expr),a0b.mk 1 0 []⟩]) (a0m b2t []) =
 ((a0b.mk (1:Int) (0:Int) [])=(a0b.mk 1 0 [])):=by kernel_rfl
theorem g5s(hE:a0o []):Ctr.Good a7y:=by
 refine⟨a0l e0a rfl (by decide),?_⟩
 show True→a1e prog d0x [] (·=[⟨(.st .expr),a0b.mk 1 0 []⟩])
 intro  _
 refine a0w (wr:=[]) (cl:=[]) (ro:=[]) hE e0a f6r (e5d ) ?_
 rewrite [g7m ]
 refine ?_
 all_goals try and_intros
 all_goals first|rfl|trivial|omega|(simp only[decide_eq_true_eq,decide_eq_false_iff_not,a0k,a0c,a2k,a8i,a5r,a1p] at *;omega)|(simp[a0k,a0c] at *;omega)|grind
theorem d4t:Ctr.Good a7y:=g5s trivial
def a4v:Ctr:=⟨b8o,[.v (.int .i64), .v (.st .expr), .v (.st .expr)],fun (k:Int) (a:a0b) (b:a0b)=>⟨(none,[⟨(.st .expr),a0b.mk k 0 [a,b]⟩])⟩⟩
def e5c(k:Int)(a:a0b)(b:a0b):Nat→a0p:=fun _ => .none
theorem g7l(k:Int)(a:a0b)(b:a0b):awp (a0r [] [] [] [4,5]) (a0j a6f) (e5c k a b) 0 (a1c (a0r [] [] [] [4,5]) a6f fun r=>a1f r [⟨(.st .expr),a0b.mk k 0 [a,b]⟩]) (a0m a6f [.val ⟨(.int .i64),k⟩, .val ⟨(.st .expr),a⟩, .val ⟨(.st .expr),b⟩]) =
 ((a0b.mk k (0:Int) ([a,b]))=(a0b.mk k 0 [a,b])):=by kernel_rfl
theorem g5r(hE:a0o []):Ctr.Good a4v:=by
 refine⟨a0l c0w rfl (by decide),?_⟩
 show ∀ (k:Int) (a:a0b) (b:a0b),True→a1e prog b8o [.val ⟨(.int .i64),k⟩, .val ⟨(.st .expr),a⟩, .val ⟨(.st .expr),b⟩] (·=[⟨(.st .expr),a0b.mk k 0 [a,b]⟩])
 intro k a b _
 refine a0w (wr:=[]) (cl:=[]) (ro:=[4,5]) hE c0w d4s (e5c k a b) ?_
 rewrite [g7l k a b]
 refine ?_
 all_goals try and_intros
 all_goals first|rfl|trivial|omega|(simp only[decide_eq_true_eq,decide_eq_false_iff_not,a0k,a0c,a2k,a8i,a5r,a1p] at *;omega)|(simp[a0k,a0c] at *;omega)|grind
theorem c4g:Ctr.Good a4v:=g5r trivial
def b0o:Ctr:=⟨c2n,[.v (.st .sig), .v (.int .i64)],fun (gg:a0h) (atom:Int)=>⟨(some ((0≤gg.tests∧gg.tests≤3)∧0≤atom∧atom≤4096),[⟨(.st .expr),a1z atom gg.tests.toNat⟩])⟩⟩
def d2z(gg:a0h)(atom:Int):Nat→a0p:=(fun zb=>if Nat.beq zb 0 then .mk (Nat) (fun i=>i≤gg.tests.toNat) (fun i=>gg.tests.toNat - i) [24] [0,3,8] (fun i=>[(6, .imm ⟨(.int .i64),((i:Int):Int)⟩)]) [1,2,4,6,7,9,10,11,12,13,14,15,16,17,18,19,20,21,22,23,24,25,26,27,28,29,30,31,32] (fun i=>[(5, .box [.imm ⟨(.int .i64),((a1z atom i).kind:Int)⟩, .imm ⟨(.int .i64),((a1z atom i).num:Int)⟩, .imm ⟨(.slice (.st .expr)),((a1z atom i).kids:List a0b)⟩])]) [] [] (fun i=>fun _ => .none) else .none)
theorem f1p(gg:a0h)(atom:Int):awp (a0r [a5f,a4v] [] [] [2]) (a0j a7u) (d2z gg atom) 0 (a1c (a0r [a5f,a4v] [] [] [2]) a7u fun r=>a1f r [⟨(.st .expr),a1z atom gg.tests.toNat⟩]) (a0m a7u [.val ⟨(.st .sig),gg⟩, .val ⟨(.int .i64),atom⟩]) =
 (((∃ i1:Nat,(i1≤gg.tests.toNat∧((atom=atom∧(gg=gg∧(True∧(True∧((0:Int)=(i1:Int)∧True)))))∧(((a0b.mk 2 0 []).kind=((a1z atom i1).kind)∧((a0b.mk 2 0 []).num=((a1z atom i1).num)∧((a0b.mk 2 0 []).kids=((a1z atom i1).kids)∧True)))∧(((0:Int)=(0:Int)∧((0:Int)=(0:Int)∧(True∧True)))∧True)))))∧(∀ i1:Nat,(i1≤gg.tests.toNat →
 (a0c gg.tests →
 (((decide ((i1:Int)<gg.tests))=true →
 (a2k .u64 (i1:Int)∧(((0:Int)≤(i1:Int)∧((i1:Int)<(64:Int)∧a0c (atom.fdiv (2 ^ (i1:Int).toNat))))∧(((0:Int)≤(atom.fdiv (2 ^ (i1:Int).toNat))∧((0:Int)≤(1:Int)∧(a0c (atom.fdiv (2 ^ (i1:Int).toNat))∧a0c (1:Int))))∧(((decide (((((atom.fdiv (2 ^ (i1:Int).toNat)).toNat &&& (1:Int).toNat:Nat):Int))=(0:Int)))=true →
 (((decide ((i1:Int)=(0:Int)))=true →
 (a0c ((i1:Int)+(1:Int))∧(∃ i2:Nat,(i2≤gg.tests.toNat∧(gg.tests.toNat - i2<gg.tests.toNat - i1∧((atom=atom∧(gg=gg∧(True∧(True∧(((i1:Int)+(1:Int))=(i2:Int)∧True)))))∧(((5:Int)=((a1z atom i2).kind)∧((0:Int)=((a1z atom i2).num)∧(([(a0b.mk (3:Int) (i1:Int) [])])=((a1z atom i2).kids)∧True)))∧(((0:Int)=(0:Int)∧((0:Int)=(0:Int)∧(True∧True)))∧True))))))))∧((decide ((i1:Int)=(0:Int)))=false →
 (a0c ((i1:Int)+(1:Int))∧(∃ i2:Nat,(i2≤gg.tests.toNat∧(gg.tests.toNat - i2<gg.tests.toNat - i1∧((atom=atom∧(gg=gg∧(True∧(True∧(((i1:Int)+(1:Int))=(i2:Int)∧True)))))∧(((a0b.mk (7:Int) 0 [(a0b.mk ((a1z atom i1).kind) ((a1z atom i1).num) ((a1z atom i1).kids)),(a0b.mk (5:Int) (0:Int) ([(a0b.mk (3:Int) (i1:Int) [])]))]).kind=((a1z atom i2).kind)∧((a0b.mk (7:Int) 0 [(a0b.mk ((a1z atom i1).kind) ((a1z atom i1).num) ((a1z atom i1).kids)),(a0b.mk (5:Int) (0:Int) ([(a0b.mk (3:Int) (i1:Int) [])]))]).num=((a1z atom i2).num)∧((a0b.mk (7:Int) 0 [(a0b.mk ((a1z atom i1).kind) ((a1z atom i1).num) ((a1z atom i1).kids)),(a0b.mk (5:Int) (0:Int) ([(a0b.mk (3:Int) (i1:Int) [])]))]).kids=((a1z atom i2).kids)∧True)))∧(((0:Int)=(0:Int)∧((0:Int)=(0:Int)∧(True∧True)))∧True))))))))))∧((decide (((((atom.fdiv (2 ^ (i1:Int).toNat)).toNat &&& (1:Int).toNat:Nat):Int))=(0:Int)))=false →
 (((decide ((i1:Int)=(0:Int)))=true →
 (a0c ((i1:Int)+(1:Int))∧(∃ i2:Nat,(i2≤gg.tests.toNat∧(gg.tests.toNat - i2<gg.tests.toNat - i1∧((atom=atom∧(gg=gg∧(True∧(True∧(((i1:Int)+(1:Int))=(i2:Int)∧True)))))∧(((3:Int)=((a1z atom i2).kind)∧((i1:Int)=((a1z atom i2).num)∧(((a1z atom i2).kids)=[]∧True)))∧(((0:Int)=(0:Int)∧((0:Int)=(0:Int)∧(True∧True)))∧True))))))))∧((decide ((i1:Int)=(0:Int)))=false →
 (a0c ((i1:Int)+(1:Int))∧(∃ i2:Nat,(i2≤gg.tests.toNat∧(gg.tests.toNat - i2<gg.tests.toNat - i1∧((atom=atom∧(gg=gg∧(True∧(True∧(((i1:Int)+(1:Int))=(i2:Int)∧True)))))∧(((a0b.mk (7:Int) 0 [(a0b.mk ((a1z atom i1).kind) ((a1z atom i1).num) ((a1z atom i1).kids)),(a0b.mk (3:Int) (i1:Int) [])]).kind=((a1z atom i2).kind)∧((a0b.mk (7:Int) 0 [(a0b.mk ((a1z atom i1).kind) ((a1z atom i1).num) ((a1z atom i1).kids)),(a0b.mk (3:Int) (i1:Int) [])]).num=((a1z atom i2).num)∧((a0b.mk (7:Int) 0 [(a0b.mk ((a1z atom i1).kind) ((a1z atom i1).num) ((a1z atom i1).kids)),(a0b.mk (3:Int) (i1:Int) [])]).kids=((a1z atom i2).kids)∧True)))∧(((0:Int)=(0:Int)∧((0:Int)=(0:Int)∧(True∧True)))∧True)))))))))))))))∧((decide ((i1:Int)<gg.tests))=false →
 (a0b.mk ((a1z atom i1).kind) ((a1z atom i1).num) ((a1z atom i1).kids))=(a1z atom gg.tests.toNat)))))))):=by kernel_rfl
theorem f1h(hE:a0o [a5f,a4v]):Ctr.Good b0o:=by
 refine⟨a0l c9o rfl (by decide),?_⟩
 show ∀ (gg:a0h) (atom:Int),((0≤gg.tests∧gg.tests≤3)∧0≤atom∧atom≤4096)→a1e prog c2n [.val ⟨(.st .sig),gg⟩, .val ⟨(.int .i64),atom⟩] (·=[⟨(.st .expr),a1z atom gg.tests.toNat⟩])
 intro gg atom hp
 refine a0w (wr:=[]) (cl:=[]) (ro:=[2]) hE c9o e4a (d2z gg atom) ?_
 rewrite [f1p gg atom]
 have g0:a1z atom 0=⟨2,0,[]⟩:=rfl
 refine⟨⟨0,⟨?_,⟨⟨rfl,⟨rfl,⟨trivial,⟨trivial,⟨?_,trivial⟩⟩⟩⟩⟩,⟨⟨?_,⟨?_,⟨?_,trivial⟩⟩⟩,⟨⟨rfl,⟨rfl,⟨trivial,trivial⟩⟩⟩,trivial⟩⟩⟩⟩⟩,fun i1 a0=>have b0x0:=h3x atom i1;have b0x1:=h3y atom i1;have b0x2:=h9t atom i1;have b0x3:=h9s atom i1;have b0x4:=d1w atom i1 hp.2;fun a1=>⟨fun a2=>⟨?_,⟨⟨?_,⟨?_,?_⟩⟩,⟨⟨?_,⟨?_,⟨?_,?_⟩⟩⟩,⟨fun a3=>⟨fun a4=>⟨?_,⟨i1+1,⟨?_,⟨?_,⟨⟨rfl,⟨rfl,⟨trivial,⟨trivial,⟨?_,trivial⟩⟩⟩⟩⟩,⟨⟨?_,⟨?_,⟨?_,trivial⟩⟩⟩,⟨⟨rfl,⟨rfl,⟨trivial,trivial⟩⟩⟩,trivial⟩⟩⟩⟩⟩⟩⟩,fun a4=>⟨?_,⟨i1+1,⟨?_,⟨?_,⟨⟨rfl,⟨rfl,⟨trivial,⟨trivial,⟨?_,trivial⟩⟩⟩⟩⟩,⟨⟨?_,⟨?_,⟨?_,trivial⟩⟩⟩,⟨⟨rfl,⟨rfl,⟨trivial,trivial⟩⟩⟩,trivial⟩⟩⟩⟩⟩⟩⟩⟩,fun a3=>⟨fun a4=>⟨?_,⟨i1+1,⟨?_,⟨?_,⟨⟨rfl,⟨rfl,⟨trivial,⟨trivial,⟨?_,trivial⟩⟩⟩⟩⟩,⟨⟨?_,⟨?_,⟨?_,trivial⟩⟩⟩,⟨⟨rfl,⟨rfl,⟨trivial,trivial⟩⟩⟩,trivial⟩⟩⟩⟩⟩⟩⟩,fun a4=>⟨?_,⟨i1+1,⟨?_,⟨?_,⟨⟨rfl,⟨rfl,⟨trivial,⟨trivial,⟨?_,trivial⟩⟩⟩⟩⟩,⟨⟨?_,⟨?_,⟨?_,trivial⟩⟩⟩,⟨⟨rfl,⟨rfl,⟨trivial,trivial⟩⟩⟩,trivial⟩⟩⟩⟩⟩⟩⟩⟩⟩⟩⟩⟩,fun a2=>?_⟩⟩
 all_goals try and_intros
 all_goals first|rfl|trivial|omega|(simp only[decide_eq_true_eq,decide_eq_false_iff_not,a0k,a0c,a8l,a8k,b0e,b0d] at *;omega)|((try simp only[mkE] at *);first|rfl|omega|(simp_all;done)|grind [b0e,b0d,a0c])
theorem e4k:Ctr.Good b0o:=f1h ⟨c5w,c4g,trivial⟩
def c2a:Ctr:=⟨d8y,[.v (.st .sig), .v (.slice (.int .i64))],fun (gg:a0h) (xs:List Int)=>⟨(some ((0≤gg.tests∧gg.tests≤3)∧a0v (a4x 8) xs=true∧xs.length≤8),[⟨(.st .expr),ofA gg xs⟩])⟩⟩
def f3u(gg:a0h)(xs:List Int):Nat→a0p:=(fun zb=>if Nat.beq zb 0 then .mk (Nat) (fun i=>i≤xs.length) (fun i=>xs.length - i) [] [0,3,7] (fun i=>[(6, .imm ⟨(.int .i64),((i:Int):Int)⟩)]) [1,2,4,6,8,9,10,11,12,13,14,15,16,17,18,19,20,21,22] (fun i=>[(5, .box [.imm ⟨(.int .i64),((ofA gg (xs.take i)).kind:Int)⟩, .imm ⟨(.int .i64),((ofA gg (xs.take i)).num:Int)⟩, .imm ⟨(.slice (.st .expr)),((ofA gg (xs.take i)).kids:List a0b)⟩])]) [] [] (fun i=>fun _ => .none) else .none)
theorem h2u(gg:a0h)(xs:List Int):awp (a0r [a7y,b0o,a4v] [] [] [2]) (a0j b7p) (f3u gg xs) 0 (a1c (a0r [a7y,b0o,a4v] [] [] [2]) b7p fun r=>a1f r [⟨(.st .expr),ofA gg xs⟩]) (a0m b7p [.val ⟨(.st .sig),gg⟩, .val ⟨(.slice (.int .i64)),xs⟩]) =
 (((∃ i1:Nat,(i1≤xs.length∧((xs=xs∧(gg=gg∧(True∧(True∧((0:Int)=(i1:Int)∧True)))))∧(((a0b.mk 1 0 []).kind=((ofA gg (xs.take i1)).kind)∧((a0b.mk 1 0 []).num=((ofA gg (xs.take i1)).num)∧((a0b.mk 1 0 []).kids=((ofA gg (xs.take i1)).kids)∧True)))∧(((0:Int)=(0:Int)∧((0:Int)=(0:Int)∧(True∧True)))∧True)))))∧(∀ i1:Nat,(i1≤xs.length →
 (a0c ((xs.length:Int)) →
 (((decide ((i1:Int)<((xs.length:Int))))=true →
 (a0k (i1:Int) xs.length∧(((0≤gg.tests∧gg.tests≤3)∧0≤(xs.getD i1 (0:Int))∧(xs.getD i1 (0:Int))≤4096)∧(a0c (xs.getD i1 (0:Int)) →
 (a0c ((i1:Int)+(1:Int))∧(∃ i2:Nat,(i2≤xs.length∧(xs.length - i2<xs.length - i1∧((xs=xs∧(gg=gg∧(True∧(True∧(((i1:Int)+(1:Int))=(i2:Int)∧True)))))∧(((a0b.mk (6:Int) 0 [(a0b.mk ((ofA gg (xs.take i1)).kind) ((ofA gg (xs.take i1)).num) ((ofA gg (xs.take i1)).kids)),(a1z (xs.getD i1 (0:Int)) gg.tests.toNat)]).kind=((ofA gg (xs.take i2)).kind)∧((a0b.mk (6:Int) 0 [(a0b.mk ((ofA gg (xs.take i1)).kind) ((ofA gg (xs.take i1)).num) ((ofA gg (xs.take i1)).kids)),(a1z (xs.getD i1 (0:Int)) gg.tests.toNat)]).num=((ofA gg (xs.take i2)).num)∧((a0b.mk (6:Int) 0 [(a0b.mk ((ofA gg (xs.take i1)).kind) ((ofA gg (xs.take i1)).num) ((ofA gg (xs.take i1)).kids)),(a1z (xs.getD i1 (0:Int)) gg.tests.toNat)]).kids=((ofA gg (xs.take i2)).kids)∧True)))∧(((0:Int)=(0:Int)∧((0:Int)=(0:Int)∧(True∧True)))∧True)))))))))))∧((decide ((i1:Int)<((xs.length:Int))))=false →
 (a0b.mk ((ofA gg (xs.take i1)).kind) ((ofA gg (xs.take i1)).num) ((ofA gg (xs.take i1)).kids))=(ofA gg xs)))))))):=by kernel_rfl
theorem h2j(hE:a0o [a7y,b0o,a4v]):Ctr.Good c2a:=by
 refine⟨a0l e9j rfl (by decide),?_⟩
 show ∀ (gg:a0h) (xs:List Int),((0≤gg.tests∧gg.tests≤3)∧a0v (a4x 8) xs=true∧xs.length≤8)→a1e prog d8y [.val ⟨(.st .sig),gg⟩, .val ⟨(.slice (.int .i64)),xs⟩] (·=[⟨(.st .expr),ofA gg xs⟩])
 intro gg xs hp
 refine a0w (wr:=[]) (cl:=[]) (ro:=[2]) hE e9j g4g (f3u gg xs) ?_
 rewrite [h2u gg xs]
 have g0:ofA gg (xs.take 0)=⟨1,0,[]⟩:=by simp[ofA,a4b]
 have g2:∀ i,xs.length≤i→xs.take i=xs:=fun i h=>List.take_of_length_le h
 refine⟨⟨0,⟨?_,⟨⟨rfl,⟨rfl,⟨trivial,⟨trivial,⟨?_,trivial⟩⟩⟩⟩⟩,⟨⟨?_,⟨?_,⟨?_,trivial⟩⟩⟩,⟨⟨rfl,⟨rfl,⟨trivial,trivial⟩⟩⟩,trivial⟩⟩⟩⟩⟩,fun i1 a0=>have b0x0:=i2e gg xs i1;have b0x1:=h6j 8 xs i1;fun a1=>⟨fun a2=>⟨?_,⟨?_,fun a3=>⟨?_,⟨i1+1,⟨?_,⟨?_,⟨⟨rfl,⟨rfl,⟨trivial,⟨trivial,⟨?_,trivial⟩⟩⟩⟩⟩,⟨⟨?_,⟨?_,⟨?_,trivial⟩⟩⟩,⟨⟨rfl,⟨rfl,⟨trivial,trivial⟩⟩⟩,trivial⟩⟩⟩⟩⟩⟩⟩⟩⟩,fun a2=>?_⟩⟩
 all_goals try and_intros
 all_goals first|rfl|trivial|omega|(simp only[decide_eq_true_eq,decide_eq_false_iff_not,a0k,a0c,mkE] at *;first|rfl|omega|(have:=b0x1 (by omega) hp.2.1;omega)|(rw[b0x0 (by omega)];done)|(rw[g2 i1 (by omega)];done)|(rw[g0];done))
theorem g4p:Ctr.Good c2a:=h2j ⟨d4t,e4k,c4g,trivial⟩
end
end Go.Proofs.YthebhlkdppmefaaGreat

set_option linter.unusedVariables false
set_option linter.unusedSimpArgs false
set_option linter.unusedSectionVars false
namespace Go.Proofs.YthebhlkdppmefaaGreat
noncomputable section
theorem i1o:∀ t:Fin 4,∀ a b:Fin 8,a.val<2 ^ t.val→b.val<2 ^ t.val→a1b (a.val:Int) (a1z (b.val:Int) t.val)=decide (a.val=b.val):=by decide +kernel
theorem i1p:∀ t:Fin 4,∀ b:Fin 8,(a1q ((t.val:Int) - 1) (-1) (a1z (b.val:Int) t.val)&&a1l (a1z (b.val:Int) t.val)&&decide (a1d (a1z (b.val:Int) t.val)≤8)&&decide (a1n (a1z (b.val:Int) t.val)≤4))=true:=by decide +kernel
theorem i3h(a:Int)(x y:a0b):a1b a (a0b.mk 6 0 [x,y])=(a1b a x||a1b a y):=by
 simp[a1b,d2b,tOp]
theorem i0u(a:Int):∀ (xs:List a0b),a1b a (a4b xs)=xs.any (a1b a):=by
 intro xs
 induction hn:xs.length generalizing xs with
 | zero =>
  have:xs=[]:=List.eq_nil_of_length_eq_zero hn
  subst this
  simp[a4b,a1b,d2b,tOp]
 | succ n ih =>
  rcases List.eq_nil_or_concat xs with e|⟨L,b,e⟩
  ·subst e;simp at hn
  ·rw[List.concat_eq_append] at e
   subst e
   rw[e1y,i3h,ih L (by simpa using hn)]
   simp
theorem i3f(t a:Int)(N D:Nat):∀ (xs:List a0b),(∀ x∈xs,a1q t a x=true∧a1l x=true∧a1d x≤N∧a1n x≤D) →
  a1q t a (a4b xs)=true∧a1l (a4b xs)=true∧a1d (a4b xs)≤1+(N+1) * xs.length∧a1n (a4b xs)≤D+1+xs.length:=by
 intro xs
 induction hn:xs.length generalizing xs with
 | zero =>
  intro _
  have:xs=[]:=List.eq_nil_of_length_eq_zero hn
  subst this
  refine⟨?_,by decide,?_,?_⟩
  ·simp[a4b,a1q,c0e,b7a,a2t]
  ·simp[a4b,a1d,a8z]
  ·simp[a4b,a1n,a9p]
 | succ n ih =>
  intro h
  rcases List.eq_nil_or_concat xs with e|⟨L,b,e⟩
  ·subst e;simp at hn
  ·rw[List.concat_eq_append] at e
   subst e
   have hl:L.length=n:=by simpa using hn
   obtain⟨i1,i2,i3,i4⟩:=ih L hl fun x hx=>h x (by simp[hx])
   obtain⟨b1,b2,b3,b4⟩:=h b (by simp)
   rw[e1y]
   refine⟨?_,?_,?_,?_⟩
   ·simp[a1q,c0e,b7a,a2t,i1,b1]
   ·simp[a1l,c7x,i2,b2,c5n]
   ·simp only[a1d,a8z];rw[Nat.mul_succ];omega
   ·simp only[a1n,a9p];omega
theorem i2f(gg:a0h)(xs:List Int)(hg:0≤gg.tests∧gg.tests≤3)(hx:∀ x∈xs,0≤x∧x<2 ^ gg.tests.toNat)(y:Int)(hy:0≤y∧y<2 ^ gg.tests.toNat):a1b y (ofA gg xs)=decide (y∈xs):=by
 have key:∀ x∈xs,a1b y (a1z x gg.tests.toNat)=decide (y=x):=fun x h=>by
  obtain⟨x0,x1⟩:=hx x h
  obtain⟨a,rfl⟩:∃ a:Nat,y=a:=⟨y.toNat,by omega⟩
  obtain⟨b,rfl⟩:∃ b:Nat,x=b:=⟨x.toNat,by omega⟩
  have ha:a<2 ^ gg.tests.toNat:=by exact_mod_cast hy.2
  have hb:b<2 ^ gg.tests.toNat:=by exact_mod_cast x1
  have ht:gg.tests.toNat<4:=by omega
  have h8:2 ^ gg.tests.toNat≤8:=by
   have:∀ t:Fin 4,2 ^ t.val≤8:=by decide
   exact this ⟨_,ht⟩
  have:=i1o ⟨gg.tests.toNat,ht⟩ ⟨a,by omega⟩ ⟨b,by omega⟩ ha hb
  rw[show (a1b (a:Int) (a1z (b:Int) gg.tests.toNat))=decide (a=b) from this]
  congr 1
  simp only[eq_iff_iff]
  omega
 unfold ofA
 rw[i0u,List.any_map,Bool.eq_iff_iff,List.any_eq_true,decide_eq_true_eq]
 constructor
 ·rintro⟨x,h1,h2⟩
  have:a1b y (a1z x gg.tests.toNat)=true:=h2
  rw[key x h1] at this
  rw[of_decide_eq_true this];exact h1
 ·intro h
  exact⟨y,h,by show a1b y (a1z y gg.tests.toNat)=true;rw[key y h];simp⟩
theorem h8n(t a a':Int)(h:a≤a')(x:a0b)(hx:a1q t a x=true):a1q t a' x=true:=e8q t a t a' (Int.le_refl _) h x hx
theorem h9x(gg:a0h)(xs:List Int)(hs:a1i gg=true)(hl:xs.length≤8)(hx:∀ x∈xs,0≤x∧x<8):isC gg (ofA gg xs)=true:=by
 have hg:=(a4l gg).1 hs
 have ht:gg.tests.toNat<4:=by omega
 have hv:=i3f (gg.tests - 1) (-1) 8 4 (xs.map fun a=>a1z a gg.tests.toNat) fun e he=>by
  obtain⟨x,h1,rfl⟩:=List.mem_map.1 he
  obtain⟨x0,x1⟩:=hx x h1
  obtain⟨b,rfl⟩:∃ b:Nat,x=b:=⟨x.toNat,by omega⟩
  have:=i1p ⟨gg.tests.toNat,ht⟩ ⟨b,by omega⟩
  simp only[Bool.and_eq_true,decide_eq_true_eq] at this
  have e:((gg.tests.toNat:Int) - 1)=gg.tests - 1:=by omega
  rw[e] at this
  exact⟨this.1.1.1,this.1.1.2,this.1.2,this.2⟩
 rw[List.length_map] at hv
 obtain⟨v1,v2,v3,v4⟩:=hv
 unfold isC
 rw[Bool.and_eq_true,e4l,c7p _ (by omega),c7p _ (by omega)]
 refine⟨⟨h8n _ _ _ (by omega) _ v1,?_,?_⟩,v2⟩
 ·have:a1d (ofA gg xs)≤1+(8+1) * xs.length:=v3
  omega
 ·have:a1n (ofA gg xs)≤4+1+xs.length:=v4
  omega
end
end Go.Proofs.YthebhlkdppmefaaGreat

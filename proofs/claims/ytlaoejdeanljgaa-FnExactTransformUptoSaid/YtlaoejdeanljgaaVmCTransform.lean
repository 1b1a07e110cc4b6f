/- HeldP, CTransform. -/
import Derived.Test.YtlaoejdeanljgaaVmUse
import Derived.Test.YtlaoejdeanljgaaVmLib
import Derived.Test.YtlaoejdeanljgaaVmHeld
import Derived.Test.YtlaoejdeanljgaaVmOwnFam3
import Derived.Test.YtlaoejdeanljgaaVmTr2
import Derived.Test.YtlaoejdeanljgaaVmTr4
set_option linter.unusedVariables false
set_option linter.unusedSimpArgs false
set_option linter.unusedSectionVars false
set_option maxRecDepth 4000
set_option maxHeartbeats 4000000
namespace Go.Proofs.Ytlaoejdeanljgaa
noncomputable section
theorem g2w{α:Type}(cnt:α→Nat)(mk:Int→α→α)(z:α):∀ (k:Int) (xs:List α) (i:Nat),i<xs.length→mkL cnt mk k (xs.take (i+1))=mkL cnt mk k (xs.take i)++[mk (k+(szL cnt (xs.take i):Int)) (xs.getD i z)]
 | k,[],i,h=>by simp at h
 | k,x::xs,0,h=>by simp[mkL,szL]
 | k,x::xs,i+1,h=>by
  have:=g2w cnt mk z (k+(cnt x:Int)) xs i (by simpa using h)
  simp only[List.take_succ_cons,mkL,this,List.getD_cons_succ,szL,List.cons_append]
  congr 4
  omega
theorem e9v(k:Int)(xs:List a0c):szL a0n (a0w k xs)=szL a0n xs:=by
 have:=e9u k xs
 rw[d0m,d0m] at this
 exact this
mutual
theorem h0y:∀ (k:Int) (x:a0a),a1k k (a1k k x)=a1k k x∧a0f (a1k k x)=a0f x
 | k,⟨a,b,c,ks⟩=>by
  have:=e5f (k+1+1+1+1+(szL a0n c.kids:Int)) ks
  simp only[a1k,a0f,e9v,e5g,this.1,this.2,and_self]
theorem e5f:∀ (k:Int) (xs:List a0a),b6w k (b6w k xs)=b6w k xs∧a9m (b6w k xs)=a9m xs
 | _,[]=>⟨rfl,rfl⟩
 | k,x::xs=>by
  have h1:=h0y k x
  have h2:=e5f (k+(a0f x:Int)) xs
  simp only[b6w,a9m,h1.1,h1.2,h2.1,h2.2,and_self]
end
def b0y(k:Int)(xs:List a0a):Bool:=eqB (mkL a0f a1k k xs) xs
def okM(k:Int)(x:a0a):Bool:=eqB (a1k k x) x
def a5h(k:Int)(xs:List a0a):Int:=bif b0y k xs then k+(szL a0f xs:Int) else -1
theorem e3i(k:Int)(xs:List a0a):(b0y k xs=true∧a5h k xs=k+(szL a0f xs:Int))∨(b0y k xs=false∧a5h k xs = -1):=by
 unfold a5h
 cases b0y k xs<;>simp
theorem g7m(k:Int)(x:a0a):okM k x=(decide (x.kind=k)&&decide (x.num=k+1)&&decide (x.cond.kind=k+1+1)&&decide (x.cond.num=k+1+1+1)&&a7w (k+1+1+1+1) x.cond.kids &&
  b0y (k+1+1+1+1+(szL a0n x.cond.kids:Int)) x.kids):=by
 obtain⟨a,b,⟨c,d,l⟩,ks⟩:=x
 rw[Bool.eq_iff_iff]
 simp only[okM,b0y,a7w,a6g,a1k,c1l,Bool.and_eq_true,decide_eq_true_eq,a0a.mk.injEq,a0c.mk.injEq]
 constructor
 ·rintro⟨h1,h2,⟨h3,h4,h5⟩,h6⟩
  exact⟨⟨⟨⟨⟨h1.symm,h2.symm⟩,h3.symm⟩,h4.symm⟩,h5⟩,h6⟩
 ·rintro⟨⟨⟨⟨⟨h1,h2⟩,h3⟩,h4⟩,h5⟩,h6⟩
  exact⟨h1.symm,h2.symm,⟨h3.symm,h4.symm,h5⟩,h6⟩
theorem g7o(z:a0a)(k:Int)(xs:List a0a)(i:Nat)(h:i<xs.length):b0y k (xs.take (i+1))=(b0y k (xs.take i)&&okM (k+(szL a0f (xs.take i):Int)) (xs.getD i z)):=by
 rw[Bool.eq_iff_iff,Bool.and_eq_true]
 simp only[b0y,okM,a6g]
 rw[g2w a0f a1k z k xs i h,a5r z xs i h]
 constructor
 ·intro e
  have:=List.append_inj e (by rw[c0f])
  exact⟨this.1,by simpa using this.2⟩
 ·rintro⟨e1,e2⟩;rw[e1,e2]
theorem g9a(z:a0a)(k:Int)(xs:List a0a)(i:Nat)(h:i<xs.length)(e:okM (k+(szL a0f (xs.take i):Int)) (xs.getD i z)=false):b0y k xs=false:=by
 cases hb:b0y k xs with
 | false=>rfl
 | true =>
  have h1:=f0u a0f a1k z k xs i h
  simp only[b0y,a6g] at hb
  rw[hb] at h1
  have:okM (k+(szL a0f (xs.take i):Int)) (xs.getD i z)=true:=by unfold okM;rw[a6g];exact h1.symm
  rw[e] at this;cases this
theorem g7n(k:Int)(xs:List a0a)(i:Nat)(h:xs.length≤i):b0y k (xs.take i)=b0y k xs:=by rw[List.take_of_length_le h]
def b2j(k:Int)(x:a0a):Int:=bif a7w k x.cond.kids&&b0y (k+(szL a0n x.cond.kids:Int)) x.kids then k+(szL a0n x.cond.kids:Int)+(szL a0f x.kids:Int) else -1
theorem g8t(k:Int)(x:a0a):b2j k (a0a.mk x.kind x.num (a0c.mk x.cond.kind x.cond.num (a0w k x.cond.kids)) (mkL a0f a1k (k+(szL a0n x.cond.kids:Int)) x.kids))=k+(szL a0n x.cond.kids:Int)+(szL a0f x.kids:Int):=by
 obtain⟨h1,h2⟩:=e5f (k+(szL a0n x.cond.kids:Int)) x.kids
 simp only[c1l,b4w] at h1 h2
 have h3:b0y (k+(szL a0n x.cond.kids:Int)) (mkL a0f a1k (k+(szL a0n x.cond.kids:Int)) x.kids)=true:=by
  unfold b0y;rw[a6g];exact h1
 have h4:a7w k (a0w k x.cond.kids)=true:=by
  unfold a7w;rw[a6g];exact e5g k _
 unfold b2j
 simp only[e9v,h2,h3,h4];rfl
def a8y(n:Nat):Ctr:=⟨b6y,[.v (.slice (.st .prog)), .v (.int .i64)],fun (xs:List a0a) (k:Int)=>⟨(some (msz xs<n∧0≤k∧k+(szL a0f xs:Int)≤4611686018427387904),[⟨(.int .i64),a5h k xs⟩])⟩⟩
def b6r:Ctr:=⟨b6y,[.v (.slice (.st .prog)), .v (.int .i64)],fun (xs:List a0a) (k:Int)=>⟨(some (0≤k∧k+(szL a0f xs:Int)≤4611686018427387904),[⟨(.int .i64),a5h k xs⟩])⟩⟩
def d1m(xs:List a0a)(k:Int):Nat→a0s:=(fun zb=>if Nat.beq zb 0 then .mk (Nat) (fun i=>i≤xs.length∧b0y k (xs.take i)=true) (fun i=>xs.length - i) [] [2,3] (fun i=>[(5, .imm ⟨(.int .i64),((i:Int):Int)⟩),(1, .imm ⟨(.int .i64),((k+(szL a0f (xs.take i):Int)):Int)⟩)]) [0,1,4,5,6,7,8,9,10,11,12,13,14,15,16,17,18,19,20,21,22,23,24,25,26,27,28,29,30,31,32,33,34,35,36,37,38,39,40,41,42,43,44,45,46,47,48,49,50,51,52,53,54,55,56,57,58,59,60,61,62,63,64,65,66,67,68,69] (fun i=>[]) [] [] (fun i=>fun _ => .none) else .none)
theorem e7h(n:Nat)(xs:List a0a)(k:Int):awp (a0u [a6b,a8y n]) (a0k a7k) (d1m xs k) 0 (a1b (a0u [a6b,a8y n]) a7k fun r=>a1d r [⟨(.int .i64),a5h k xs⟩]) (a0p a7k [.val ⟨(.slice (.st .prog)),xs⟩, .val ⟨(.int .i64),k⟩]) =
 (((∃ i1:Nat,((i1≤xs.length∧b0y k (xs.take i1)=true)∧((xs=xs∧(k=(k+(szL a0f (xs.take i1):Int))∧((0:Int)=(i1:Int)∧True)))∧True)))∧(∀ i1:Nat,((i1≤xs.length∧b0y k (xs.take i1)=true) →
 (a0d ((xs.length:Int)) →
 (((decide ((i1:Int)<((xs.length:Int))))=true →
 (a0g (i1:Int) xs.length∧(a0d (xs.getD i1 zP).kind →
 (((!(decide ((xs.getD i1 zP).kind=(k+(szL a0f (xs.take i1):Int)))))=true →
 (-1:Int)=(a5h k xs))∧((!(decide ((xs.getD i1 zP).kind=(k+(szL a0f (xs.take i1):Int)))))=false →
 (a0d ((k+(szL a0f (xs.take i1):Int))+(1:Int))∧(a0g (i1:Int) xs.length∧(a0d (xs.getD i1 zP).num →
 (((!(decide ((xs.getD i1 zP).num=((k+(szL a0f (xs.take i1):Int))+(1:Int)))))=true →
 (-1:Int)=(a5h k xs))∧((!(decide ((xs.getD i1 zP).num=((k+(szL a0f (xs.take i1):Int))+(1:Int)))))=false →
 (a0d (((k+(szL a0f (xs.take i1):Int))+(1:Int))+(1:Int))∧(a0g (i1:Int) xs.length∧(a0d (xs.getD i1 zP).cond.kind →
 (((!(decide ((xs.getD i1 zP).cond.kind=(((k+(szL a0f (xs.take i1):Int))+(1:Int))+(1:Int)))))=true →
 (-1:Int)=(a5h k xs))∧((!(decide ((xs.getD i1 zP).cond.kind=(((k+(szL a0f (xs.take i1):Int))+(1:Int))+(1:Int)))))=false →
 (a0d ((((k+(szL a0f (xs.take i1):Int))+(1:Int))+(1:Int))+(1:Int))∧(a0g (i1:Int) xs.length∧(a0d (xs.getD i1 zP).cond.num →
 (((!(decide ((xs.getD i1 zP).cond.num=((((k+(szL a0f (xs.take i1):Int))+(1:Int))+(1:Int))+(1:Int)))))=true →
 (-1:Int)=(a5h k xs))∧((!(decide ((xs.getD i1 zP).cond.num=((((k+(szL a0f (xs.take i1):Int))+(1:Int))+(1:Int))+(1:Int)))))=false →
 (a0d (((((k+(szL a0f (xs.take i1):Int))+(1:Int))+(1:Int))+(1:Int))+(1:Int))∧(a0g (i1:Int) xs.length∧((xs.getD i1 zP).cond.kids.length≤140737488355328 →
 ((0≤(((((k+(szL a0f (xs.take i1):Int))+(1:Int))+(1:Int))+(1:Int))+(1:Int))∧(((((k+(szL a0f (xs.take i1):Int))+(1:Int))+(1:Int))+(1:Int))+(1:Int))+(szL a0n (xs.getD i1 zP).cond.kids:Int)≤4611686018427387904)∧(a0d (a2k (((((k+(szL a0f (xs.take i1):Int))+(1:Int))+(1:Int))+(1:Int))+(1:Int)) (xs.getD i1 zP).cond.kids) →
 (((decide ((a2k (((((k+(szL a0f (xs.take i1):Int))+(1:Int))+(1:Int))+(1:Int))+(1:Int)) (xs.getD i1 zP).cond.kids)<(0:Int)))=true →
 (-1:Int)=(a5h k xs))∧((decide ((a2k (((((k+(szL a0f (xs.take i1):Int))+(1:Int))+(1:Int))+(1:Int))+(1:Int)) (xs.getD i1 zP).cond.kids)<(0:Int)))=false →
 (a0g (i1:Int) xs.length∧((xs.getD i1 zP).kids.length≤140737488355328 →
 ((msz (xs.getD i1 zP).kids<n∧0≤(a2k (((((k+(szL a0f (xs.take i1):Int))+(1:Int))+(1:Int))+(1:Int))+(1:Int)) (xs.getD i1 zP).cond.kids)∧(a2k (((((k+(szL a0f (xs.take i1):Int))+(1:Int))+(1:Int))+(1:Int))+(1:Int)) (xs.getD i1 zP).cond.kids)+(szL a0f (xs.getD i1 zP).kids:Int)≤4611686018427387904)∧(a0d (a5h (a2k (((((k+(szL a0f (xs.take i1):Int))+(1:Int))+(1:Int))+(1:Int))+(1:Int)) (xs.getD i1 zP).cond.kids) (xs.getD i1 zP).kids) →
 (((decide ((a5h (a2k (((((k+(szL a0f (xs.take i1):Int))+(1:Int))+(1:Int))+(1:Int))+(1:Int)) (xs.getD i1 zP).cond.kids) (xs.getD i1 zP).kids)<(0:Int)))=true →
 (-1:Int)=(a5h k xs))∧((decide ((a5h (a2k (((((k+(szL a0f (xs.take i1):Int))+(1:Int))+(1:Int))+(1:Int))+(1:Int)) (xs.getD i1 zP).cond.kids) (xs.getD i1 zP).kids)<(0:Int)))=false →
 (a0d ((i1:Int)+(1:Int))∧(∃ i2:Nat,((i2≤xs.length∧b0y k (xs.take i2)=true)∧(xs.length - i2<xs.length - i1∧((xs=xs∧((a5h (a2k (((((k+(szL a0f (xs.take i1):Int))+(1:Int))+(1:Int))+(1:Int))+(1:Int)) (xs.getD i1 zP).cond.kids) (xs.getD i1 zP).kids)=(k+(szL a0f (xs.take i2):Int))∧(((i1:Int)+(1:Int))=(i2:Int)∧True)))∧True))))))))))))))))))))))))))))))))))))))∧((decide ((i1:Int)<((xs.length:Int))))=false →
 (k+(szL a0f (xs.take i1):Int))=(a5h k xs)))))))):=by kernel_rfl
theorem e6w(n:Nat)(hE:a0m [a6b,a8y n]):Ctr.Good (a8y (n+1)):=by
 refine⟨a0j b4j rfl (by decide),?_⟩
 show ∀ (xs:List a0a) (k:Int),(msz xs<n+1∧0≤k∧k+(szL a0f xs:Int)≤4611686018427387904)→a0z prog b6y [.val ⟨(.slice (.st .prog)),xs⟩, .val ⟨(.int .i64),k⟩] (·=[⟨(.int .i64),a5h k xs⟩])
 intro xs k hp
 refine a0x (wr:=[]) (cl:=[]) (ro:=[]) hE b4j e0l (d1m xs k) ?_
 rewrite [e7h n xs k]
 have f0:b0y k (xs.take 0)=true:=by simp[b0y,mkL]
 have f1:=b4c a0f xs
 have f2:=e3i k xs
 refine⟨⟨0,⟨?_,⟨⟨rfl,⟨?_,⟨?_,trivial⟩⟩⟩,trivial⟩⟩⟩,fun i1 a0=>have b0x0:=g7o zP k xs i1;have b0x1:=g9a zP k xs i1;have b0x2:=g7n k xs i1;have b0x3:=g7m (k+(szL a0f (xs.take i1):Int)) (xs.getD i1 zP);have b0x4:=c6i ((k+(szL a0f (xs.take i1):Int))+1+1+1+1) (xs.getD i1 zP).cond.kids;have b0x5:=e3i ((k+(szL a0f (xs.take i1):Int))+1+1+1+1+(szL a0n (xs.getD i1 zP).cond.kids:Int)) (xs.getD i1 zP).kids;have b0x6:=a6v a0f zP xs i1;have b0x7:=a2l a0f xs i1;have b0x8:=a2l a0f xs (i1+1);have b0x9:=b0h a0f xs i1;have b0x10:=d4n (xs.getD i1 zP);have b0x11:=a1i zP xs i1;have b0x12:=a5q (xs.getD i1 zP);fun a1=>⟨fun a2=>⟨?_,fun a3=>⟨fun a4=>?_,fun a4=>⟨?_,⟨?_,fun a5=>⟨fun a6=>?_,fun a6=>⟨?_,⟨?_,fun a7=>⟨fun a8=>?_,fun a8=>⟨?_,⟨?_,fun a9=>⟨fun a10=>?_,fun a10=>⟨?_,⟨?_,fun a11=>⟨?_,fun a12=>⟨fun a13=>?_,fun a13=>⟨?_,fun a14=>⟨?_,fun a15=>⟨fun a16=>?_,fun a16=>⟨?_,⟨i1+1,⟨?_,⟨?_,⟨⟨rfl,⟨?_,⟨?_,trivial⟩⟩⟩,trivial⟩⟩⟩⟩⟩⟩⟩⟩⟩⟩⟩⟩⟩⟩⟩⟩⟩⟩⟩⟩⟩⟩⟩,fun a2=>?_⟩⟩
 all_goals try and_intros
 all_goals first|rfl|trivial|omega|(simp only[decide_eq_true_eq,decide_eq_false_iff_not,a0g,a0d,Bool.not_eq_true',Bool.not_eq_false'] at *;first|omega|grind)
theorem d8v :∀ n,a0m [a8y n]
 | 0=>⟨⟨a0j b4j rfl (by decide),fun _ _ h=>absurd h.1 (Nat.not_lt_zero _)⟩,trivial⟩
 | n+1=>by
  have ih:=d8v  n
  exact⟨e6w n ⟨c4q,ih.1,trivial⟩,trivial⟩
theorem e0r :Ctr.Good b6r :=
 ⟨a0j b4j rfl (by decide),fun xs k hp=>(d8v  (msz xs+1)).1.2 xs k (⟨Nat.lt_succ_self _,hp⟩)⟩
def b2u:Ctr:=⟨c4e,[.v (.st .prog), .v (.int .i64)],fun (x:a0a) (k:Int)=>⟨(some (0≤k∧k+(szL a0n x.cond.kids:Int)+(szL a0f x.kids:Int)≤4611686018427387904),[⟨(.int .i64),b2j k x⟩])⟩⟩
def d3l(x:a0a)(k:Int):Nat→a0s:=fun _ => .none
theorem f1z(x:a0a)(k:Int):awp (a0u [b2t,b6r] [] [] [2]) (a0k a8m) (d3l x k) 0 (a1b (a0u [b2t,b6r] [] [] [2]) a8m fun r=>a1d r [⟨(.int .i64),b2j k x⟩]) (a0p a8m [.val ⟨(.st .prog),x⟩, .val ⟨(.int .i64),k⟩]) =
 (((0≤k∧k+(szL a0n x.cond.kids:Int)≤4611686018427387904)∧(a0d (a2k k x.cond.kids) →
 (((decide ((a2k k x.cond.kids)<(0:Int)))=true →
 (-1:Int)=(b2j k x))∧((decide ((a2k k x.cond.kids)<(0:Int)))=false →
 (x.kids.length≤140737488355328 →
 ((0≤(a2k k x.cond.kids)∧(a2k k x.cond.kids)+(szL a0f x.kids:Int)≤4611686018427387904)∧(a0d (a5h (a2k k x.cond.kids) x.kids) →
 (((decide ((a5h (a2k k x.cond.kids) x.kids)<(0:Int)))=true →
 (-1:Int)=(b2j k x))∧((decide ((a5h (a2k k x.cond.kids) x.kids)<(0:Int)))=false →
 (a5h (a2k k x.cond.kids) x.kids)=(b2j k x))))))))))):=by kernel_rfl
theorem f1f(hE:a0m [b2t,b6r]):Ctr.Good b2u:=by
 refine⟨a0j d0b rfl (by decide),?_⟩
 show ∀ (x:a0a) (k:Int),(0≤k∧k+(szL a0n x.cond.kids:Int)+(szL a0f x.kids:Int)≤4611686018427387904)→a0z prog c4e [.val ⟨(.st .prog),x⟩, .val ⟨(.int .i64),k⟩] (·=[⟨(.int .i64),b2j k x⟩])
 intro x k hp
 refine a0x (wr:=[]) (cl:=[]) (ro:=[2]) hE d0b e1y (d3l x k) ?_
 rewrite [f1z x k]
 have f2:=c6i k x.cond.kids
 have f3:=e3i (k+(szL a0n x.cond.kids:Int)) x.kids
 refine⟨?_,fun a0=>⟨fun a1=>?_,fun a1=>fun a2=>⟨?_,fun a3=>⟨fun a4=>?_,fun a4=>?_⟩⟩⟩⟩
 all_goals try and_intros
 all_goals try unfold b2j
 all_goals first|rfl|trivial|omega|(simp only[decide_eq_true_eq,decide_eq_false_iff_not,a0g,a0d,Bool.not_eq_true',Bool.not_eq_false'] at *;first|omega|grind)|(simp_all;done)
theorem e3c:Ctr.Good b2u:=f1f ⟨e3b,e0r,trivial⟩
end
end Go.Proofs.Ytlaoejdeanljgaa

set_option linter.unusedVariables false
set_option linter.unusedSimpArgs false
set_option linter.unusedSectionVars false
set_option maxRecDepth 4000
set_option maxHeartbeats 4000000
namespace Go.Proofs.Ytlaoejdeanljgaa
noncomputable section
mutual
theorem g8m:∀ x:a0c,a0n x=2+2 * a0l x
 | ⟨k,n,ks⟩=>by
  have:=e2j ks
  simp only[a0n,a0l,this,d4v]
theorem e2j:∀ xs:List a0c,c5v xs=2 * (xs.length+szL a0l xs)
 | []=>by simp[c5v,szL]
 | x::xs=>by
  have h1:=g8m x
  have h2:=e2j xs
  simp only[c5v,szL,List.length_cons,h1,h2];omega
end
theorem g4p(x:a0c):szL a0n x.kids=2 * a0l x:=by
 have:=e2j x.kids
 rw[d0m] at this
 rw[this,c0p]
mutual
theorem h0a:∀ x:a0a,a0f x≤4+4 * a0i x
 | ⟨k,n,c,ks⟩=>by
  have h1:=e9t ks
  have h2:=g4p c
  simp only[a0f,a0i,b4w,d4w,h2] at h1 ⊢
  omega
theorem e9t:∀ xs:List a0a,a9m xs≤4 * (xs.length+szL a0i xs)
 | []=>by simp[a9m,szL]
 | x::xs=>by
  have h1:=h0a x
  have h2:=e9t xs
  simp only[a9m,szL,List.length_cons];omega
end
theorem g4m(x:a0a):szL a0n x.cond.kids+szL a0f x.kids≤4 * a0i x:=by
 have h1:=e9t x.kids
 rw[b4w] at h1
 rw[g4p,a9k]
 omega
theorem h1d(gg:a0v)(p:a0a)(ks:List Int)(ru:Int):a0i (trV gg p ks ru)≤1048576:=by
 unfold trV
 split
 ·rename_i h
  have:isP gg (trA gg p ks ru)=true:=by
   unfold trC at h
   split at h
   ·split at h
    ·split at h
     ·split at h
      ·assumption
      ·cases h
     ·cases h
    ·cases h
   ·cases h
  have:=(g9n gg p ks ru).z this
  omega
 ·decide
theorem h0b(k:Int)(x:a0a):szL a0n (a0w k x.cond.kids)=szL a0n x.cond.kids∧szL a0f (mkL a0f a1k (k+(szL a0n x.cond.kids:Int)) x.kids)=szL a0f x.kids:=by
 have:=(e5f (k+(szL a0n x.cond.kids:Int)) x.kids).2
 simp only[c1l,b4w] at this
 exact⟨e9v _ _,this⟩
def c0s:Ctr:=⟨a7d,[.v (.st .sig), .v (.st .prog), .v (.slice (.int .i64)), .v (.int .i64)],fun (gg:a0v) (p:a0a) (ks:List Int) (ru:Int)=>⟨(none,[⟨.bool,true⟩])⟩⟩
def c0t(gg:a0v)(p:a0a)(ks:List Int)(ru:Int):Nat→a0s:=fun _ => .none
abbrev b8f(p:a0a):Prop:=(p.kind=p.kind∧(p.num=p.num∧(p.cond.kind=p.cond.kind∧(p.cond.num=p.cond.num∧((4204:Nat)=4204∧((4205:Nat)=4205∧True))))))
abbrev b8g(gg:a0v)(p:a0a)(ks:List Int)(ru:Int):Prop:=((decide ((b2j (1:Int) (a0a.mk (trV gg (a0b p) ks ru).kind (trV gg (a0b p) ks ru).num (a0c.mk (trV gg (a0b p) ks ru).cond.kind (trV gg (a0b p) ks ru).cond.num ((a0a.mk (a0b (trV gg (a0b p) ks ru)).kind (a0b (trV gg (a0b p) ks ru)).num (a0c.mk (a0b (trV gg (a0b p) ks ru)).cond.kind (a0b (trV gg (a0b p) ks ru)).cond.num (a0w (1:Int) (a0b (trV gg (a0b p) ks ru)).cond.kids)) (mkL a0f a1k ((1:Int)+(szL a0n (a0b (trV gg (a0b p) ks ru)).cond.kids:Int)) (a0b (trV gg (a0b p) ks ru)).kids))).cond.kids) ((a0a.mk (a0b (trV gg (a0b p) ks ru)).kind (a0b (trV gg (a0b p) ks ru)).num (a0c.mk (a0b (trV gg (a0b p) ks ru)).cond.kind (a0b (trV gg (a0b p) ks ru)).cond.num (a0w (1:Int) (a0b (trV gg (a0b p) ks ru)).cond.kids)) (mkL a0f a1k ((1:Int)+(szL a0n (a0b (trV gg (a0b p) ks ru)).cond.kids:Int)) (a0b (trV gg (a0b p) ks ru)).kids))).kids))<(0:Int)))=true →
 false=true)
abbrev b8h(gg:a0v)(p:a0a)(ks:List Int)(ru:Int):Prop:=((!(decide ((b2j (1:Int) (a0a.mk (trV gg (a0b p) ks ru).kind (trV gg (a0b p) ks ru).num (a0c.mk (trV gg (a0b p) ks ru).cond.kind (trV gg (a0b p) ks ru).cond.num ((a0a.mk (a0b (trV gg (a0b p) ks ru)).kind (a0b (trV gg (a0b p) ks ru)).num (a0c.mk (a0b (trV gg (a0b p) ks ru)).cond.kind (a0b (trV gg (a0b p) ks ru)).cond.num (a0w (1:Int) (a0b (trV gg (a0b p) ks ru)).cond.kids)) (mkL a0f a1k ((1:Int)+(szL a0n (a0b (trV gg (a0b p) ks ru)).cond.kids:Int)) (a0b (trV gg (a0b p) ks ru)).kids))).cond.kids) ((a0a.mk (a0b (trV gg (a0b p) ks ru)).kind (a0b (trV gg (a0b p) ks ru)).num (a0c.mk (a0b (trV gg (a0b p) ks ru)).cond.kind (a0b (trV gg (a0b p) ks ru)).cond.num (a0w (1:Int) (a0b (trV gg (a0b p) ks ru)).cond.kids)) (mkL a0f a1k ((1:Int)+(szL a0n (a0b (trV gg (a0b p) ks ru)).cond.kids:Int)) (a0b (trV gg (a0b p) ks ru)).kids))).kids))=((1:Int)+(szL a0n (a0b (trV gg (a0b p) ks ru)).cond.kids:Int)+(szL a0f (a0b (trV gg (a0b p) ks ru)).kids:Int)))))=true →
 false=true)
abbrev b8i(gg:a0v)(p:a0a)(ks:List Int)(ru:Int):Prop:=((0≤(1:Int)∧(1:Int)+(szL a0n (a0a.mk (trV gg (a0b p) ks ru).kind (trV gg (a0b p) ks ru).num (a0c.mk (trV gg (a0b p) ks ru).cond.kind (trV gg (a0b p) ks ru).cond.num ((a0a.mk (a0b (trV gg (a0b p) ks ru)).kind (a0b (trV gg (a0b p) ks ru)).num (a0c.mk (a0b (trV gg (a0b p) ks ru)).cond.kind (a0b (trV gg (a0b p) ks ru)).cond.num (a0w (1:Int) (a0b (trV gg (a0b p) ks ru)).cond.kids)) (mkL a0f a1k ((1:Int)+(szL a0n (a0b (trV gg (a0b p) ks ru)).cond.kids:Int)) (a0b (trV gg (a0b p) ks ru)).kids))).cond.kids) ((a0a.mk (a0b (trV gg (a0b p) ks ru)).kind (a0b (trV gg (a0b p) ks ru)).num (a0c.mk (a0b (trV gg (a0b p) ks ru)).cond.kind (a0b (trV gg (a0b p) ks ru)).cond.num (a0w (1:Int) (a0b (trV gg (a0b p) ks ru)).cond.kids)) (mkL a0f a1k ((1:Int)+(szL a0n (a0b (trV gg (a0b p) ks ru)).cond.kids:Int)) (a0b (trV gg (a0b p) ks ru)).kids))).kids).cond.kids:Int)+(szL a0f (a0a.mk (trV gg (a0b p) ks ru).kind (trV gg (a0b p) ks ru).num (a0c.mk (trV gg (a0b p) ks ru).cond.kind (trV gg (a0b p) ks ru).cond.num ((a0a.mk (a0b (trV gg (a0b p) ks ru)).kind (a0b (trV gg (a0b p) ks ru)).num (a0c.mk (a0b (trV gg (a0b p) ks ru)).cond.kind (a0b (trV gg (a0b p) ks ru)).cond.num (a0w (1:Int) (a0b (trV gg (a0b p) ks ru)).cond.kids)) (mkL a0f a1k ((1:Int)+(szL a0n (a0b (trV gg (a0b p) ks ru)).cond.kids:Int)) (a0b (trV gg (a0b p) ks ru)).kids))).cond.kids) ((a0a.mk (a0b (trV gg (a0b p) ks ru)).kind (a0b (trV gg (a0b p) ks ru)).num (a0c.mk (a0b (trV gg (a0b p) ks ru)).cond.kind (a0b (trV gg (a0b p) ks ru)).cond.num (a0w (1:Int) (a0b (trV gg (a0b p) ks ru)).cond.kids)) (mkL a0f a1k ((1:Int)+(szL a0n (a0b (trV gg (a0b p) ks ru)).cond.kids:Int)) (a0b (trV gg (a0b p) ks ru)).kids))).kids).kids:Int)≤4611686018427387904)∧(a0d (b2j (1:Int) (a0a.mk (trV gg (a0b p) ks ru).kind (trV gg (a0b p) ks ru).num (a0c.mk (trV gg (a0b p) ks ru).cond.kind (trV gg (a0b p) ks ru).cond.num ((a0a.mk (a0b (trV gg (a0b p) ks ru)).kind (a0b (trV gg (a0b p) ks ru)).num (a0c.mk (a0b (trV gg (a0b p) ks ru)).cond.kind (a0b (trV gg (a0b p) ks ru)).cond.num (a0w (1:Int) (a0b (trV gg (a0b p) ks ru)).cond.kids)) (mkL a0f a1k ((1:Int)+(szL a0n (a0b (trV gg (a0b p) ks ru)).cond.kids:Int)) (a0b (trV gg (a0b p) ks ru)).kids))).cond.kids) ((a0a.mk (a0b (trV gg (a0b p) ks ru)).kind (a0b (trV gg (a0b p) ks ru)).num (a0c.mk (a0b (trV gg (a0b p) ks ru)).cond.kind (a0b (trV gg (a0b p) ks ru)).cond.num (a0w (1:Int) (a0b (trV gg (a0b p) ks ru)).cond.kids)) (mkL a0f a1k ((1:Int)+(szL a0n (a0b (trV gg (a0b p) ks ru)).cond.kids:Int)) (a0b (trV gg (a0b p) ks ru)).kids))).kids)) →
 ((b8g gg p ks ru)∧((decide ((b2j (1:Int) (a0a.mk (trV gg (a0b p) ks ru).kind (trV gg (a0b p) ks ru).num (a0c.mk (trV gg (a0b p) ks ru).cond.kind (trV gg (a0b p) ks ru).cond.num ((a0a.mk (a0b (trV gg (a0b p) ks ru)).kind (a0b (trV gg (a0b p) ks ru)).num (a0c.mk (a0b (trV gg (a0b p) ks ru)).cond.kind (a0b (trV gg (a0b p) ks ru)).cond.num (a0w (1:Int) (a0b (trV gg (a0b p) ks ru)).cond.kids)) (mkL a0f a1k ((1:Int)+(szL a0n (a0b (trV gg (a0b p) ks ru)).cond.kids:Int)) (a0b (trV gg (a0b p) ks ru)).kids))).cond.kids) ((a0a.mk (a0b (trV gg (a0b p) ks ru)).kind (a0b (trV gg (a0b p) ks ru)).num (a0c.mk (a0b (trV gg (a0b p) ks ru)).cond.kind (a0b (trV gg (a0b p) ks ru)).cond.num (a0w (1:Int) (a0b (trV gg (a0b p) ks ru)).cond.kids)) (mkL a0f a1k ((1:Int)+(szL a0n (a0b (trV gg (a0b p) ks ru)).cond.kids:Int)) (a0b (trV gg (a0b p) ks ru)).kids))).kids))<(0:Int)))=false →
 ((b8h gg p ks ru)∧((!(decide ((b2j (1:Int) (a0a.mk (trV gg (a0b p) ks ru).kind (trV gg (a0b p) ks ru).num (a0c.mk (trV gg (a0b p) ks ru).cond.kind (trV gg (a0b p) ks ru).cond.num ((a0a.mk (a0b (trV gg (a0b p) ks ru)).kind (a0b (trV gg (a0b p) ks ru)).num (a0c.mk (a0b (trV gg (a0b p) ks ru)).cond.kind (a0b (trV gg (a0b p) ks ru)).cond.num (a0w (1:Int) (a0b (trV gg (a0b p) ks ru)).cond.kids)) (mkL a0f a1k ((1:Int)+(szL a0n (a0b (trV gg (a0b p) ks ru)).cond.kids:Int)) (a0b (trV gg (a0b p) ks ru)).kids))).cond.kids) ((a0a.mk (a0b (trV gg (a0b p) ks ru)).kind (a0b (trV gg (a0b p) ks ru)).num (a0c.mk (a0b (trV gg (a0b p) ks ru)).cond.kind (a0b (trV gg (a0b p) ks ru)).cond.num (a0w (1:Int) (a0b (trV gg (a0b p) ks ru)).cond.kids)) (mkL a0f a1k ((1:Int)+(szL a0n (a0b (trV gg (a0b p) ks ru)).cond.kids:Int)) (a0b (trV gg (a0b p) ks ru)).kids))).kids))=((1:Int)+(szL a0n (a0b (trV gg (a0b p) ks ru)).cond.kids:Int)+(szL a0f (a0b (trV gg (a0b p) ks ru)).kids:Int)))))=false →
 true=true))))))
abbrev a9d(gg:a0v)(p:a0a)(ks:List Int)(ru:Int):Prop:=((0≤(1:Int)∧(1:Int)+(szL a0n (a0b (trV gg (a0b p) ks ru)).cond.kids:Int)+(szL a0f (a0b (trV gg (a0b p) ks ru)).kids:Int)≤4611686018427387904)∧((0≤(1:Int)∧(1:Int)+(szL a0n (a0a.mk (trV gg (a0b p) ks ru).kind (trV gg (a0b p) ks ru).num (a0c.mk (trV gg (a0b p) ks ru).cond.kind (trV gg (a0b p) ks ru).cond.num ((a0a.mk (a0b (trV gg (a0b p) ks ru)).kind (a0b (trV gg (a0b p) ks ru)).num (a0c.mk (a0b (trV gg (a0b p) ks ru)).cond.kind (a0b (trV gg (a0b p) ks ru)).cond.num (a0w (1:Int) (a0b (trV gg (a0b p) ks ru)).cond.kids)) (mkL a0f a1k ((1:Int)+(szL a0n (a0b (trV gg (a0b p) ks ru)).cond.kids:Int)) (a0b (trV gg (a0b p) ks ru)).kids))).cond.kids) ((a0a.mk (a0b (trV gg (a0b p) ks ru)).kind (a0b (trV gg (a0b p) ks ru)).num (a0c.mk (a0b (trV gg (a0b p) ks ru)).cond.kind (a0b (trV gg (a0b p) ks ru)).cond.num (a0w (1:Int) (a0b (trV gg (a0b p) ks ru)).cond.kids)) (mkL a0f a1k ((1:Int)+(szL a0n (a0b (trV gg (a0b p) ks ru)).cond.kids:Int)) (a0b (trV gg (a0b p) ks ru)).kids))).kids).cond.kids:Int)+(szL a0f (a0a.mk (trV gg (a0b p) ks ru).kind (trV gg (a0b p) ks ru).num (a0c.mk (trV gg (a0b p) ks ru).cond.kind (trV gg (a0b p) ks ru).cond.num ((a0a.mk (a0b (trV gg (a0b p) ks ru)).kind (a0b (trV gg (a0b p) ks ru)).num (a0c.mk (a0b (trV gg (a0b p) ks ru)).cond.kind (a0b (trV gg (a0b p) ks ru)).cond.num (a0w (1:Int) (a0b (trV gg (a0b p) ks ru)).cond.kids)) (mkL a0f a1k ((1:Int)+(szL a0n (a0b (trV gg (a0b p) ks ru)).cond.kids:Int)) (a0b (trV gg (a0b p) ks ru)).kids))).cond.kids) ((a0a.mk (a0b (trV gg (a0b p) ks ru)).kind (a0b (trV gg (a0b p) ks ru)).num (a0c.mk (a0b (trV gg (a0b p) ks ru)).cond.kind (a0b (trV gg (a0b p) ks ru)).cond.num (a0w (1:Int) (a0b (trV gg (a0b p) ks ru)).cond.kids)) (mkL a0f a1k ((1:Int)+(szL a0n (a0b (trV gg (a0b p) ks ru)).cond.kids:Int)) (a0b (trV gg (a0b p) ks ru)).kids))).kids).kids:Int)≤4611686018427387904)∧(a0d (b2j (1:Int) (a0a.mk (trV gg (a0b p) ks ru).kind (trV gg (a0b p) ks ru).num (a0c.mk (trV gg (a0b p) ks ru).cond.kind (trV gg (a0b p) ks ru).cond.num ((a0a.mk (a0b (trV gg (a0b p) ks ru)).kind (a0b (trV gg (a0b p) ks ru)).num (a0c.mk (a0b (trV gg (a0b p) ks ru)).cond.kind (a0b (trV gg (a0b p) ks ru)).cond.num (a0w (1:Int) (a0b (trV gg (a0b p) ks ru)).cond.kids)) (mkL a0f a1k ((1:Int)+(szL a0n (a0b (trV gg (a0b p) ks ru)).cond.kids:Int)) (a0b (trV gg (a0b p) ks ru)).kids))).cond.kids) ((a0a.mk (a0b (trV gg (a0b p) ks ru)).kind (a0b (trV gg (a0b p) ks ru)).num (a0c.mk (a0b (trV gg (a0b p) ks ru)).cond.kind (a0b (trV gg (a0b p) ks ru)).cond.num (a0w (1:Int) (a0b (trV gg (a0b p) ks ru)).cond.kids)) (mkL a0f a1k ((1:Int)+(szL a0n (a0b (trV gg (a0b p) ks ru)).cond.kids:Int)) (a0b (trV gg (a0b p) ks ru)).kids))).kids)) →
 ((b8g gg p ks ru)∧((decide ((b2j (1:Int) (a0a.mk (trV gg (a0b p) ks ru).kind (trV gg (a0b p) ks ru).num (a0c.mk (trV gg (a0b p) ks ru).cond.kind (trV gg (a0b p) ks ru).cond.num ((a0a.mk (a0b (trV gg (a0b p) ks ru)).kind (a0b (trV gg (a0b p) ks ru)).num (a0c.mk (a0b (trV gg (a0b p) ks ru)).cond.kind (a0b (trV gg (a0b p) ks ru)).cond.num (a0w (1:Int) (a0b (trV gg (a0b p) ks ru)).cond.kids)) (mkL a0f a1k ((1:Int)+(szL a0n (a0b (trV gg (a0b p) ks ru)).cond.kids:Int)) (a0b (trV gg (a0b p) ks ru)).kids))).cond.kids) ((a0a.mk (a0b (trV gg (a0b p) ks ru)).kind (a0b (trV gg (a0b p) ks ru)).num (a0c.mk (a0b (trV gg (a0b p) ks ru)).cond.kind (a0b (trV gg (a0b p) ks ru)).cond.num (a0w (1:Int) (a0b (trV gg (a0b p) ks ru)).cond.kids)) (mkL a0f a1k ((1:Int)+(szL a0n (a0b (trV gg (a0b p) ks ru)).cond.kids:Int)) (a0b (trV gg (a0b p) ks ru)).kids))).kids))<(0:Int)))=false →
 ((b8h gg p ks ru)∧((!(decide ((b2j (1:Int) (a0a.mk (trV gg (a0b p) ks ru).kind (trV gg (a0b p) ks ru).num (a0c.mk (trV gg (a0b p) ks ru).cond.kind (trV gg (a0b p) ks ru).cond.num ((a0a.mk (a0b (trV gg (a0b p) ks ru)).kind (a0b (trV gg (a0b p) ks ru)).num (a0c.mk (a0b (trV gg (a0b p) ks ru)).cond.kind (a0b (trV gg (a0b p) ks ru)).cond.num (a0w (1:Int) (a0b (trV gg (a0b p) ks ru)).cond.kids)) (mkL a0f a1k ((1:Int)+(szL a0n (a0b (trV gg (a0b p) ks ru)).cond.kids:Int)) (a0b (trV gg (a0b p) ks ru)).kids))).cond.kids) ((a0a.mk (a0b (trV gg (a0b p) ks ru)).kind (a0b (trV gg (a0b p) ks ru)).num (a0c.mk (a0b (trV gg (a0b p) ks ru)).cond.kind (a0b (trV gg (a0b p) ks ru)).cond.num (a0w (1:Int) (a0b (trV gg (a0b p) ks ru)).cond.kids)) (mkL a0f a1k ((1:Int)+(szL a0n (a0b (trV gg (a0b p) ks ru)).cond.kids:Int)) (a0b (trV gg (a0b p) ks ru)).kids))).kids))=((1:Int)+(szL a0n (a0b (trV gg (a0b p) ks ru)).cond.kids:Int)+(szL a0f (a0b (trV gg (a0b p) ks ru)).kids:Int)))))=false →
 (ks.length≤140737488355328 →
 (a0d ru →
 (gg=gg∧(p=p∧(ks=ks∧(ru=ru∧(p=p∧(ks=ks∧(ru=ru∧(a0i p≤1048576∧(ks=ks∧(ru=ru∧(ks.length≤1048576∧(ks.length≤140737488355328 →
 (ru=ru∧(a0d (trC gg p ks ru) →
 (((!(eqB (a0b (trV gg p ks ru)) (a0b (trV gg p ks ru))))=false →
 (((!(decide ((trC gg p ks ru)=(trC gg p ks ru))))=true →
 false=true)∧((!(decide ((trC gg p ks ru)=(trC gg p ks ru))))=false →
 (b8i gg p ks ru))))∧((!(eqB (a0b (trV gg p ks ru)) (a0b (trV gg p ks ru))))=(!false) →
 ((true=true →
 false=true)∧(true=false →
 (b8i gg p ks ru))))))))))))))))))))))))))))
abbrev b8j(gg:a0v)(p:a0a)(ks:List Int)(ru:Int):Prop:=(((!(decide ((trC gg (a0b p) ks ru)=(trC gg p ks ru))))=true →
 false=true)∧((!(decide ((trC gg (a0b p) ks ru)=(trC gg p ks ru))))=false →
 (a9d gg p ks ru)))
abbrev b8k(gg:a0v)(p:a0a)(ks:List Int)(ru:Int):Prop:=(a0i p≤1048576∧(((!(eqB (a0b p) p))=true →
 false=true)∧((!(eqB (a0b p) p))=false →
 (ks.length≤1048576∧(ks.length≤140737488355328 →
 (((!(eqB ks ks))=true →
 false=true)∧((!(eqB ks ks))=false →
 ((0≤(1:Int)∧(1:Int)+(szL a0n (a0b p).cond.kids:Int)+(szL a0f (a0b p).kids:Int)≤4611686018427387904)∧((0≤((1:Int)+(szL a0n (a0b p).cond.kids:Int)+(szL a0f (a0b p).kids:Int))∧((1:Int)+(szL a0n (a0b p).cond.kids:Int)+(szL a0f (a0b p).kids:Int))+(ks.length:Int)≤4611686018427387904)∧(((decide ((((1:Int)+(szL a0n (a0b p).cond.kids:Int)+(szL a0f (a0b p).kids:Int))+(ks.length:Int))<(0:Int)))=false →
 (((!(eqB (a0b (trV gg (a0b p) ks ru)) (a0b (trV gg p ks ru))))=false →
 (b8j gg p ks ru))∧((!(eqB (a0b (trV gg (a0b p) ks ru)) (a0b (trV gg p ks ru))))=(!false) →
 ((true=true →
 false=true)∧(true=false →
 (a9d gg p ks ru))))))∧((decide ((((1:Int)+(szL a0n (a0b p).cond.kids:Int)+(szL a0f (a0b p).kids:Int))+(ks.length:Int))<(0:Int)))=(!false) →
 ((true=false →
 (b8j gg p ks ru))∧(true=(!false) →
 ((true=true →
 false=true)∧(true=false →
 (a9d gg p ks ru))))))))))))))))
theorem d2h(gg:a0v)(p:a0a)(ks:List Int)(ru:Int):awp (a2o [c1x,c1z,b9e,b2v,c1v,b2s,b2u,b6s] [c0e,b0u,a8z] [a6d,a4u] [50,74,77,93,110,41,43] [] [] [4,5]) (a0k a4a) (c0t gg p ks ru) 0 (a1b (a2o [c1x,c1z,b9e,b2v,c1v,b2s,b2u,b6s] [c0e,b0u,a8z] [a6d,a4u] [50,74,77,93,110,41,43] [] [] [4,5]) a4a fun r=>a1d r [⟨.bool,true⟩]) (a0p a4a [.val ⟨(.st .sig),gg⟩, .val ⟨(.st .prog),p⟩, .val ⟨(.slice (.int .i64)),ks⟩, .val ⟨(.int .i64),ru⟩]) =
 ((a0d ((ks.length:Int)) →
 (((decide ((1048576:Int)<((ks.length:Int))))=true →
 true=true)∧((decide ((1048576:Int)<((ks.length:Int))))=false →
 ((0≤(1048576:Int)∧(1048576:Int)≤1048576)∧(a0d (szR (a0i p) (1048576:Int)) →
 (((decide ((szR (a0i p) (1048576:Int))<(0:Int)))=true →
 true=true)∧((decide ((szR (a0i p) (1048576:Int))<(0:Int)))=false →
 (ks.length≤140737488355328 →
 (a0d ru →
 (gg=gg∧(p=p∧(ks=ks∧(ru=ru∧(p=p∧(ks=ks∧(ru=ru∧(a0i p≤1048576∧(ks=ks∧(ru=ru∧(ks.length≤1048576∧(ks.length≤140737488355328 →
 (ru=ru∧(a0d (trC gg p ks ru) →
 (a0i p≤1048576∧(ks.length≤1048576∧(a0d ru →
 (gg=gg∧((b8f p)∧((4400:Nat)=4400∧(ru=ru∧((b8f p)∧((4400:Nat)=4400∧(ru=ru∧(a0d (trC gg (a0b p) ks ru) →
 (((!(eqB (a0b (trV gg (a0b p) ks ru)) (a0b (trV gg p ks ru))))=false →
 (((!(decide ((trC gg (a0b p) ks ru)=(trC gg p ks ru))))=true →
 false=true)∧((!(decide ((trC gg (a0b p) ks ru)=(trC gg p ks ru))))=false →
 (b8k gg p ks ru))))∧((!(eqB (a0b (trV gg (a0b p) ks ru)) (a0b (trV gg p ks ru))))=(!false) →
 ((true=true →
 false=true)∧(true=false →
 (b8k gg p ks ru)))))))))))))))))))))))))))))))))))))))):=by kernel_rfl
theorem d1z(hE:a0m [c1x,c1z,b9e,b2v,c1v,b2s,b2u,b6s])(hO:a4g [c0e,b0u,a8z])(hM:a5a [a6d,a4u])(hS:a5v []):Ctr.Good c0s:=by
 refine⟨a0j b8x rfl (by decide),?_⟩
 show ∀ (gg:a0v) (p:a0a) (ks:List Int) (ru:Int),True→a0z prog a7d [.val ⟨(.st .sig),gg⟩, .val ⟨(.st .prog),p⟩, .val ⟨(.slice (.int .i64)),ks⟩, .val ⟨(.int .i64),ru⟩] (·=[⟨.bool,true⟩])
 intro gg p ks ru _
 refine g5s (own:=[50,74,77,93,110,41,43]) (wr:=[]) (cl:=[]) (ro:=[4,5]) hE hO hM hS b8x c7c (c0t gg p ks ru) ?_
 rewrite [d2h gg p ks ru]
 have f0:=a5k (a0i p) 1048576
 have f1:=g4m p
 have f2:=g4m (trV gg p ks ru)
 have f3:=h1d gg p ks ru
 have f4:=g8t 1 (trV gg p ks ru)
 have f5:=h0b 1 (trV gg p ks ru)
 refine fun a0=>⟨fun a1=>rfl,fun a1=>⟨?_,fun a2=>⟨fun a3=>rfl,fun a3=>fun a4=>fun a5=>⟨rfl,⟨rfl,⟨rfl,⟨rfl,⟨rfl,⟨rfl,⟨rfl,⟨?_,⟨rfl,⟨rfl,⟨?_,fun a6=>⟨rfl,fun a7=>⟨?_,⟨?_,fun a8=>⟨rfl,⟨⟨rfl,⟨rfl,⟨rfl,⟨rfl,⟨?_,⟨?_,?_⟩⟩⟩⟩⟩⟩,⟨?_,⟨rfl,⟨⟨rfl,⟨rfl,⟨rfl,⟨rfl,⟨?_,⟨?_,?_⟩⟩⟩⟩⟩⟩,⟨?_,⟨rfl,fun a9=>⟨fun a10=>⟨fun a11=>?_,fun a11=>⟨?_,⟨fun a12=>?_,fun a12=>⟨?_,fun a13=>⟨fun a14=>?_,fun a14=>⟨?_,⟨?_,⟨fun a15=>⟨fun a16=>⟨fun a17=>?_,fun a17=>⟨?_,⟨?_,fun a18=>⟨fun a19=>?_,fun a19=>⟨fun a20=>?_,fun a20=>fun a21=>fun a22=>⟨rfl,⟨rfl,⟨rfl,⟨rfl,⟨rfl,⟨rfl,⟨rfl,⟨?_,⟨rfl,⟨rfl,⟨?_,fun a23=>⟨rfl,fun a24=>⟨fun a25=>⟨fun a26=>?_,fun a26=>⟨?_,fun a27=>⟨fun a28=>?_,fun a28=>⟨fun a29=>?_,fun a29=>rfl⟩⟩⟩⟩,fun a25=>⟨fun a26=>?_,fun a26=>⟨?_,fun a27=>⟨fun a28=>?_,fun a28=>⟨fun a29=>?_,fun a29=>rfl⟩⟩⟩⟩⟩⟩⟩⟩⟩⟩⟩⟩⟩⟩⟩⟩⟩⟩⟩⟩⟩⟩,fun a16=>⟨fun a17=>?_,fun a17=>⟨?_,⟨?_,fun a18=>⟨fun a19=>?_,fun a19=>⟨fun a20=>?_,fun a20=>fun a21=>fun a22=>⟨rfl,⟨rfl,⟨rfl,⟨rfl,⟨rfl,⟨rfl,⟨rfl,⟨?_,⟨rfl,⟨rfl,⟨?_,fun a23=>⟨rfl,fun a24=>⟨fun a25=>⟨fun a26=>?_,fun a26=>⟨?_,fun a27=>⟨fun a28=>?_,fun a28=>⟨fun a29=>?_,fun a29=>rfl⟩⟩⟩⟩,fun a25=>⟨fun a26=>?_,fun a26=>⟨?_,fun a27=>⟨fun a28=>?_,fun a28=>⟨fun a29=>?_,fun a29=>rfl⟩⟩⟩⟩⟩⟩⟩⟩⟩⟩⟩⟩⟩⟩⟩⟩⟩⟩⟩⟩⟩⟩⟩,fun a15=>⟨fun a16=>⟨fun a17=>?_,fun a17=>⟨?_,⟨?_,fun a18=>⟨fun a19=>?_,fun a19=>⟨fun a20=>?_,fun a20=>fun a21=>fun a22=>⟨rfl,⟨rfl,⟨rfl,⟨rfl,⟨rfl,⟨rfl,⟨rfl,⟨?_,⟨rfl,⟨rfl,⟨?_,fun a23=>⟨rfl,fun a24=>⟨fun a25=>⟨fun a26=>?_,fun a26=>⟨?_,fun a27=>⟨fun a28=>?_,fun a28=>⟨fun a29=>?_,fun a29=>rfl⟩⟩⟩⟩,fun a25=>⟨fun a26=>?_,fun a26=>⟨?_,fun a27=>⟨fun a28=>?_,fun a28=>⟨fun a29=>?_,fun a29=>rfl⟩⟩⟩⟩⟩⟩⟩⟩⟩⟩⟩⟩⟩⟩⟩⟩⟩⟩⟩⟩⟩⟩,fun a16=>⟨fun a17=>?_,fun a17=>⟨?_,⟨?_,fun a18=>⟨fun a19=>?_,fun a19=>⟨fun a20=>?_,fun a20=>fun a21=>fun a22=>⟨rfl,⟨rfl,⟨rfl,⟨rfl,⟨rfl,⟨rfl,⟨rfl,⟨?_,⟨rfl,⟨rfl,⟨?_,fun a23=>⟨rfl,fun a24=>⟨fun a25=>⟨fun a26=>?_,fun a26=>⟨?_,fun a27=>⟨fun a28=>?_,fun a28=>⟨fun a29=>?_,fun a29=>rfl⟩⟩⟩⟩,fun a25=>⟨fun a26=>?_,fun a26=>⟨?_,fun a27=>⟨fun a28=>?_,fun a28=>⟨fun a29=>?_,fun a29=>rfl⟩⟩⟩⟩⟩⟩⟩⟩⟩⟩⟩⟩⟩⟩⟩⟩⟩⟩⟩⟩⟩⟩⟩⟩⟩⟩⟩⟩⟩⟩⟩,fun a10=>⟨fun a11=>?_,fun a11=>⟨?_,⟨fun a12=>?_,fun a12=>⟨?_,fun a13=>⟨fun a14=>?_,fun a14=>⟨?_,⟨?_,⟨fun a15=>⟨fun a16=>⟨fun a17=>?_,fun a17=>⟨?_,⟨?_,fun a18=>⟨fun a19=>?_,fun a19=>⟨fun a20=>?_,fun a20=>fun a21=>fun a22=>⟨rfl,⟨rfl,⟨rfl,⟨rfl,⟨rfl,⟨rfl,⟨rfl,⟨?_,⟨rfl,⟨rfl,⟨?_,fun a23=>⟨rfl,fun a24=>⟨fun a25=>⟨fun a26=>?_,fun a26=>⟨?_,fun a27=>⟨fun a28=>?_,fun a28=>⟨fun a29=>?_,fun a29=>rfl⟩⟩⟩⟩,fun a25=>⟨fun a26=>?_,fun a26=>⟨?_,fun a27=>⟨fun a28=>?_,fun a28=>⟨fun a29=>?_,fun a29=>rfl⟩⟩⟩⟩⟩⟩⟩⟩⟩⟩⟩⟩⟩⟩⟩⟩⟩⟩⟩⟩⟩⟩,fun a16=>⟨fun a17=>?_,fun a17=>⟨?_,⟨?_,fun a18=>⟨fun a19=>?_,fun a19=>⟨fun a20=>?_,fun a20=>fun a21=>fun a22=>⟨rfl,⟨rfl,⟨rfl,⟨rfl,⟨rfl,⟨rfl,⟨rfl,⟨?_,⟨rfl,⟨rfl,⟨?_,fun a23=>⟨rfl,fun a24=>⟨fun a25=>⟨fun a26=>?_,fun a26=>⟨?_,fun a27=>⟨fun a28=>?_,fun a28=>⟨fun a29=>?_,fun a29=>rfl⟩⟩⟩⟩,fun a25=>⟨fun a26=>?_,fun a26=>⟨?_,fun a27=>⟨fun a28=>?_,fun a28=>⟨fun a29=>?_,fun a29=>rfl⟩⟩⟩⟩⟩⟩⟩⟩⟩⟩⟩⟩⟩⟩⟩⟩⟩⟩⟩⟩⟩⟩⟩,fun a15=>⟨fun a16=>⟨fun a17=>?_,fun a17=>⟨?_,⟨?_,fun a18=>⟨fun a19=>?_,fun a19=>⟨fun a20=>?_,fun a20=>fun a21=>fun a22=>⟨rfl,⟨rfl,⟨rfl,⟨rfl,⟨rfl,⟨rfl,⟨rfl,⟨?_,⟨rfl,⟨rfl,⟨?_,fun a23=>⟨rfl,fun a24=>⟨fun a25=>⟨fun a26=>?_,fun a26=>⟨?_,fun a27=>⟨fun a28=>?_,fun a28=>⟨fun a29=>?_,fun a29=>rfl⟩⟩⟩⟩,fun a25=>⟨fun a26=>?_,fun a26=>⟨?_,fun a27=>⟨fun a28=>?_,fun a28=>⟨fun a29=>?_,fun a29=>rfl⟩⟩⟩⟩⟩⟩⟩⟩⟩⟩⟩⟩⟩⟩⟩⟩⟩⟩⟩⟩⟩⟩,fun a16=>⟨fun a17=>?_,fun a17=>⟨?_,⟨?_,fun a18=>⟨fun a19=>?_,fun a19=>⟨fun a20=>?_,fun a20=>fun a21=>fun a22=>⟨rfl,⟨rfl,⟨rfl,⟨rfl,⟨rfl,⟨rfl,⟨rfl,⟨?_,⟨rfl,⟨rfl,⟨?_,fun a23=>⟨rfl,fun a24=>⟨fun a25=>⟨fun a26=>?_,fun a26=>⟨?_,fun a27=>⟨fun a28=>?_,fun a28=>⟨fun a29=>?_,fun a29=>rfl⟩⟩⟩⟩,fun a25=>⟨fun a26=>?_,fun a26=>⟨?_,fun a27=>⟨fun a28=>?_,fun a28=>⟨fun a29=>?_,fun a29=>rfl⟩⟩⟩⟩⟩⟩⟩⟩⟩⟩⟩⟩⟩⟩⟩⟩⟩⟩⟩⟩⟩⟩⟩⟩⟩⟩⟩⟩⟩⟩⟩⟩⟩⟩⟩⟩⟩⟩⟩⟩⟩⟩⟩⟩⟩⟩⟩⟩⟩⟩⟩⟩⟩⟩⟩⟩
 all_goals try and_intros
 all_goals try simp only[a0c.eta,a0a.eta,a1y,a2a] at *
 all_goals first|rfl|trivial|omega|(simp only[decide_eq_true_eq,decide_eq_false_iff_not,a0g,a0d,a1z,a2w,a1w,a1x] at *;omega)|(simp[a0g,a0d] at *;omega)|grind|(simp_all;done)|(simp_all;omega)
theorem c7f:Ctr.Good c0s:=d1z ⟨f0m,f0o,f3w,e3d,f0j,e3a,e3c,e0s,trivial⟩ ⟨e6r,e0x,d8m,trivial⟩ ⟨e0u,d7b,trivial⟩ trivial
theorem d8g:∀ tvs:List TV,tvs.map TV.τ=[(.st .sig),(.st .prog),(.slice (.int .i64)),(.int .i64)]→a0z prog a7d (tvs.map .val) (·=[⟨.bool,true⟩]):=by
 intro tvs h
 match tvs,h with
 | [⟨t0,a0⟩,⟨t1,a1⟩,⟨t2,a2⟩,⟨t3,a3⟩],h =>
  simp only[List.map_cons,List.map_nil,List.cons.injEq,and_true] at h
  obtain⟨rfl,rfl,rfl,rfl⟩:=h
  exact c7f.2 a0 a1 a2 a3 trivial
end
end Go.Proofs.Ytlaoejdeanljgaa

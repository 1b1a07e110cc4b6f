/- Ins, CFWeak. -/
import Derived.Test.YthebhlkdppmefaaGreatVmUse
import Derived.Test.YthebhlkdppmefaaGreatVmLib
import Derived.Test.YthebhlkdppmefaaGreatVmWkn
import Derived.Test.YthebhlkdppmefaaGreatVmWk
set_option linter.unusedVariables false
set_option linter.unusedSimpArgs false
set_option linter.unusedSectionVars false
set_option maxRecDepth 4000
set_option maxHeartbeats 4000000
namespace Go.Proofs.YthebhlkdppmefaaGreat
noncomputable section
def inL(ys:List Int)(x:Int):Bool:=decide (x∈ys)
theorem i1x(ys:List Int)(x:Int):inL (ys.take 0) x=false:=by simp[inL]
theorem i1w(ys:List Int)(x:Int)(k:Nat)(h:k<ys.length):inL (ys.take (k+1)) x=(inL (ys.take k) x||decide (x=ys.getD k 0)):=by
 unfold inL
 rw[a8f 0 ys k h,Bool.eq_iff_iff]
 simp only[Bool.or_eq_true,decide_eq_true_eq,List.mem_append,List.mem_singleton]
theorem i4g(ys:List Int)(x:Int)(k:Nat)(h:ys.length≤k):inL (ys.take k) x=inL ys x:=by rw[List.take_of_length_le h]
theorem i4h(xs ys:List Int):a9g xs ys=a0v (inL ys) xs:=rfl
def b5t:Ctr:=⟨c8q,[.v (.slice (.int .i64)), .v (.slice (.int .i64))],fun (xs:List Int) (ys:List Int)=>⟨(none,[⟨.bool,a9g xs ys⟩])⟩⟩
def e1c(xs:List Int)(ys:List Int):Nat→a0p:=(fun zb=>if Nat.beq zb 0 then .mk (Nat) (fun i=>i≤xs.length∧a0v (inL ys) (xs.take i)=true) (fun i=>xs.length - i) [] [2,3] (fun i=>[(5, .imm ⟨(.int .i64),((i:Int):Int)⟩)]) [0,1,4,5,6,7,8,9,10,11,12,13,14,15,16,17,18,19,20,21,22,23,24,25,26,27,28,29,30,31,32,33] (fun i=>[]) [] [] (fun i=>(fun zb=>if Nat.beq zb 2 then .mk (Nat) (fun k=>k≤ys.length∧i<xs.length∧a0v (inL ys) (xs.take i)=true) (fun k=>ys.length - k) [] [2,3] (fun k=>[(7, .imm ⟨(.int .i64),((k:Int):Int)⟩),(6, .imm ⟨.bool,(inL (ys.take k) (xs.getD i 0):Bool)⟩)]) [0,1,4,5,6,7,8,9,10,11,12,13,14,15,16,17,18,19,20,21,22,23,24,25,26,27,28,29,30,31,32,33] (fun k=>[]) [] [] (fun k=>fun _ => .none) else .none)) else .none)
abbrev c4k(xs:List Int)(i1:Nat):Prop:=((i1:Int)=(i1:Int)∧(xs=xs∧(((xs.length:Int))=((xs.length:Int))∧((decide ((i1:Int)<((xs.length:Int))))=(decide ((i1:Int)<((xs.length:Int))))∧True))))
theorem g2n(xs:List Int)(ys:List Int):awp (a0r []) (a0j b1c) (e1c xs ys) 0 (a1c (a0r []) b1c fun r=>a1f r [⟨.bool,a9g xs ys⟩]) (a0m b1c [.val ⟨(.slice (.int .i64)),xs⟩, .val ⟨(.slice (.int .i64)),ys⟩]) =
 (((∃ i1:Nat,((i1≤xs.length∧a0v (inL ys) (xs.take i1)=true)∧((xs=xs∧(ys=ys∧((0:Int)=(i1:Int)∧True)))∧True)))∧(∀ i1:Nat,((i1≤xs.length∧a0v (inL ys) (xs.take i1)=true) →
 (a0c ((xs.length:Int)) →
 (((decide ((i1:Int)<((xs.length:Int))))=true →
 ((∃ k2:Nat,((k2≤ys.length∧i1<xs.length∧a0v (inL ys) (xs.take i1)=true)∧((xs=xs∧(ys=ys∧((i1:Int)=(i1:Int)∧(false=(inL (ys.take k2) (xs.getD i1 0))∧((0:Int)=(k2:Int)∧(c4k xs i1))))))∧True)))∧(∀ k2:Nat,((k2≤ys.length∧i1<xs.length∧a0v (inL ys) (xs.take i1)=true) →
 (a0c ((ys.length:Int)) →
 (((decide ((k2:Int)<((ys.length:Int))))=true →
 (((inL (ys.take k2) (xs.getD i1 0))=false →
 (a0k (i1:Int) xs.length∧(a0k (k2:Int) ys.length∧(a0c (xs.getD i1 (0:Int)) →
 (a0c (ys.getD k2 (0:Int)) →
 (a0c ((k2:Int)+(1:Int))∧(∃ k3:Nat,((k3≤ys.length∧i1<xs.length∧a0v (inL ys) (xs.take i1)=true)∧(ys.length - k3<ys.length - k2∧((xs=xs∧(ys=ys∧((i1:Int)=(i1:Int)∧((decide ((xs.getD i1 (0:Int))=(ys.getD k2 (0:Int))))=(inL (ys.take k3) (xs.getD i1 0))∧(((k2:Int)+(1:Int))=(k3:Int)∧(c4k xs i1))))))∧True))))))))))∧((inL (ys.take k2) (xs.getD i1 0))=(!false) →
 (a0c ((k2:Int)+(1:Int))∧(∃ k3:Nat,((k3≤ys.length∧i1<xs.length∧a0v (inL ys) (xs.take i1)=true)∧(ys.length - k3<ys.length - k2∧((xs=xs∧(ys=ys∧((i1:Int)=(i1:Int)∧(true=(inL (ys.take k3) (xs.getD i1 0))∧(((k2:Int)+(1:Int))=(k3:Int)∧(c4k xs i1))))))∧True))))))))∧((decide ((k2:Int)<((ys.length:Int))))=false →
 (((!(inL (ys.take k2) (xs.getD i1 0)))=true →
 false=(a9g xs ys))∧((!(inL (ys.take k2) (xs.getD i1 0)))=false →
 (a0c ((i1:Int)+(1:Int))∧(∃ i3:Nat,((i3≤xs.length∧a0v (inL ys) (xs.take i3)=true)∧(xs.length - i3<xs.length - i1∧((xs=xs∧(ys=ys∧(((i1:Int)+(1:Int))=(i3:Int)∧True)))∧True))))))))))))))∧((decide ((i1:Int)<((xs.length:Int))))=false →
 true=(a9g xs ys)))))))):=by kernel_rfl
theorem g1r(hE:a0o []):Ctr.Good b5t:=by
 refine⟨a0l d6y rfl (by decide),?_⟩
 show ∀ (xs:List Int) (ys:List Int),True→a1e prog c8q [.val ⟨(.slice (.int .i64)),xs⟩, .val ⟨(.slice (.int .i64)),ys⟩] (·=[⟨.bool,a9g xs ys⟩])
 intro xs ys _
 refine a0w (wr:=[]) (cl:=[]) (ro:=[]) hE d6y f2a (e1c xs ys) ?_
 rewrite [g2n xs ys]
 have f0:a0v (inL ys) (xs.take 0)=true:=rfl
 have f1:=i4h xs ys
 refine⟨⟨0,⟨?_,⟨⟨rfl,⟨rfl,⟨?_,trivial⟩⟩⟩,trivial⟩⟩⟩,fun i1 a0=>have b0x0:=a3h (inL ys) 0 xs i1;have b0x1:=a4c (inL ys) 0 xs i1;have b0x2:=a3l (inL ys) xs i1;have b0x3:=i1x ys (xs.getD i1 0);fun a1=>⟨fun a2=>⟨⟨0,⟨?_,⟨⟨rfl,⟨rfl,⟨rfl,⟨?_,⟨?_,⟨rfl,⟨rfl,⟨rfl,⟨rfl,trivial⟩⟩⟩⟩⟩⟩⟩⟩⟩,trivial⟩⟩⟩,fun k2 a3=>have b3x0:=i1w ys (xs.getD i1 0) k2;have b3x1:=i4g ys (xs.getD i1 0) k2;fun a4=>⟨fun a5=>⟨fun a6=>⟨?_,⟨?_,fun a7=>fun a8=>⟨?_,⟨k2+1,⟨?_,⟨?_,⟨⟨rfl,⟨rfl,⟨rfl,⟨?_,⟨?_,⟨rfl,⟨rfl,⟨rfl,⟨rfl,trivial⟩⟩⟩⟩⟩⟩⟩⟩⟩,trivial⟩⟩⟩⟩⟩⟩⟩,fun a6=>⟨?_,⟨k2+1,⟨?_,⟨?_,⟨⟨rfl,⟨rfl,⟨rfl,⟨?_,⟨?_,⟨rfl,⟨rfl,⟨rfl,⟨rfl,trivial⟩⟩⟩⟩⟩⟩⟩⟩⟩,trivial⟩⟩⟩⟩⟩⟩,fun a5=>⟨fun a6=>?_,fun a6=>⟨?_,⟨i1+1,⟨?_,⟨?_,⟨⟨rfl,⟨rfl,⟨?_,trivial⟩⟩⟩,trivial⟩⟩⟩⟩⟩⟩⟩⟩,fun a2=>?_⟩⟩
 all_goals try and_intros
 all_goals first|rfl|trivial|omega|(simp only[decide_eq_true_eq,decide_eq_false_iff_not,a0k,a0c,Bool.not_eq_true',Bool.not_eq_false'] at *;first|omega|grind)|grind
theorem f3b:Ctr.Good b5t:=g1r trivial
def b9x:Ctr:=⟨d3x,[.v (.slice (.int .u8)), .v (.slice (.int .u8))],fun (xs:List Int) (ys:List Int)=>⟨(none,[⟨.bool,decide (3000<xs.length)||decide (3000<ys.length)⟩])⟩⟩
def e9v(xs:List Int)(ys:List Int):Nat→a0p:=fun _ => .none
theorem g9y(xs:List Int)(ys:List Int):awp (a0r []) (a0j b4w) (e9v xs ys) 0 (a1c (a0r []) b4w fun r=>a1f r [⟨.bool,decide (3000<xs.length)||decide (3000<ys.length)⟩]) (a0m b4w [.val ⟨(.slice (.int .u8)),xs⟩, .val ⟨(.slice (.int .u8)),ys⟩]) =
 ((a0c ((xs.length:Int)) →
 (((decide ((3000:Int)<((xs.length:Int))))=false →
 (a0c ((ys.length:Int)) →
 (decide ((3000:Int)<((ys.length:Int))))=(decide (3000<xs.length)||decide (3000<ys.length))))∧((decide ((3000:Int)<((xs.length:Int))))=(!false) →
 true=(decide (3000<xs.length)||decide (3000<ys.length)))))):=by kernel_rfl
theorem g8z(hE:a0o []):Ctr.Good b9x:=by
 refine⟨a0l e3i rfl (by decide),?_⟩
 show ∀ (xs:List Int) (ys:List Int),True→a1e prog d3x [.val ⟨(.slice (.int .u8)),xs⟩, .val ⟨(.slice (.int .u8)),ys⟩] (·=[⟨.bool,decide (3000<xs.length)||decide (3000<ys.length)⟩])
 intro xs ys _
 refine a0w (wr:=[]) (cl:=[]) (ro:=[]) hE e3i g0i (e9v xs ys) ?_
 rewrite [g9y xs ys]
 refine fun a0=>⟨fun a1=>fun a2=>?_,fun a1=>?_⟩
 all_goals try and_intros
 all_goals first|rfl|trivial|omega|(simp only[decide_eq_true_eq,decide_eq_false_iff_not] at *;first|omega|grind)|grind
theorem g1b:Ctr.Good b9x:=g8z trivial
end
end Go.Proofs.YthebhlkdppmefaaGreat

set_option linter.unusedVariables false
set_option linter.unusedSimpArgs false
set_option linter.unusedSectionVars false
set_option maxRecDepth 4000
set_option maxHeartbeats 4000000
namespace Go.Proofs.YthebhlkdppmefaaGreat
noncomputable section
theorem g9m(p:Nat→Bool):∀ n,∀ x∈a0y p n,0≤x∧x<(n:Int):=fun n x hx=>by
 obtain⟨k,h1,rfl,_⟩:=(b1l p x n).1 hx
 omega
theorem g9n(p:Nat→Bool):∀ n,(a0y p n).Pairwise (·<·)
 | 0=>by simp[a0y]
 | n+1=>by
  rw[a0y]
  cases p n
  ·simpa using g9n p n
  ·rw[cond_true,List.pairwise_append]
   refine⟨g9n p n,by simp,fun a ha b hb=>?_⟩
   have:=g9m p n a ha
   simp only[List.mem_singleton] at hb
   omega
theorem i6d(xs:List Int)(h:xs.Pairwise (·<·)):c7t xs=true:=by
 refine (d0e _ _).2 fun k hk=>?_
 unfold b6y
 rcases Nat.eq_zero_or_pos k with e|e
 ·simp[e]
 ·rw[Bool.or_eq_true]
  refine .inr (decide_eq_true ?_)
  have:=List.pairwise_iff_getElem.1 h (k - 1) k (by omega) hk (by omega)
  simpa [List.getD_eq_getElem?_getD,hk,show k - 1<xs.length by omega] using this
theorem h4r{f:Int→Bool}:∀ xs:List Int,(∀ x∈xs,f x=true)→a0v f xs=true
 | [],_=>rfl
 | x::xs,h=>by rw[a0v,h x (by simp),h4r xs fun y hy=>h y (by simp[hy])];rfl
theorem i4s(gg:a0h)(p:Nat→Bool)(n:Nat)(h:(n:Int)≤a0a gg):d3n gg (a0y p n)=true:=by
 rw[d3n,i6d _ (g9n p n),Bool.true_and]
 refine h4r _ fun x hx=>?_
 have:=g9m p n x hx
 simp only[a4x,decide_eq_true_eq]
 omega
theorem d5r(gg:a0h)(h:0≤gg.tests∧gg.tests≤3):a0a gg=2 ^ gg.tests.toNat:=by
 obtain⟨t,ht⟩:∃ t:Nat,gg.tests=t:=⟨gg.tests.toNat,by omega⟩
 have h4:t<4:=by omega
 have:∀ t:Fin 4,∀ a:Int,a0a (a0h.mk (t.val:Int) a)=2 ^ t.val:=fun t a=>by
  have:∀ t:Fin 4,(1:Int) * 2 ^ ((t.val:Int)).toNat=2 ^ t.val:=by decide
  exact this t
 cases gg
 simp only at ht h
 subst ht
 exact this ⟨t,h4⟩ _
structure WF(g:a0h)(L:List a0e)(t:a1g):Prop where
 one:tuC g L t=0
 two:wuC g L t.prog t.post=0
 three:wuC g L t.prog t.pre=0
 four:atC g t.pre=0
 five:atC g t.post=0
 a:a9g (atV g t.pre) (wuV g L t.prog t.post)=tuV g L t
 b:a9g (suV g L t.pre t.prog) (atV g t.post)=tuV g L t
 six:cvC g (wuV g L t.prog t.post)=0
 seven:atC g (cvV g (wuV g L t.prog t.post))=0
 c:a9g (atV g (cvV g (wuV g L t.prog t.post))) (wuV g L t.prog t.post)=true
 d:a9g (wuV g L t.prog t.post) (atV g (cvV g (wuV g L t.prog t.post)))=true
 e:okP g (a0d.mk 5 0 zE [t.prog,t.prog])=true→wuC g L (a0d.mk 5 0 zE [t.prog,t.prog]) t.post=0∧wuC g L t.prog (cvV g (wuV g L t.prog t.post))=0 ∧
  a9g (wuV g L (a0d.mk 5 0 zE [t.prog,t.prog]) t.post) (wuV g L t.prog (cvV g (wuV g L t.prog t.post)))=true ∧
  a9g (wuV g L t.prog (cvV g (wuV g L t.prog t.post))) (wuV g L (a0d.mk 5 0 zE [t.prog,t.prog]) t.post)=true
theorem wf(g:a0h)(L:List a0e)(t:a1g)(hp:a1t g L=true)(ht:okT g t=true):WF g L t:=by
 have hs:=c0k g L hp
 have hg:=(a4l g).1 hs
 have ht':=ht
 simp only[okT,Bool.and_eq_true] at ht'
 obtain⟨⟨h1,h2⟩,h3⟩:=ht'
 have hi:isP g t.prog=true:=by rw[h4v,Bool.and_eq_true] at h1;exact h1.2
 have hc:∀ c,isC g c=true→okE g c=true∧a1l c=true:=fun c h=>by
  have:okC g c=true:=by rw[e5y,hs,h];rfl
  simpa [okC] using this
 obtain⟨a1,a2⟩:=i6h g L t hp ht
 obtain⟨b1,_,b3,hL,b5,_⟩:=h0g g L t.prog t.post hp hi h3
 obtain⟨_,c2,c3,_,c5,_⟩:=h0g g L t.prog t.pre hp hi h2
 obtain⟨d1,d2,_⟩:=h7l g t.pre (hc _ h2).1 (hc _ h2).2
 obtain⟨e1,e2,_⟩:=h7l g t.post (hc _ h3).1 (hc _ h3).2
 have hn:=a5w g hs
 have sq:=b6t g (a0a g) L t.prog hL.tree
 have hlen:((a0g (a0a g) L t.prog).length:Int)≤a0a g:=by rw[sq.len];omega
 have hcv:d3n g (wkL (a0g (a0a g) L t.prog) t.post)=true:=i4s g _ _ hlen
 obtain⟨f1,f2⟩:=h9d g _ hs hcv
 have hin:∀ x∈wkL (a0g (a0a g) L t.prog) t.post,0≤x∧x<a0a g:=fun x hx=>by
  have:=g9m _ _ x hx
  omega
 have hval:isC g (ofA g (wkL (a0g (a0a g) L t.prog) t.post))=true:=h9x g _ hs (Nat.le_trans (a6b _ _) (by omega)) fun x hx=>by have:=hin x hx;omega
 have htr:=i2f g (wkL (a0g (a0a g) L t.prog) t.post) hg.1 fun x hx=>by
  have:=hin x hx
  rw[d5r g hg.1] at this
  exact this
 obtain⟨g1,g2,_,g4⟩:=h7l g _ (hc _ hval).1 (hc _ hval).2
 have hmem:∀ v,v∈atN g (ofA g (wkL (a0g (a0a g) L t.prog) t.post))↔v∈wkL (a0g (a0a g) L t.prog) t.post:=fun v=>by
  rw[d0f]
  constructor
  ·rintro⟨k,hk,rfl,h⟩
   rw[htr _ (by have:=d5r g hg.1;omega)] at h
   exact of_decide_eq_true h
  ·intro h
   have:=hin v h
   refine⟨v.toNat,by omega,by omega,?_⟩
   rw[show ((v.toNat:Nat):Int)=v by omega,htr _ (by have:=d5r g hg.1;omega)]
   exact decide_eq_true h
 refine⟨a2,b3,c3,d2,e2,?_,?_,?_,?_,?_,?_,fun hT=>?_⟩
 ·rw[d1,b1,a1];exact h4l g L t
 ·rw[c2,e1,a1];exact h7v g L t hL
 ·rw[b1];exact f2
 ·rw[b1,f1];exact g2
 ·rw[b1,f1,g1,d0n];exact fun x hx=>(hmem x).1 hx
 ·rw[b1,f1,g1,d0n];exact fun x hx=>(hmem x).2 hx
 ·have hiT:isP g (a0d.mk 5 0 zE [t.prog,t.prog])=true:=by rw[h4v,Bool.and_eq_true] at hT;exact hT.2
  obtain⟨k1,_,k3,k4,_⟩:=h0g g L _ t.post hp hiT h3
  obtain⟨l1,_,l3,_⟩:=h0g g L t.prog _ hp hi hval
  have key:=i5b g L 0 zE t.prog t.prog t.post (ofA g (wkL (a0g (a0a g) L t.prog) t.post)) hL hL k4 fun y hy=>by
   rw[htr _ (by have:=d5r g hg.1;omega),decide_eq_true_eq]
  rw[b1,f1,k1,l1,d0n,d0n]
  exact⟨k3,l3,fun x hx=>(key x).1 hx,fun x hx=>(key x).2 hx⟩
theorem i5f(code:List Int)(hs:a1i (a2G code)=true):okT (a2G code) (a2T code)=true:=by
 have hg:=(a4l _).1 hs
 unfold a2T
 split
 ·rename_i h
  simp only[a2O,Bool.and_eq_true] at h
  exact h.1
 ·have h1:isC (a2G code) (a0b.mk 2 0 [])=true:=by
   unfold isC
   rw[Bool.and_eq_true,e4l]
   exact⟨⟨e7n _ _ 2 0 (by decide) (by decide) rfl,by decide,by decide⟩,by decide⟩
  have h2:okP (a2G code) (a0d.mk 1 0 zE [])=true:=by
   have:a2g (a2G code) (a0d.mk 1 0 zE [])=true:=c2w _ _ _ _ _ (by decide) (by simp[b9p]) (by simp[c0o,a3n,a6s]) (by simp)
   simp only[okP,isP,b2b,hs,this,Bool.true_and,Bool.and_eq_true]
   exact⟨by decide,by decide⟩
  simp only[okT,h1,h2,Bool.and_self]
def d8f:Ctr:=⟨b9n,[.v (.slice (.int .u8)), .v (.slice (.int .u8))],fun (code:List Int) (more:List Int)=>⟨(some (a8t code),[⟨.bool,true⟩])⟩⟩
def d8k(code:List Int)(more:List Int):Nat→a0p:=(fun zb=>if Nat.beq zb 100003 then .mk (Unit) (fun u=>code.length≤3000) (fun u=>0) [] [1,2,3,27,28,29] (fun u=>[]) [0,4,5,6,7,8,9,10,11,12,13,14,15,16,17,18,19,20,21,22,23,24,25,26,30,31,32,33,34,35,36,37,38,39,40,41,42,43,44,45,46,47,48,49,50,51,52,53,54,55,56,57,58,59,60,61,62,63,64,65,66,67,68,69,70,71,72,73,74,75,76,77,78,79,80,81,82,83,84,85,86,87,88,89,90,91,92,93,94,95,96,97,98,99,100,101,102,103,104,105,106,107,108,109,110,111,112,113,114,115,116,117,118,119,120,121,122,123,124,125,126,127,128,129,130,131,132,133,134,135,136,137,138,139,140,141,142,143,144,145,146,147,148,149,150,151,152,153,154,155,156,157,158,159,160,161,162,163,164,165,166,167,168,169,170,171,172,173,174,175,176,177,178,179,180] (fun u=>[]) [] [] (fun u=>(fun zb=>if Nat.beq zb 100011 then .mk (Unit) (fun u=>WF (a2G code) (a2L code) (a2T code)∧code.length≤3000) (fun u=>0) [] [0,1,2,3,9,11,13,15,17,27,28,29,30,31,32,33,34,35,36,37,38,39,40,41,42,43,44,45,46,47,48,49,50,51,52,53,54,55,56,57,58,59,60,61,62,63,64,65,66,67,68,69,70,71,72,73,74,75,76,77,78,79,80,81,82,83,84,85,86,87,88,89,90,91,92,93,94] (fun u=>[]) [4,5,6,7,8,10,12,14,16,18,19,20,21,22,23,24,25,26,95,96,97,98,99,100,101,102,103,104,105,106,107,108,109,110,111,112,113,114,115,116,117,118,119,120,121,122,123,124,125,126,127,128,129,130,131,132,133,134,135,136,137,138,139,140,141,142,143,144,145,146,147,148,149,150,151,152,153,154,155,156,157,158,159,160,161,162,163,164,165,166,167,168,169,170,171,172,173,174,175,176,177,178,179,180] (fun u=>[]) [] [] (fun u=>(fun zb=>if Nat.beq zb 100017 then .mk (Unit) (fun u=>WF (a2G code) (a2L code) (a2T code)∧code.length≤3000) (fun u=>0) [] [0,1,2,3,8,9,10,11,12,13,14,15,16,17,19,20,21,27,28,29,30,31,32,33,34,35,36,37,38,39,40,41,42,43,44,45,46,47,48,49,50,51,52,53,54,55,56,57,58,59,60,61,62,63,64,65,66,67,68,69,70,71,72,73,74,75,76,77,78,79,80,81,82,83,84,85,86,87,88,89,90,91,92,93,94,95,96,97,98,99,100,101,102,103,104,105,106,107,108,109,110,111,112,113,114,115,116,117,118,119,120,121,122,123,124,125,126,127,128,129,130,131,132,133,134,135,136] (fun u=>[]) [4,5,6,7,18,22,23,24,25,26,137,138,139,140,141,142,143,144,145,146,147,148,149,150,151,152,153,154,155,156,157,158,159,160,161,162,163,164,165,166,167,168,169,170,171,172,173,174,175,176,177,178,179,180] (fun u=>[]) [] [] (fun u=>fun _ => .none) else .none)) else .none)) else .none)
abbrev d2o(code:List Int):Prop:=(((a2T code).pre.kind=(a2T code).pre.kind∧((a2T code).pre.num=(a2T code).pre.num∧((a2T code).pre.kids=(a2T code).pre.kids∧((a2T code).prog.kind=(a2T code).prog.kind∧((a2T code).prog.num=(a2T code).prog.num∧((a2T code).prog.cond.kind=(a2T code).prog.cond.kind∧((a2T code).prog.cond.num=(a2T code).prog.cond.num∧((a2T code).prog.cond.kids=(a2T code).prog.cond.kids∧((a2T code).prog.kids=(a2T code).prog.kids∧((a2T code).post.kind=(a2T code).post.kind∧((a2T code).post.num=(a2T code).post.num∧((a2T code).post.kids=(a2T code).post.kids∧True))))))))))))∧(((a2G code).tests=(a2G code).tests∧((a2G code).actions=(a2G code).actions∧True))∧True))
abbrev c1t(code:List Int):Prop:=(∃ u2:Unit,((WF (a2G code) (a2L code) (a2T code)∧code.length≤3000)∧((True∧((a2L code)=(a2L code)∧(True∧((tuV (a2G code) (a2L code) (b3h (a2T code)))=(tuV (a2G code) (a2L code) (b3h (a2T code)))∧((wuV (a2G code) (a2L code) (a1a (a2T code).prog) (a0n (a2T code).post))=(wuV (a2G code) (a2L code) (a1a (a2T code).prog) (a0n (a2T code).post))∧((suV (a2G code) (a2L code) (a0n (a2T code).pre) (a1a (a2T code).prog))=(suV (a2G code) (a2L code) (a0n (a2T code).pre) (a1a (a2T code).prog))∧((atV (a2G code) (a0n (a2T code).pre))=(atV (a2G code) (a0n (a2T code).pre))∧((atV (a2G code) (a0n (a2T code).post))=(atV (a2G code) (a0n (a2T code).post))∧True))))))))∧(d2o code))))
abbrev d2p(code:List Int):Prop:=(((!(decide ((atC (a2G code) (a0n (a2T code).post))=(0:Int))))=true →
 false=true)∧((!(decide ((atC (a2G code) (a0n (a2T code).post))=(0:Int))))=false →
 (c1t code)))
abbrev c1u(code:List Int):Prop:=(((!(decide ((atC (a2G code) (a0n (a2T code).pre))=(0:Int))))=false →
 (d2p code))∧((!(decide ((atC (a2G code) (a0n (a2T code).pre))=(0:Int))))=(!false) →
 ((true=true →
 false=true)∧(true=false →
 (c1t code)))))
abbrev c1v(code:List Int):Prop:=((true=false →
 (d2p code))∧(true=(!false) →
 ((true=true →
 false=true)∧(true=false →
 (c1t code)))))
abbrev d2q(code:List Int):Prop:=(((!(decide ((wuC (a2G code) (a2L code) (a1a (a2T code).prog) (a0n (a2T code).pre))=(0:Int))))=false →
 (c1u code))∧((!(decide ((wuC (a2G code) (a2L code) (a1a (a2T code).prog) (a0n (a2T code).pre))=(0:Int))))=(!false) →
 (c1v code)))
abbrev c1w(code:List Int):Prop:=(∃ u3:Unit,((WF (a2G code) (a2L code) (a2T code)∧code.length≤3000)∧((True∧((a2L code)=(a2L code)∧(True∧(True∧True))))∧(((cvV (a2G code) (wuV (a2G code) (a2L code) (a1a (a2T code).prog) (a0n (a2T code).post))).kind=(cvV (a2G code) (wuV (a2G code) (a2L code) (a1a (a2T code).prog) (a0n (a2T code).post))).kind∧((cvV (a2G code) (wuV (a2G code) (a2L code) (a1a (a2T code).prog) (a0n (a2T code).post))).num=(cvV (a2G code) (wuV (a2G code) (a2L code) (a1a (a2T code).prog) (a0n (a2T code).post))).num∧((cvV (a2G code) (wuV (a2G code) (a2L code) (a1a (a2T code).prog) (a0n (a2T code).post))).kids=(cvV (a2G code) (wuV (a2G code) (a2L code) (a1a (a2T code).prog) (a0n (a2T code).post))).kids∧True)))∧(d2o code)))))
abbrev d2r(code:List Int):Prop:=(((!(a9g (wuV (a2G code) (a2L code) (a1a (a2T code).prog) (a0n (a2T code).post)) (atV (a2G code) (a0n (cvV (a2G code) (wuV (a2G code) (a2L code) (a1a (a2T code).prog) (a0n (a2T code).post)))))))=true →
 false=true)∧((!(a9g (wuV (a2G code) (a2L code) (a1a (a2T code).prog) (a0n (a2T code).post)) (atV (a2G code) (a0n (cvV (a2G code) (wuV (a2G code) (a2L code) (a1a (a2T code).prog) (a0n (a2T code).post)))))))=false →
 (c1w code)))
abbrev d2s(code:List Int):Prop:=(((!(a9g (atV (a2G code) (a0n (cvV (a2G code) (wuV (a2G code) (a2L code) (a1a (a2T code).prog) (a0n (a2T code).post))))) (wuV (a2G code) (a2L code) (a1a (a2T code).prog) (a0n (a2T code).post))))=false →
 (d2r code))∧((!(a9g (atV (a2G code) (a0n (cvV (a2G code) (wuV (a2G code) (a2L code) (a1a (a2T code).prog) (a0n (a2T code).post))))) (wuV (a2G code) (a2L code) (a1a (a2T code).prog) (a0n (a2T code).post))))=(!false) →
 ((true=true →
 false=true)∧(true=false →
 (c1w code)))))
abbrev d2t(code:List Int):Prop:=((true=false →
 (d2r code))∧(true=(!false) →
 ((true=true →
 false=true)∧(true=false →
 (c1w code)))))
abbrev c9s(code:List Int):Prop:=(((a9g (wuV (a2G code) (a2L code) (a0d.mk (5:Int) (0:Int) zE ([(a1a (a2T code).prog),(a1a (a2T code).prog)])) (a0n (a2T code).post)) (wuV (a2G code) (a2L code) (a1a (a2T code).prog) (a0n (cvV (a2G code) (wuV (a2G code) (a2L code) (a1a (a2T code).prog) (a0n (a2T code).post))))))=true →
 (a9g (wuV (a2G code) (a2L code) (a1a (a2T code).prog) (a0n (cvV (a2G code) (wuV (a2G code) (a2L code) (a1a (a2T code).prog) (a0n (a2T code).post))))) (wuV (a2G code) (a2L code) (a0d.mk (5:Int) (0:Int) zE ([(a1a (a2T code).prog),(a1a (a2T code).prog)])) (a0n (a2T code).post)))=true)∧((a9g (wuV (a2G code) (a2L code) (a0d.mk (5:Int) (0:Int) zE ([(a1a (a2T code).prog),(a1a (a2T code).prog)])) (a0n (a2T code).post)) (wuV (a2G code) (a2L code) (a1a (a2T code).prog) (a0n (cvV (a2G code) (wuV (a2G code) (a2L code) (a1a (a2T code).prog) (a0n (a2T code).post))))))=(!true) →
 false=true))
abbrev c9t(code:List Int):Prop:=((false=true →
 (a9g (wuV (a2G code) (a2L code) (a1a (a2T code).prog) (a0n (cvV (a2G code) (wuV (a2G code) (a2L code) (a1a (a2T code).prog) (a0n (a2T code).post))))) (wuV (a2G code) (a2L code) (a0d.mk (5:Int) (0:Int) zE ([(a1a (a2T code).prog),(a1a (a2T code).prog)])) (a0n (a2T code).post)))=true)∧(false=(!true) →
 false=true))
abbrev c9u(code:List Int):Prop:=(a0c (cvC (a2G code) (wuV (a2G code) (a2L code) (a1a (a2T code).prog) (a0n (a2T code).post))) →
 ((atV (a2G code) (a0n (cvV (a2G code) (wuV (a2G code) (a2L code) (a1a (a2T code).prog) (a0n (a2T code).post))))).length≤140737488355328 →
 (a0c (atC (a2G code) (a0n (cvV (a2G code) (wuV (a2G code) (a2L code) (a1a (a2T code).prog) (a0n (a2T code).post))))) →
 ((((!(decide ((cvC (a2G code) (wuV (a2G code) (a2L code) (a1a (a2T code).prog) (a0n (a2T code).post)))=(0:Int))))=false →
 (((!(decide ((atC (a2G code) (a0n (cvV (a2G code) (wuV (a2G code) (a2L code) (a1a (a2T code).prog) (a0n (a2T code).post)))))=(0:Int))))=false →
 (d2s code))∧((!(decide ((atC (a2G code) (a0n (cvV (a2G code) (wuV (a2G code) (a2L code) (a1a (a2T code).prog) (a0n (a2T code).post)))))=(0:Int))))=(!false) →
 (d2t code))))∧((!(decide ((cvC (a2G code) (wuV (a2G code) (a2L code) (a1a (a2T code).prog) (a0n (a2T code).post)))=(0:Int))))=(!false) →
 ((true=false →
 (d2s code))∧(true=(!false) →
 (d2t code)))))∧(∀ u3:Unit,((WF (a2G code) (a2L code) (a2T code)∧code.length≤3000) →
 (((!(okP (a2G code) (a0d.mk (5:Int) (0:Int) zE ([(a1a (a2T code).prog),(a1a (a2T code).prog)]))))=true →
 true=true)∧((!(okP (a2G code) (a0d.mk (5:Int) (0:Int) zE ([(a1a (a2T code).prog),(a1a (a2T code).prog)]))))=false →
 ((wuV (a2G code) (a2L code) (a0d.mk (5:Int) (0:Int) zE ([(a1a (a2T code).prog),(a1a (a2T code).prog)])) (a0n (a2T code).post)).length≤140737488355328 →
 (a0c (wuC (a2G code) (a2L code) (a0d.mk (5:Int) (0:Int) zE ([(a1a (a2T code).prog),(a1a (a2T code).prog)])) (a0n (a2T code).post)) →
 ((wuV (a2G code) (a2L code) (a1a (a2T code).prog) (a0n (cvV (a2G code) (wuV (a2G code) (a2L code) (a1a (a2T code).prog) (a0n (a2T code).post))))).length≤140737488355328 →
 (a0c (wuC (a2G code) (a2L code) (a1a (a2T code).prog) (a0n (cvV (a2G code) (wuV (a2G code) (a2L code) (a1a (a2T code).prog) (a0n (a2T code).post))))) →
 (((decide ((wuC (a2G code) (a2L code) (a0d.mk (5:Int) (0:Int) zE ([(a1a (a2T code).prog),(a1a (a2T code).prog)])) (a0n (a2T code).post))=(0:Int)))=true →
 (((decide ((wuC (a2G code) (a2L code) (a1a (a2T code).prog) (a0n (cvV (a2G code) (wuV (a2G code) (a2L code) (a1a (a2T code).prog) (a0n (a2T code).post)))))=(0:Int)))=true →
 (c9s code))∧((decide ((wuC (a2G code) (a2L code) (a1a (a2T code).prog) (a0n (cvV (a2G code) (wuV (a2G code) (a2L code) (a1a (a2T code).prog) (a0n (a2T code).post)))))=(0:Int)))=(!true) →
 (c9t code))))∧((decide ((wuC (a2G code) (a2L code) (a0d.mk (5:Int) (0:Int) zE ([(a1a (a2T code).prog),(a1a (a2T code).prog)])) (a0n (a2T code).post))=(0:Int)))=(!true) →
 ((false=true →
 (c9s code))∧(false=(!true) →
 (c9t code)))))))))))))))))
theorem f8n(code:List Int)(more:List Int):awp (a2s [b9x,b5u,b0l,a6i,a5i,b7x,a6v,b5t,b3q] [] [] [] [] [] [141]) (a0j a9v) (d8k code more) 0 (a1c (a2s [b9x,b5u,b0l,a6i,a5i,b7x,a6v,b5t,b3q] [] [] [] [] [] [141]) a9v fun r=>a1f r [⟨.bool,true⟩]) (a0m a9v [.val ⟨(.slice (.int .u8)),code⟩, .val ⟨(.slice (.int .u8)),more⟩]) =
 (((((decide (3000<code.length)||decide (3000<more.length))=true →
 true=true)∧((decide (3000<code.length)||decide (3000<more.length))=false →
 (∃ u1:Unit,(code.length≤3000∧((code=code∧True)∧True)))))∧(∀ u1:Unit,(code.length≤3000 →
 ((a8t code∧code.length≤1000000)∧((a2L code).length≤140737488355328 →
 (a0c (tuC (a2G code) (a2L code) (b3h (a2T code))) →
 ((wuV (a2G code) (a2L code) (a1a (a2T code).prog) (a0n (a2T code).post)).length≤140737488355328 →
 (a0c (wuC (a2G code) (a2L code) (a1a (a2T code).prog) (a0n (a2T code).post)) →
 ((suV (a2G code) (a2L code) (a0n (a2T code).pre) (a1a (a2T code).prog)).length≤140737488355328 →
 (a0c (wuC (a2G code) (a2L code) (a1a (a2T code).prog) (a0n (a2T code).pre)) →
 ((atV (a2G code) (a0n (a2T code).pre)).length≤140737488355328 →
 (a0c (atC (a2G code) (a0n (a2T code).pre)) →
 ((atV (a2G code) (a0n (a2T code).post)).length≤140737488355328 →
 (a0c (atC (a2G code) (a0n (a2T code).post)) →
 ((((!(decide ((tuC (a2G code) (a2L code) (b3h (a2T code)))=(0:Int))))=false →
 (((!(decide ((wuC (a2G code) (a2L code) (a1a (a2T code).prog) (a0n (a2T code).post))=(0:Int))))=false →
 (d2q code))∧((!(decide ((wuC (a2G code) (a2L code) (a1a (a2T code).prog) (a0n (a2T code).post))=(0:Int))))=(!false) →
 ((true=false →
 (c1u code))∧(true=(!false) →
 (c1v code))))))∧((!(decide ((tuC (a2G code) (a2L code) (b3h (a2T code)))=(0:Int))))=(!false) →
 ((true=false →
 (d2q code))∧(true=(!false) →
 ((true=false →
 (c1u code))∧(true=(!false) →
 (c1v code)))))))∧(∀ u2:Unit,((WF (a2G code) (a2L code) (a2T code)∧code.length≤3000) →
 (((!((a9g (atV (a2G code) (a0n (a2T code).pre)) (wuV (a2G code) (a2L code) (a1a (a2T code).prog) (a0n (a2T code).post))) == (tuV (a2G code) (a2L code) (b3h (a2T code)))))=false →
 (((!((a9g (suV (a2G code) (a2L code) (a0n (a2T code).pre) (a1a (a2T code).prog)) (atV (a2G code) (a0n (a2T code).post))) == (tuV (a2G code) (a2L code) (b3h (a2T code)))))=true →
 false=true)∧((!((a9g (suV (a2G code) (a2L code) (a0n (a2T code).pre) (a1a (a2T code).prog)) (atV (a2G code) (a0n (a2T code).post))) == (tuV (a2G code) (a2L code) (b3h (a2T code)))))=false →
 (c9u code))))∧((!((a9g (atV (a2G code) (a0n (a2T code).pre)) (wuV (a2G code) (a2L code) (a1a (a2T code).prog) (a0n (a2T code).post))) == (tuV (a2G code) (a2L code) (b3h (a2T code)))))=(!false) →
 ((true=true →
 false=true)∧(true=false →
 (c9u code))))))))))))))))))))))):=by kernel_rfl
theorem f8c(hE:a0o [b9x,b5u,b0l,a6i,a5i,b7x,a6v,b5t,b3q])(hO:a5c [])(hM:a5s [])(hS:a5d []):Ctr.Good d8f:=by
 refine⟨a0l d4m rfl (by decide),?_⟩
 show ∀ (code:List Int) (more:List Int),(a8t code)→a1e prog b9n [.val ⟨(.slice (.int .u8)),code⟩, .val ⟨(.slice (.int .u8)),more⟩] (·=[⟨.bool,true⟩])
 intro code more hp
 refine g5m (own:=[]) (wr:=[]) (cl:=[]) (ro:=[141]) hE hO hM hS d4m f0p (d8k code more) ?_
 rewrite [f8n code more]
 refine⟨⟨fun a0=>rfl,fun a0=>⟨(),⟨?_,⟨⟨rfl,trivial⟩,trivial⟩⟩⟩⟩,fun u1 a0=>have b0x0:=h7e code hp (Nat.le_trans a0 (by decide));have b0x1:=wf (a2G code) (a2L code) (a2T code) (h7e code hp (Nat.le_trans a0 (by decide))).prems (i5f code (h7e code hp (Nat.le_trans a0 (by decide))).g);⟨?_,fun a1=>fun a2=>fun a3=>fun a4=>fun a5=>fun a6=>fun a7=>fun a8=>fun a9=>fun a10=>⟨⟨fun a11=>⟨fun a12=>⟨fun a13=>⟨fun a14=>⟨fun a15=>?_,fun a15=>⟨(),⟨?_,⟨⟨trivial,⟨rfl,⟨trivial,⟨rfl,⟨rfl,⟨rfl,⟨rfl,⟨rfl,trivial⟩⟩⟩⟩⟩⟩⟩⟩,⟨⟨rfl,⟨rfl,⟨rfl,⟨rfl,⟨rfl,⟨rfl,⟨rfl,⟨rfl,⟨rfl,⟨rfl,⟨rfl,⟨rfl,trivial⟩⟩⟩⟩⟩⟩⟩⟩⟩⟩⟩⟩,⟨⟨rfl,⟨rfl,trivial⟩⟩,trivial⟩⟩⟩⟩⟩⟩,fun a14=>⟨fun a15=>?_,fun a15=>⟨(),⟨?_,⟨⟨trivial,⟨rfl,⟨trivial,⟨rfl,⟨rfl,⟨rfl,⟨rfl,⟨rfl,trivial⟩⟩⟩⟩⟩⟩⟩⟩,⟨⟨rfl,⟨rfl,⟨rfl,⟨rfl,⟨rfl,⟨rfl,⟨rfl,⟨rfl,⟨rfl,⟨rfl,⟨rfl,⟨rfl,trivial⟩⟩⟩⟩⟩⟩⟩⟩⟩⟩⟩⟩,⟨⟨rfl,⟨rfl,trivial⟩⟩,trivial⟩⟩⟩⟩⟩⟩⟩,fun a13=>⟨fun a14=>⟨fun a15=>?_,fun a15=>⟨(),⟨?_,⟨⟨trivial,⟨rfl,⟨trivial,⟨rfl,⟨rfl,⟨rfl,⟨rfl,⟨rfl,trivial⟩⟩⟩⟩⟩⟩⟩⟩,⟨⟨rfl,⟨rfl,⟨rfl,⟨rfl,⟨rfl,⟨rfl,⟨rfl,⟨rfl,⟨rfl,⟨rfl,⟨rfl,⟨rfl,trivial⟩⟩⟩⟩⟩⟩⟩⟩⟩⟩⟩⟩,⟨⟨rfl,⟨rfl,trivial⟩⟩,trivial⟩⟩⟩⟩⟩⟩,fun a14=>⟨fun a15=>?_,fun a15=>⟨(),⟨?_,⟨⟨trivial,⟨rfl,⟨trivial,⟨rfl,⟨rfl,⟨rfl,⟨rfl,⟨rfl,trivial⟩⟩⟩⟩⟩⟩⟩⟩,⟨⟨rfl,⟨rfl,⟨rfl,⟨rfl,⟨rfl,⟨rfl,⟨rfl,⟨rfl,⟨rfl,⟨rfl,⟨rfl,⟨rfl,trivial⟩⟩⟩⟩⟩⟩⟩⟩⟩⟩⟩⟩,⟨⟨rfl,⟨rfl,trivial⟩⟩,trivial⟩⟩⟩⟩⟩⟩⟩⟩,fun a12=>⟨fun a13=>⟨fun a14=>⟨fun a15=>?_,fun a15=>⟨(),⟨?_,⟨⟨trivial,⟨rfl,⟨trivial,⟨rfl,⟨rfl,⟨rfl,⟨rfl,⟨rfl,trivial⟩⟩⟩⟩⟩⟩⟩⟩,⟨⟨rfl,⟨rfl,⟨rfl,⟨rfl,⟨rfl,⟨rfl,⟨rfl,⟨rfl,⟨rfl,⟨rfl,⟨rfl,⟨rfl,trivial⟩⟩⟩⟩⟩⟩⟩⟩⟩⟩⟩⟩,⟨⟨rfl,⟨rfl,trivial⟩⟩,trivial⟩⟩⟩⟩⟩⟩,fun a14=>⟨fun a15=>?_,fun a15=>⟨(),⟨?_,⟨⟨trivial,⟨rfl,⟨trivial,⟨rfl,⟨rfl,⟨rfl,⟨rfl,⟨rfl,trivial⟩⟩⟩⟩⟩⟩⟩⟩,⟨⟨rfl,⟨rfl,⟨rfl,⟨rfl,⟨rfl,⟨rfl,⟨rfl,⟨rfl,⟨rfl,⟨rfl,⟨rfl,⟨rfl,trivial⟩⟩⟩⟩⟩⟩⟩⟩⟩⟩⟩⟩,⟨⟨rfl,⟨rfl,trivial⟩⟩,trivial⟩⟩⟩⟩⟩⟩⟩,fun a13=>⟨fun a14=>⟨fun a15=>?_,fun a15=>⟨(),⟨?_,⟨⟨trivial,⟨rfl,⟨trivial,⟨rfl,⟨rfl,⟨rfl,⟨rfl,⟨rfl,trivial⟩⟩⟩⟩⟩⟩⟩⟩,⟨⟨rfl,⟨rfl,⟨rfl,⟨rfl,⟨rfl,⟨rfl,⟨rfl,⟨rfl,⟨rfl,⟨rfl,⟨rfl,⟨rfl,trivial⟩⟩⟩⟩⟩⟩⟩⟩⟩⟩⟩⟩,⟨⟨rfl,⟨rfl,trivial⟩⟩,trivial⟩⟩⟩⟩⟩⟩,fun a14=>⟨fun a15=>?_,fun a15=>⟨(),⟨?_,⟨⟨trivial,⟨rfl,⟨trivial,⟨rfl,⟨rfl,⟨rfl,⟨rfl,⟨rfl,trivial⟩⟩⟩⟩⟩⟩⟩⟩,⟨⟨rfl,⟨rfl,⟨rfl,⟨rfl,⟨rfl,⟨rfl,⟨rfl,⟨rfl,⟨rfl,⟨rfl,⟨rfl,⟨rfl,trivial⟩⟩⟩⟩⟩⟩⟩⟩⟩⟩⟩⟩,⟨⟨rfl,⟨rfl,trivial⟩⟩,trivial⟩⟩⟩⟩⟩⟩⟩⟩⟩,fun a11=>⟨fun a12=>⟨fun a13=>⟨fun a14=>⟨fun a15=>?_,fun a15=>⟨(),⟨?_,⟨⟨trivial,⟨rfl,⟨trivial,⟨rfl,⟨rfl,⟨rfl,⟨rfl,⟨rfl,trivial⟩⟩⟩⟩⟩⟩⟩⟩,⟨⟨rfl,⟨rfl,⟨rfl,⟨rfl,⟨rfl,⟨rfl,⟨rfl,⟨rfl,⟨rfl,⟨rfl,⟨rfl,⟨rfl,trivial⟩⟩⟩⟩⟩⟩⟩⟩⟩⟩⟩⟩,⟨⟨rfl,⟨rfl,trivial⟩⟩,trivial⟩⟩⟩⟩⟩⟩,fun a14=>⟨fun a15=>?_,fun a15=>⟨(),⟨?_,⟨⟨trivial,⟨rfl,⟨trivial,⟨rfl,⟨rfl,⟨rfl,⟨rfl,⟨rfl,trivial⟩⟩⟩⟩⟩⟩⟩⟩,⟨⟨rfl,⟨rfl,⟨rfl,⟨rfl,⟨rfl,⟨rfl,⟨rfl,⟨rfl,⟨rfl,⟨rfl,⟨rfl,⟨rfl,trivial⟩⟩⟩⟩⟩⟩⟩⟩⟩⟩⟩⟩,⟨⟨rfl,⟨rfl,trivial⟩⟩,trivial⟩⟩⟩⟩⟩⟩⟩,fun a13=>⟨fun a14=>⟨fun a15=>?_,fun a15=>⟨(),⟨?_,⟨⟨trivial,⟨rfl,⟨trivial,⟨rfl,⟨rfl,⟨rfl,⟨rfl,⟨rfl,trivial⟩⟩⟩⟩⟩⟩⟩⟩,⟨⟨rfl,⟨rfl,⟨rfl,⟨rfl,⟨rfl,⟨rfl,⟨rfl,⟨rfl,⟨rfl,⟨rfl,⟨rfl,⟨rfl,trivial⟩⟩⟩⟩⟩⟩⟩⟩⟩⟩⟩⟩,⟨⟨rfl,⟨rfl,trivial⟩⟩,trivial⟩⟩⟩⟩⟩⟩,fun a14=>⟨fun a15=>?_,fun a15=>⟨(),⟨?_,⟨⟨trivial,⟨rfl,⟨trivial,⟨rfl,⟨rfl,⟨rfl,⟨rfl,⟨rfl,trivial⟩⟩⟩⟩⟩⟩⟩⟩,⟨⟨rfl,⟨rfl,⟨rfl,⟨rfl,⟨rfl,⟨rfl,⟨rfl,⟨rfl,⟨rfl,⟨rfl,⟨rfl,⟨rfl,trivial⟩⟩⟩⟩⟩⟩⟩⟩⟩⟩⟩⟩,⟨⟨rfl,⟨rfl,trivial⟩⟩,trivial⟩⟩⟩⟩⟩⟩⟩⟩,fun a12=>⟨fun a13=>⟨fun a14=>⟨fun a15=>?_,fun a15=>⟨(),⟨?_,⟨⟨trivial,⟨rfl,⟨trivial,⟨rfl,⟨rfl,⟨rfl,⟨rfl,⟨rfl,trivial⟩⟩⟩⟩⟩⟩⟩⟩,⟨⟨rfl,⟨rfl,⟨rfl,⟨rfl,⟨rfl,⟨rfl,⟨rfl,⟨rfl,⟨rfl,⟨rfl,⟨rfl,⟨rfl,trivial⟩⟩⟩⟩⟩⟩⟩⟩⟩⟩⟩⟩,⟨⟨rfl,⟨rfl,trivial⟩⟩,trivial⟩⟩⟩⟩⟩⟩,fun a14=>⟨fun a15=>?_,fun a15=>⟨(),⟨?_,⟨⟨trivial,⟨rfl,⟨trivial,⟨rfl,⟨rfl,⟨rfl,⟨rfl,⟨rfl,trivial⟩⟩⟩⟩⟩⟩⟩⟩,⟨⟨rfl,⟨rfl,⟨rfl,⟨rfl,⟨rfl,⟨rfl,⟨rfl,⟨rfl,⟨rfl,⟨rfl,⟨rfl,⟨rfl,trivial⟩⟩⟩⟩⟩⟩⟩⟩⟩⟩⟩⟩,⟨⟨rfl,⟨rfl,trivial⟩⟩,trivial⟩⟩⟩⟩⟩⟩⟩,fun a13=>⟨fun a14=>⟨fun a15=>?_,fun a15=>⟨(),⟨?_,⟨⟨trivial,⟨rfl,⟨trivial,⟨rfl,⟨rfl,⟨rfl,⟨rfl,⟨rfl,trivial⟩⟩⟩⟩⟩⟩⟩⟩,⟨⟨rfl,⟨rfl,⟨rfl,⟨rfl,⟨rfl,⟨rfl,⟨rfl,⟨rfl,⟨rfl,⟨rfl,⟨rfl,⟨rfl,trivial⟩⟩⟩⟩⟩⟩⟩⟩⟩⟩⟩⟩,⟨⟨rfl,⟨rfl,trivial⟩⟩,trivial⟩⟩⟩⟩⟩⟩,fun a14=>⟨fun a15=>?_,fun a15=>⟨(),⟨?_,⟨⟨trivial,⟨rfl,⟨trivial,⟨rfl,⟨rfl,⟨rfl,⟨rfl,⟨rfl,trivial⟩⟩⟩⟩⟩⟩⟩⟩,⟨⟨rfl,⟨rfl,⟨rfl,⟨rfl,⟨rfl,⟨rfl,⟨rfl,⟨rfl,⟨rfl,⟨rfl,⟨rfl,⟨rfl,trivial⟩⟩⟩⟩⟩⟩⟩⟩⟩⟩⟩⟩,⟨⟨rfl,⟨rfl,trivial⟩⟩,trivial⟩⟩⟩⟩⟩⟩⟩⟩⟩⟩,fun u2=>fun a11=>⟨fun a12=>⟨fun a13=>?_,fun a13=>fun a14=>fun a15=>fun a16=>⟨⟨fun a17=>⟨fun a18=>⟨fun a19=>⟨fun a20=>?_,fun a20=>⟨(),⟨?_,⟨⟨trivial,⟨rfl,⟨trivial,⟨trivial,trivial⟩⟩⟩⟩,⟨⟨rfl,⟨rfl,⟨rfl,trivial⟩⟩⟩,⟨⟨rfl,⟨rfl,⟨rfl,⟨rfl,⟨rfl,⟨rfl,⟨rfl,⟨rfl,⟨rfl,⟨rfl,⟨rfl,⟨rfl,trivial⟩⟩⟩⟩⟩⟩⟩⟩⟩⟩⟩⟩,⟨⟨rfl,⟨rfl,trivial⟩⟩,trivial⟩⟩⟩⟩⟩⟩⟩,fun a19=>⟨fun a20=>?_,fun a20=>⟨(),⟨?_,⟨⟨trivial,⟨rfl,⟨trivial,⟨trivial,trivial⟩⟩⟩⟩,⟨⟨rfl,⟨rfl,⟨rfl,trivial⟩⟩⟩,⟨⟨rfl,⟨rfl,⟨rfl,⟨rfl,⟨rfl,⟨rfl,⟨rfl,⟨rfl,⟨rfl,⟨rfl,⟨rfl,⟨rfl,trivial⟩⟩⟩⟩⟩⟩⟩⟩⟩⟩⟩⟩,⟨⟨rfl,⟨rfl,trivial⟩⟩,trivial⟩⟩⟩⟩⟩⟩⟩⟩,fun a18=>⟨fun a19=>⟨fun a20=>?_,fun a20=>⟨(),⟨?_,⟨⟨trivial,⟨rfl,⟨trivial,⟨trivial,trivial⟩⟩⟩⟩,⟨⟨rfl,⟨rfl,⟨rfl,trivial⟩⟩⟩,⟨⟨rfl,⟨rfl,⟨rfl,⟨rfl,⟨rfl,⟨rfl,⟨rfl,⟨rfl,⟨rfl,⟨rfl,⟨rfl,⟨rfl,trivial⟩⟩⟩⟩⟩⟩⟩⟩⟩⟩⟩⟩,⟨⟨rfl,⟨rfl,trivial⟩⟩,trivial⟩⟩⟩⟩⟩⟩⟩,fun a19=>⟨fun a20=>?_,fun a20=>⟨(),⟨?_,⟨⟨trivial,⟨rfl,⟨trivial,⟨trivial,trivial⟩⟩⟩⟩,⟨⟨rfl,⟨rfl,⟨rfl,trivial⟩⟩⟩,⟨⟨rfl,⟨rfl,⟨rfl,⟨rfl,⟨rfl,⟨rfl,⟨rfl,⟨rfl,⟨rfl,⟨rfl,⟨rfl,⟨rfl,trivial⟩⟩⟩⟩⟩⟩⟩⟩⟩⟩⟩⟩,⟨⟨rfl,⟨rfl,trivial⟩⟩,trivial⟩⟩⟩⟩⟩⟩⟩⟩⟩,fun a17=>⟨fun a18=>⟨fun a19=>⟨fun a20=>?_,fun a20=>⟨(),⟨?_,⟨⟨trivial,⟨rfl,⟨trivial,⟨trivial,trivial⟩⟩⟩⟩,⟨⟨rfl,⟨rfl,⟨rfl,trivial⟩⟩⟩,⟨⟨rfl,⟨rfl,⟨rfl,⟨rfl,⟨rfl,⟨rfl,⟨rfl,⟨rfl,⟨rfl,⟨rfl,⟨rfl,⟨rfl,trivial⟩⟩⟩⟩⟩⟩⟩⟩⟩⟩⟩⟩,⟨⟨rfl,⟨rfl,trivial⟩⟩,trivial⟩⟩⟩⟩⟩⟩⟩,fun a19=>⟨fun a20=>?_,fun a20=>⟨(),⟨?_,⟨⟨trivial,⟨rfl,⟨trivial,⟨trivial,trivial⟩⟩⟩⟩,⟨⟨rfl,⟨rfl,⟨rfl,trivial⟩⟩⟩,⟨⟨rfl,⟨rfl,⟨rfl,⟨rfl,⟨rfl,⟨rfl,⟨rfl,⟨rfl,⟨rfl,⟨rfl,⟨rfl,⟨rfl,trivial⟩⟩⟩⟩⟩⟩⟩⟩⟩⟩⟩⟩,⟨⟨rfl,⟨rfl,trivial⟩⟩,trivial⟩⟩⟩⟩⟩⟩⟩⟩,fun a18=>⟨fun a19=>⟨fun a20=>?_,fun a20=>⟨(),⟨?_,⟨⟨trivial,⟨rfl,⟨trivial,⟨trivial,trivial⟩⟩⟩⟩,⟨⟨rfl,⟨rfl,⟨rfl,trivial⟩⟩⟩,⟨⟨rfl,⟨rfl,⟨rfl,⟨rfl,⟨rfl,⟨rfl,⟨rfl,⟨rfl,⟨rfl,⟨rfl,⟨rfl,⟨rfl,trivial⟩⟩⟩⟩⟩⟩⟩⟩⟩⟩⟩⟩,⟨⟨rfl,⟨rfl,trivial⟩⟩,trivial⟩⟩⟩⟩⟩⟩⟩,fun a19=>⟨fun a20=>?_,fun a20=>⟨(),⟨?_,⟨⟨trivial,⟨rfl,⟨trivial,⟨trivial,trivial⟩⟩⟩⟩,⟨⟨rfl,⟨rfl,⟨rfl,trivial⟩⟩⟩,⟨⟨rfl,⟨rfl,⟨rfl,⟨rfl,⟨rfl,⟨rfl,⟨rfl,⟨rfl,⟨rfl,⟨rfl,⟨rfl,⟨rfl,trivial⟩⟩⟩⟩⟩⟩⟩⟩⟩⟩⟩⟩,⟨⟨rfl,⟨rfl,trivial⟩⟩,trivial⟩⟩⟩⟩⟩⟩⟩⟩⟩⟩,fun u3=>fun a17=>⟨fun a18=>rfl,fun a18=>fun a19=>fun a20=>fun a21=>fun a22=>⟨fun a23=>⟨fun a24=>⟨fun a25=>?_,fun a25=>?_⟩,fun a24=>⟨fun a25=>?_,fun a25=>?_⟩⟩,fun a23=>⟨fun a24=>⟨fun a25=>?_,fun a25=>?_⟩,fun a24=>⟨fun a25=>?_,fun a25=>?_⟩⟩⟩⟩⟩⟩,fun a12=>⟨fun a13=>?_,fun a13=>fun a14=>fun a15=>fun a16=>⟨⟨fun a17=>⟨fun a18=>⟨fun a19=>⟨fun a20=>?_,fun a20=>⟨(),⟨?_,⟨⟨trivial,⟨rfl,⟨trivial,⟨trivial,trivial⟩⟩⟩⟩,⟨⟨rfl,⟨rfl,⟨rfl,trivial⟩⟩⟩,⟨⟨rfl,⟨rfl,⟨rfl,⟨rfl,⟨rfl,⟨rfl,⟨rfl,⟨rfl,⟨rfl,⟨rfl,⟨rfl,⟨rfl,trivial⟩⟩⟩⟩⟩⟩⟩⟩⟩⟩⟩⟩,⟨⟨rfl,⟨rfl,trivial⟩⟩,trivial⟩⟩⟩⟩⟩⟩⟩,fun a19=>⟨fun a20=>?_,fun a20=>⟨(),⟨?_,⟨⟨trivial,⟨rfl,⟨trivial,⟨trivial,trivial⟩⟩⟩⟩,⟨⟨rfl,⟨rfl,⟨rfl,trivial⟩⟩⟩,⟨⟨rfl,⟨rfl,⟨rfl,⟨rfl,⟨rfl,⟨rfl,⟨rfl,⟨rfl,⟨rfl,⟨rfl,⟨rfl,⟨rfl,trivial⟩⟩⟩⟩⟩⟩⟩⟩⟩⟩⟩⟩,⟨⟨rfl,⟨rfl,trivial⟩⟩,trivial⟩⟩⟩⟩⟩⟩⟩⟩,fun a18=>⟨fun a19=>⟨fun a20=>?_,fun a20=>⟨(),⟨?_,⟨⟨trivial,⟨rfl,⟨trivial,⟨trivial,trivial⟩⟩⟩⟩,⟨⟨rfl,⟨rfl,⟨rfl,trivial⟩⟩⟩,⟨⟨rfl,⟨rfl,⟨rfl,⟨rfl,⟨rfl,⟨rfl,⟨rfl,⟨rfl,⟨rfl,⟨rfl,⟨rfl,⟨rfl,trivial⟩⟩⟩⟩⟩⟩⟩⟩⟩⟩⟩⟩,⟨⟨rfl,⟨rfl,trivial⟩⟩,trivial⟩⟩⟩⟩⟩⟩⟩,fun a19=>⟨fun a20=>?_,fun a20=>⟨(),⟨?_,⟨⟨trivial,⟨rfl,⟨trivial,⟨trivial,trivial⟩⟩⟩⟩,⟨⟨rfl,⟨rfl,⟨rfl,trivial⟩⟩⟩,⟨⟨rfl,⟨rfl,⟨rfl,⟨rfl,⟨rfl,⟨rfl,⟨rfl,⟨rfl,⟨rfl,⟨rfl,⟨rfl,⟨rfl,trivial⟩⟩⟩⟩⟩⟩⟩⟩⟩⟩⟩⟩,⟨⟨rfl,⟨rfl,trivial⟩⟩,trivial⟩⟩⟩⟩⟩⟩⟩⟩⟩,fun a17=>⟨fun a18=>⟨fun a19=>⟨fun a20=>?_,fun a20=>⟨(),⟨?_,⟨⟨trivial,⟨rfl,⟨trivial,⟨trivial,trivial⟩⟩⟩⟩,⟨⟨rfl,⟨rfl,⟨rfl,trivial⟩⟩⟩,⟨⟨rfl,⟨rfl,⟨rfl,⟨rfl,⟨rfl,⟨rfl,⟨rfl,⟨rfl,⟨rfl,⟨rfl,⟨rfl,⟨rfl,trivial⟩⟩⟩⟩⟩⟩⟩⟩⟩⟩⟩⟩,⟨⟨rfl,⟨rfl,trivial⟩⟩,trivial⟩⟩⟩⟩⟩⟩⟩,fun a19=>⟨fun a20=>?_,fun a20=>⟨(),⟨?_,⟨⟨trivial,⟨rfl,⟨trivial,⟨trivial,trivial⟩⟩⟩⟩,⟨⟨rfl,⟨rfl,⟨rfl,trivial⟩⟩⟩,⟨⟨rfl,⟨rfl,⟨rfl,⟨rfl,⟨rfl,⟨rfl,⟨rfl,⟨rfl,⟨rfl,⟨rfl,⟨rfl,⟨rfl,trivial⟩⟩⟩⟩⟩⟩⟩⟩⟩⟩⟩⟩,⟨⟨rfl,⟨rfl,trivial⟩⟩,trivial⟩⟩⟩⟩⟩⟩⟩⟩,fun a18=>⟨fun a19=>⟨fun a20=>?_,fun a20=>⟨(),⟨?_,⟨⟨trivial,⟨rfl,⟨trivial,⟨trivial,trivial⟩⟩⟩⟩,⟨⟨rfl,⟨rfl,⟨rfl,trivial⟩⟩⟩,⟨⟨rfl,⟨rfl,⟨rfl,⟨rfl,⟨rfl,⟨rfl,⟨rfl,⟨rfl,⟨rfl,⟨rfl,⟨rfl,⟨rfl,trivial⟩⟩⟩⟩⟩⟩⟩⟩⟩⟩⟩⟩,⟨⟨rfl,⟨rfl,trivial⟩⟩,trivial⟩⟩⟩⟩⟩⟩⟩,fun a19=>⟨fun a20=>?_,fun a20=>⟨(),⟨?_,⟨⟨trivial,⟨rfl,⟨trivial,⟨trivial,trivial⟩⟩⟩⟩,⟨⟨rfl,⟨rfl,⟨rfl,trivial⟩⟩⟩,⟨⟨rfl,⟨rfl,⟨rfl,⟨rfl,⟨rfl,⟨rfl,⟨rfl,⟨rfl,⟨rfl,⟨rfl,⟨rfl,⟨rfl,trivial⟩⟩⟩⟩⟩⟩⟩⟩⟩⟩⟩⟩,⟨⟨rfl,⟨rfl,trivial⟩⟩,trivial⟩⟩⟩⟩⟩⟩⟩⟩⟩⟩,fun u3=>fun a17=>⟨fun a18=>rfl,fun a18=>fun a19=>fun a20=>fun a21=>fun a22=>⟨fun a23=>⟨fun a24=>⟨fun a25=>?_,fun a25=>?_⟩,fun a24=>⟨fun a25=>?_,fun a25=>?_⟩⟩,fun a23=>⟨fun a24=>⟨fun a25=>?_,fun a25=>?_⟩,fun a24=>⟨fun a25=>?_,fun a25=>?_⟩⟩⟩⟩⟩⟩⟩⟩⟩⟩
 all_goals try and_intros
 all_goals try simp only[a0b.eta,a0d.eta,a1g.eta,a0e.eta,a2u,a2z,a2o,a2f] at *
 all_goals (try simp only[a0b.eta,a0d.eta,a0e.eta,a1g.eta,decide_eq_true_eq,decide_eq_false_iff_not,Bool.not_true,Bool.not_false,Bool.not_eq_true',Bool.not_eq_false'] at *);first|rfl|trivial|omega|(simp only[Bool.or_eq_false_iff,decide_eq_false_iff_not] at a0;omega)|with_reducible assumption|(have W:WF (a2G code) (a2L code) (a2T code):=(by assumption);obtain⟨w1,w2,w3,w4,w5,w6,w7,w8,w9,w10,w11,w12⟩:=W;first|contradiction|(simp_all;done))
theorem f0y:Ctr.Good d8f:=f8c ⟨g1b,f3c,e4i,e2n,d7p,f7e,e4h,f3b,f0z,trivial⟩ trivial trivial trivial
theorem h1o{w:World}{S:Nat→Prop}:∀ (xs:List Int) (b o:Nat),a4d w S (xs.map (Ty.int IntKind.u8).toD) b o→a8t xs
 | [],_,_,_=>fun i h=>by simp at h
 | x::xs,b,o,h=>fun i hi=>by
  obtain⟨⟨cs,_,h1,_⟩,h2⟩:=h
  cases i with
  | zero =>
   have h3:IntKind.u8.min≤x∧x≤IntKind.u8.max:=h1.2
   have e1:IntKind.u8.min=0:=by decide
   have e2:IntKind.u8.max=255:=by decide
   rw[e1,e2] at h3
   exact h3
  | succ i=>simpa using h1o xs b _ h2 i (by simpa using hi)
theorem i1k{P:Program}{w:World}{S:Nat→Prop}{code:List Int}{x:Value}(h:c5t P w S (.val ⟨.slice (.int .u8),code⟩) x):a8t code:=by
 obtain⟨a,cap,_,_,_,_,h5⟩:=(show Rd w S (TV.toD ⟨.slice (.int .u8),code⟩) [x] from h)
 rcases h5 with h5|⟨b,o,_,_,h5⟩
 ·have:code=[]:=List.map_eq_nil_iff.1 h5
  subst this
  exact fun i h=>by simp at h
 ·exact h1o code b o h5
theorem h2c:∀ tvs:List TV,tvs.map TV.τ=[(.slice (.int .u8)),(.slice (.int .u8))]→a1e prog b9n (tvs.map .val) (·=[⟨.bool,true⟩]):=by
 intro tvs h
 match tvs,h with
 | [⟨t0,a0⟩,⟨t1,a1⟩],h =>
  simp only[List.map_cons,List.map_nil,List.cons.injEq,and_true] at h
  obtain⟨rfl,rfl⟩:=h
  intro w S vals hS ha
  match vals,ha with
  | [x,y],ha=>exact f0y.2 a0 a1 (i1k ha.1) w S [x,y] hS ha
end
end Go.Proofs.YthebhlkdppmefaaGreat

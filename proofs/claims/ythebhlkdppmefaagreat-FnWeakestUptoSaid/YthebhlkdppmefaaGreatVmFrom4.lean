/- The reference on what lies behind the allowed words; the program on it. Printed by vmk.py. -/
import Derived.Test.YthebhlkdppmefaaGreatVmUse
import Derived.Test.YthebhlkdppmefaaGreatVmLib
import Derived.Test.YthebhlkdppmefaaGreatVmAllows
import Derived.Test.YthebhlkdppmefaaGreatVmProg
import Derived.Test.YthebhlkdppmefaaGreatVmLeads2
import Derived.Test.YthebhlkdppmefaaGreatVmLeads3
import Derived.Test.YthebhlkdppmefaaGreatVmFrom2
import Derived.Test.YthebhlkdppmefaaGreatVmFrom3
set_option linter.unusedVariables false
set_option linter.unusedSimpArgs false
set_option linter.unusedSectionVars false
set_option maxRecDepth 4000
set_option maxHeartbeats 4000000
namespace Go.Proofs.YthebhlkdppmefaaGreat
noncomputable section
theorem b1x(gg:a0h)(xs:List a0e)(p:a0d)(h:okL gg xs p)(a:List Int) :
  (p.kind=1→a0x gg xs p a=a)∧(p.kind=2→a0x gg xs p a=[])∧(p.kind=3→a0x gg xs p a=a3z gg xs p.num a)∧(p.kind=4→a0x gg xs p a=a2w p.cond a) ∧
  (p.kind=5→2=p.kids.length∧a0x gg xs p a=a0x gg xs (p.kids.getD 1 zP) (a0x gg xs (p.kids.getD 0 zP) a)) ∧
  (p.kind=6→2=p.kids.length∧a0x gg xs p a=a2l (a0x gg xs (p.kids.getD 0 zP) (a2w p.cond a)) (a0x gg xs (p.kids.getD 1 zP) (noL p.cond a))) ∧
  (p.kind=7→1=p.kids.length∧a0x gg xs p a=noL p.cond (wL (a0x gg xs (p.kids.getD 0 zP)) p.cond a (a0a gg).toNat)) ∧
  (p.kind=1∨p.kind=2∨p.kind=3∨p.kind=4∨p.kind=5∨p.kind=6∨p.kind=7):=by
 have ht:=h.tree
 rw[a7g,Bool.and_eq_true] at ht
 have hk:=b9h gg p ht.1
 rw[i1s]
 refine⟨fun e=>?_,fun e=>?_,fun e=>?_,fun e=>?_,fun e=>⟨(hk.1 (.inl e)).symm,?_⟩,fun e=>⟨(hk.1 (.inr e)).symm,?_⟩,fun e=>⟨(hk.2 e).symm,?_⟩,h9p gg p ht.1⟩
 ·rw[b5m,if_pos e]
 ·rw[b5m,if_neg (by omega),if_pos e]
 ·rw[b5m,if_neg (by omega),if_neg (by omega),if_pos e]
 ·rw[b5m,if_neg (by omega),if_neg (by omega),if_neg (by omega),if_neg (by omega),if_pos e]
 ·have:=hk.1 (.inl e)
  rw[b5m,if_neg (by omega),if_neg (by omega),if_neg (by omega),if_pos e,c0i _ _ zP _ 0 (by omega),c0i _ _ zP _ 1 (by omega)]
 ·have:=hk.1 (.inr e)
  rw[b5m,if_neg (by omega),if_neg (by omega),if_neg (by omega),if_neg (by omega),if_neg (by omega),if_pos e,c0i _ _ zP _ 0 (by omega),c0i _ _ zP _ 1 (by omega)]
 ·have:=hk.2 e
  rw[b5m,if_neg (by omega),if_neg (by omega),if_neg (by omega),if_neg (by omega),if_neg (by omega),if_neg (by omega),c0i _ _ zP _ 0 (by omega)]
theorem i5g(gg:a0h)(xs:List a0e)(p:a0d)(h:okL gg xs p)(e:p.kind=3)(x:Int)(hx:0≤x∧x<a0a gg):h3n gg p.num x=true:=by
 have ht:=h.tree
 rw[a7g,Bool.and_eq_true,b9g] at ht
 have h1:=ht.1
 simp only[Bool.and_eq_true,b9p,if_pos e,decide_eq_true_eq] at h1
 rw[h6g]
 simp only[Bool.and_eq_true,decide_eq_true_eq]
 omega
theorem h9n(gg:a0h)(xs:List a0e)(p:a0d)(h:okL gg xs p):(p.kind=4∨p.kind=6∨p.kind=7)→a1k p.cond=true:=by
 have ht:=h.tree
 rw[a7g,Bool.and_eq_true] at ht
 exact e7o gg p h.sig ht.1
theorem h4t(gg:a0h)(xs:List a0e)(act:Int)(a:List Int):a3z gg xs act (a.take 0)=[]:=rfl
theorem h4s(gg:a0h)(xs:List a0e)(act:Int)(a:List Int)(k:Nat)(h:k<a.length):a2l (a3z gg xs act (a.take k)) (a3p gg xs act (a.getD k 0))=a3z gg xs act (a.take (k+1)):=by
 rw[a8f 0 a k h];simp[a3z]
theorem h5x(gg:a0h)(xs:List a0e)(act:Int)(a:List Int)(k:Nat)(h:a.length≤k):a3z gg xs act (a.take k)=a3z gg xs act a:=by rw[List.take_of_length_le h]
theorem h5y(gg:a0h)(xs:List a0e)(act:Int)(a:List Int):a3k (a0a gg) (a3z gg xs act a):=by rw[f9g];exact b1y _ _
theorem h1f(gg:a0h)(xs:List a0e)(act x:Int):a3k (a0a gg) (a3p gg xs act x):=by rw[h1e];exact b1y _ _
theorem d7l(gg:a0h)(hs:a1i gg=true)(a:List Int)(h:a3k (a0a gg) a):a.length≤8∧∀ i,i<a.length→0≤a.getD i 0∧a.getD i 0≤4096∧a.getD i 0<a0a gg:=by
 have hn:=(a5w gg hs).2
 have h1:=h0v _ _ h
 refine⟨by omega,fun i hi=>?_⟩
 have:=h4n _ _ h i hi
 omega
theorem f6b(gg:a0h)(xs:List a0e)(p:a0d)(h:okL gg xs p)(e:p.kind=7)(a:List Int)(ha:a3k (a0a gg) a)(k:Nat) :
  a3k (a0a gg) (wL (a0x gg xs (p.kids.getD 0 zP)) p.cond a k)∧(wL (a0x gg xs (p.kids.getD 0 zP)) p.cond a k).length≤(a0a gg).toNat∧(wL (a0x gg xs (p.kids.getD 0 zP)) p.cond a (k+1)).length≤(a0a gg).toNat ∧
  (wL (a0x gg xs (p.kids.getD 0 zP)) p.cond a k).length≤(wL (a0x gg xs (p.kids.getD 0 zP)) p.cond a (k+1)).length ∧
  ((wL (a0x gg xs (p.kids.getD 0 zP)) p.cond a (k+1)).length=(wL (a0x gg xs (p.kids.getD 0 zP)) p.cond a k).length→noL p.cond (wL (a0x gg xs (p.kids.getD 0 zP)) p.cond a k)=a0x gg xs p a):=by
 have ht:=h.tree
 rw[a7g,Bool.and_eq_true] at ht
 have hk:=(b9h gg p ht.1).2 e
 have hf:=e2l gg xs (a5w gg h.sig).2.1 (p.kids.getD 0 zP) (b8z _ _ _ _ (by omega) ht.2)
 have hw:=h5l (a0a gg) (a0x gg xs (p.kids.getD 0 zP)) p.cond _ hf (c4p a)
 rw[←ha.eq] at hw
 rw[((b1x gg xs p h a).2.2.2.2.2.2.1 e).2,hw,hw,hw]
 generalize stB p.cond (a0g (a0a gg) xs (p.kids.getD 0 zP))=st
 refine⟨b1y _ _,a6b _ _,a6b _ _,(g3a _ _ _ _).2,fun hl=>?_⟩
 have:wpS (a0a gg).toNat st (c4p a) k=wpS (a0a gg).toNat st (c4p a) (a0a gg).toNat:=a3f _ _ _ fun y hy=>by
  rcases Nat.le_total k (a0a gg).toNat with hle|hle
  ·exact (g3b _ _ _ k hl _ y hle hy).symm
  ·exact h7a _ _ _ k y hle hy
 rw[this]
theorem g6l(gg:a0h)(hs:a1i gg=true)(a:List Int)(h:a3k (a0a gg) a):a.length≤8∧∀ i,i<a.length→0≤a.getD i 0∧a.getD i 0≤4096:=by
 obtain⟨h1,h2⟩:=d7l gg hs a h
 exact⟨h1,fun i hi=>⟨(h2 i hi).1,(h2 i hi).2.1⟩⟩
theorem g5c(gg:a0h)(xs:List a0e)(p:a0d)(h:okL gg xs p)(i:Nat)(hi:i<p.kids.length):okL gg xs (p.kids.getD i zP)∧msz (p.kids.getD i zP)<msz p:=by
 have h1:=a3d zP p.kids i hi
 have h2:=b8x p
 exact⟨h6o gg xs p h _ i hi,by omega⟩
theorem e7i(gg:a0h)(xs:List a0e)(p:a0d)(h:okL gg xs p)(a:List Int)(ha:a3k (a0a gg) a):a3k (a0a gg) (a0x gg xs p a)∧(a0x gg xs p a).length≤8 :=
 ⟨e0m gg xs p h a ha,(d7l gg h.sig _ (e0m gg xs p h a ha)).1⟩
theorem k3(gg:a0h)(xs:List a0e)(p:a0d)(h:okL gg xs p)(a:List Int)(e:p.kind=3):a0x gg xs p a=a3z gg xs p.num a:=(b1x gg xs p h a).2.2.1 e
theorem k4(gg:a0h)(xs:List a0e)(p:a0d)(h:okL gg xs p)(a:List Int)(ha:a3k (a0a gg) a)(e:p.kind=4∨p.kind=6∨p.kind=7):a1k p.cond=true∧a3k (a0a gg) (a2w p.cond a)∧a3k (a0a gg) (noL p.cond a) :=
 ⟨h9n gg xs p h e,i2k _ _ _ ha⟩
theorem k5(gg:a0h)(xs:List a0e)(p:a0d)(h:okL gg xs p)(a:List Int)(ha:a3k (a0a gg) a)(e:p.kind=5):2=p.kids.length∧(okL gg xs (p.kids.getD 0 zP)∧msz (p.kids.getD 0 zP)<msz p)∧(okL gg xs (p.kids.getD 1 zP)∧msz (p.kids.getD 1 zP)<msz p)∧a3k (a0a gg) (a0x gg xs (p.kids.getD 0 zP) a) ∧
  a0x gg xs p a=a0x gg xs (p.kids.getD 1 zP) (a0x gg xs (p.kids.getD 0 zP) a):=by
 obtain⟨h1,h2⟩:=(b1x gg xs p h a).2.2.2.2.1 e
 have o0:=g5c gg xs p h 0 (by omega)
 exact⟨h1,o0,g5c gg xs p h 1 (by omega),e0m gg xs _ o0.1 a ha,h2⟩
theorem k6(gg:a0h)(xs:List a0e)(p:a0d)(h:okL gg xs p)(a:List Int)(ha:a3k (a0a gg) a)(e:p.kind=6):2=p.kids.length∧(okL gg xs (p.kids.getD 0 zP)∧msz (p.kids.getD 0 zP)<msz p)∧(okL gg xs (p.kids.getD 1 zP)∧msz (p.kids.getD 1 zP)<msz p)∧(a0x gg xs (p.kids.getD 0 zP) (a2w p.cond a)).length≤8∧(a0x gg xs (p.kids.getD 1 zP) (noL p.cond a)).length≤8 ∧
  a0x gg xs p a=a2l (a0x gg xs (p.kids.getD 0 zP) (a2w p.cond a)) (a0x gg xs (p.kids.getD 1 zP) (noL p.cond a)):=by
 obtain⟨h1,h2⟩:=(b1x gg xs p h a).2.2.2.2.2.1 e
 obtain⟨_,s1,s2⟩:=k4 gg xs p h a ha (.inr (.inl e))
 have o0:=g5c gg xs p h 0 (by omega)
 have o1:=g5c gg xs p h 1 (by omega)
 exact⟨h1,o0,o1,(e7i gg xs _ o0.1 _ s1).2,(e7i gg xs _ o1.1 _ s2).2,h2⟩
theorem kX(gg:a0h)(xs:List a0e)(p:a0d)(h:okL gg xs p):p.kind=1∨p.kind=2∨p.kind=3∨p.kind=4∨p.kind=5∨p.kind=6∨p.kind=7:=(b1x gg xs p h []).2.2.2.2.2.2.2
theorem k7(gg:a0h)(xs:List a0e)(p:a0d)(h:okL gg xs p)(a:List Int)(ha:a3k (a0a gg) a)(e:p.kind=7)(k:Nat):1=p.kids.length∧(okL gg xs (p.kids.getD 0 zP)∧msz (p.kids.getD 0 zP)<msz p) ∧
  (a1k p.cond=true∧a3k (a0a gg) (a2w p.cond (wL (a0x gg xs (p.kids.getD 0 zP)) p.cond a k))∧a3k (a0a gg) (noL p.cond (wL (a0x gg xs (p.kids.getD 0 zP)) p.cond a k)))∧((a0x gg xs (p.kids.getD 0 zP) (a2w p.cond (wL (a0x gg xs (p.kids.getD 0 zP)) p.cond a k))).length≤8) ∧
  (a2l (wL (a0x gg xs (p.kids.getD 0 zP)) p.cond a k) (a0x gg xs (p.kids.getD 0 zP) (a2w p.cond (wL (a0x gg xs (p.kids.getD 0 zP)) p.cond a k)))=wL (a0x gg xs (p.kids.getD 0 zP)) p.cond a (k+1)):=by
 obtain⟨h1,h2⟩:=(b1x gg xs p h a).2.2.2.2.2.2.1 e
 have o0:=g5c gg xs p h 0 (by omega)
 have w:=(f6b gg xs p h e a ha k).1
 obtain⟨s0,s1,s2⟩:=k4 gg xs p h _ w (.inr (.inr e))
 exact⟨h1,o0,⟨s0,s1,s2⟩,(e7i gg xs _ o0.1 _ s1).2,rfl⟩
def b6d(n:Nat):Ctr:=⟨c3t,[.v (.st .sig), .v (.slice (.st .premise)), .r (.st .prog), .v (.slice (.int .i64))],fun (gg:a0h) (xs:List a0e) (p:a0d) (a:List Int)=>⟨(some (msz p<n∧okL gg xs p∧a1t gg xs=true∧a3k (a0a gg) a),[⟨(.slice (.int .i64)),a0x gg xs p a⟩])⟩⟩
def b0a:Ctr:=⟨c3t,[.v (.st .sig), .v (.slice (.st .premise)), .r (.st .prog), .v (.slice (.int .i64))],fun (gg:a0h) (xs:List a0e) (p:a0d) (a:List Int)=>⟨(some (okL gg xs p∧a1t gg xs=true∧a3k (a0a gg) a),[⟨(.slice (.int .i64)),a0x gg xs p a⟩])⟩⟩
def e5l(gg:a0h)(xs:List a0e)(p:a0d)(a:List Int):Nat→a0p:=(fun zb=>if Nat.beq zb 1 then .mk (Nat) (fun k=>k≤a.length∧p.kind=3) (fun k=>a.length - k) [17] [0,5,6,7,17,18,19,20,21,22,23,24,25,26,27,28,29,30,61,62,63,64,65,66,67,68,69,70,71,72,73,74,75,76,77,78,79] (fun k=>[(10, .imm ⟨(.int .i64),((k:Int):Int)⟩),(9, .imm ⟨(.slice (.int .i64)),(a3z gg xs p.num (a.take k):List Int)⟩)]) [1,2,3,4,8,9,10,11,12,13,14,15,16,31,32,33,34,35,36,37,38,39,40,41,42,43,44,45,46,47,48,49,50,51,52,53,54,55,56,57,58,59,60,80,81,82,83,84,85,86,87,88,89,90,91,92,93,94,95,96,97,98,99,100,101,102,103,104,105,106,107,108,109,110,111,112,113,114,115,116,117,118,119,120,121,122,123,124,125,126,127,128,129,130,131,132,133,134,135,136,137,138,139,140,141,142,143,144] (fun k=>[]) [] [] (fun k=>(fun zb=>if Nat.beq zb 3 then .mk (Nat) (fun j=>j≤(a3p gg xs p.num (a.getD k 0)).length) (fun j=>(a3p gg xs p.num (a.getD k 0)).length - j) [] [0,5,6,7,17,18,19,20,21,22,23,24,25,26,27,28,29,30,61,62,63,64,65,66,67,68,69,70,71,72,73,74,75,76,77,78,79] (fun j=>[(12, .imm ⟨(.int .i64),((j:Int):Int)⟩),(9, .imm ⟨(.slice (.int .i64)),(a2l (a3z gg xs p.num (a.take k)) ((a3p gg xs p.num (a.getD k 0)).take j):List Int)⟩)]) [1,2,3,4,8,9,10,11,12,13,14,15,16,31,32,33,34,35,36,37,38,39,40,41,42,43,44,45,46,47,48,49,50,51,52,53,54,55,56,57,58,59,60,80,81,82,83,84,85,86,87,88,89,90,91,92,93,94,95,96,97,98,99,100,101,102,103,104,105,106,107,108,109,110,111,112,113,114,115,116,117,118,119,120,121,122,123,124,125,126,127,128,129,130,131,132,133,134,135,136,137,138,139,140,141,142,143,144] (fun j=>[]) [] [] (fun j=>fun _ => .none) else .none)) else if Nat.beq zb 6 then .mk (Nat) (fun k=>p.kind=7) (fun k=>(a0a gg).toNat - (wL (a0x gg xs (p.kids.getD 0 zP)) p.cond a k).length) [] [0,3,5,6,7,9,10,11,12,17,18,19,20,21,22,23,24,25,26,27,28,29,30,31,32,33,34,35,36,37,38,39,40,41,42,43,44,45,46,47,48,49,50,51,52,53,54,55,56,57,58,59,60,61,62,63,64,65,66,67,68,69,70,71,72,73,74,75,76,77,78,79,80,81,82,83,84,85,86,87,88,89,90,91,92,93,94,95,96,97,98,99,100,101,102,103,104,105,106,107,108,109,110,111,112,113,114,115,116,117,118] (fun k=>[(15, .imm ⟨(.slice (.int .i64)),(wL (a0x gg xs (p.kids.getD 0 zP)) p.cond a k:List Int)⟩)]) [1,2,4,8,13,14,15,16,119,120,121,122,123,124,125,126,127,128,129,130,131,132,133,134,135,136,137,138,139,140,141,142,143,144] (fun k=>[]) [] [] (fun k=>fun _ => .none) else .none)
abbrev d8e(gg:a0h)(xs:List a0e)(p:a0d)(a:List Int)(k1:Nat):Prop:=((k1:Int)=(k1:Int)∧(a=a∧(((a.length:Int))=((a.length:Int))∧((decide ((k1:Int)<((a.length:Int))))=(decide ((k1:Int)<((a.length:Int))))∧(gg=gg∧(xs=xs∧(p=p∧(p=p∧(p.num=p.num∧(p.num=p.num∧(a=a∧((k1:Int)=(k1:Int)∧((a.getD k1 (0:Int))=(a.getD k1 (0:Int))∧((a.getD k1 (0:Int))=(a.getD k1 (0:Int))∧((a3p gg xs p.num (a.getD k1 (0:Int)))=(a3p gg xs p.num (a.getD k1 (0:Int)))∧True)))))))))))))))
theorem g7u(n:Nat)(gg:a0h)(xs:List a0e)(p:a0d)(a:List Int):awp (a0r [b6d n,a9c,b8i,a9d,a5z,b5w] [] [] [4]) (a0j b3d) (e5l gg xs p a) 0 (a1c (a0r [b6d n,a9c,b8i,a9d,a5z,b5w] [] [] [4]) b3d fun r=>a1f r [⟨(.slice (.int .i64)),a0x gg xs p a⟩]) (a0m b3d [.val ⟨(.st .sig),gg⟩, .val ⟨(.slice (.st .premise)),xs⟩, .ref ⟨(.st .prog),p⟩, .val ⟨(.slice (.int .i64)),a⟩]) =
 ((a0c p.kind →
 (((decide (p.kind=(1:Int)))=true →
 (a.length≤1048576∧(a.length≤140737488355328 →
 a=(a0x gg xs p a))))∧((decide (p.kind=(1:Int)))=false →
 (((decide (p.kind=(2:Int)))=true →
 []=(a0x gg xs p a))∧((decide (p.kind=(2:Int)))=false →
 (((decide (p.kind=(3:Int)))=true →
 ((∃ k1:Nat,((k1≤a.length∧p.kind=3)∧((xs=xs∧(p=p∧(a=a∧(gg=gg∧(True∧([]=(a3z gg xs p.num (a.take k1))∧((0:Int)=(k1:Int)∧True)))))))∧True)))∧(∀ k1:Nat,((k1≤a.length∧p.kind=3) →
 (a0c ((a.length:Int)) →
 (((decide ((k1:Int)<((a.length:Int))))=true →
 (a0k (k1:Int) a.length∧(a0c p.num →
 (a0c (a.getD k1 (0:Int)) →
 ((a1t gg xs=true∧h3n gg p.num (a.getD k1 (0:Int))=true)∧((a3p gg xs p.num (a.getD k1 (0:Int))).length≤140737488355328 →
 ((∃ j2:Nat,(j2≤(a3p gg xs p.num (a.getD k1 0)).length∧((xs=xs∧(p=p∧(a=a∧(gg=gg∧(True∧((a3z gg xs p.num (a.take k1))=(a2l (a3z gg xs p.num (a.take k1)) ((a3p gg xs p.num (a.getD k1 0)).take j2))∧((k1:Int)=(k1:Int)∧((a3p gg xs p.num (a.getD k1 (0:Int)))=(a3p gg xs p.num (a.getD k1 (0:Int)))∧((0:Int)=(j2:Int)∧(d8e gg xs p a k1))))))))))∧True)))∧(∀ j2:Nat,(j2≤(a3p gg xs p.num (a.getD k1 0)).length →
 (a0c (((a3p gg xs p.num (a.getD k1 (0:Int))).length:Int)) →
 (((decide ((j2:Int)<(((a3p gg xs p.num (a.getD k1 (0:Int))).length:Int))))=true →
 (a0k (j2:Int) (a3p gg xs p.num (a.getD k1 (0:Int))).length∧(a0c ((a3p gg xs p.num (a.getD k1 (0:Int))).getD j2 (0:Int)) →
 ((a2l (a3z gg xs p.num (a.take k1)) ((a3p gg xs p.num (a.getD k1 0)).take j2)).length≤1048576∧((a5t ((a3p gg xs p.num (a.getD k1 (0:Int))).getD j2 (0:Int)) (a2l (a3z gg xs p.num (a.take k1)) ((a3p gg xs p.num (a.getD k1 0)).take j2))).length≤140737488355328 →
 (a0c ((j2:Int)+(1:Int))∧(∃ j3:Nat,(j3≤(a3p gg xs p.num (a.getD k1 0)).length∧((a3p gg xs p.num (a.getD k1 0)).length - j3<(a3p gg xs p.num (a.getD k1 0)).length - j2∧((xs=xs∧(p=p∧(a=a∧(gg=gg∧(True∧((a5t ((a3p gg xs p.num (a.getD k1 (0:Int))).getD j2 (0:Int)) (a2l (a3z gg xs p.num (a.take k1)) ((a3p gg xs p.num (a.getD k1 0)).take j2)))=(a2l (a3z gg xs p.num (a.take k1)) ((a3p gg xs p.num (a.getD k1 0)).take j3))∧((k1:Int)=(k1:Int)∧((a3p gg xs p.num (a.getD k1 (0:Int)))=(a3p gg xs p.num (a.getD k1 (0:Int)))∧(((j2:Int)+(1:Int))=(j3:Int)∧(d8e gg xs p a k1))))))))))∧True))))))))))∧((decide ((j2:Int)<(((a3p gg xs p.num (a.getD k1 (0:Int))).length:Int))))=false →
 (a0c ((k1:Int)+(1:Int))∧(∃ k3:Nat,((k3≤a.length∧p.kind=3)∧(a.length - k3<a.length - k1∧((xs=xs∧(p=p∧(a=a∧(gg=gg∧(True∧((a2l (a3z gg xs p.num (a.take k1)) ((a3p gg xs p.num (a.getD k1 0)).take j2))=(a3z gg xs p.num (a.take k3))∧(((k1:Int)+(1:Int))=(k3:Int)∧True)))))))∧True)))))))))))))))))∧((decide ((k1:Int)<((a.length:Int))))=false →
 (a3z gg xs p.num (a.take k1))=(a0x gg xs p a))))))))∧((decide (p.kind=(3:Int)))=false →
 (((decide (p.kind=(5:Int)))=true →
 (a0k (1:Int) p.kids.length∧(a0k (0:Int) p.kids.length∧((msz (p.kids.getD 0 zP)<n∧okL gg xs (p.kids.getD 0 zP)∧a1t gg xs=true∧a3k (a0a gg) a)∧(p.kids.length≤140737488355328 →
 (p.kids.length≤140737488355328 →
 ((a0x gg xs (p.kids.getD 0 zP) a).length≤140737488355328 →
 ((msz (p.kids.getD 1 zP)<n∧okL gg xs (p.kids.getD 1 zP)∧a1t gg xs=true∧a3k (a0a gg) (a0x gg xs (p.kids.getD 0 zP) a))∧((a0x gg xs (p.kids.getD 1 zP) (a0x gg xs (p.kids.getD 0 zP) a)).length≤140737488355328 →
 (a0x gg xs (p.kids.getD 1 zP) (a0x gg xs (p.kids.getD 0 zP) a))=(a0x gg xs p a))))))))))∧((decide (p.kind=(5:Int)))=false →
 ((a1k p.cond=true∧a.length≤1048576∧∀ i,i<a.length→0≤a.getD i 0∧a.getD i 0≤4096)∧((a2w p.cond a).length≤140737488355328 →
 ((noL p.cond a).length≤140737488355328 →
 (a0c p.kind →
 (((decide (p.kind=(4:Int)))=true →
 (a2w p.cond a)=(a0x gg xs p a))∧((decide (p.kind=(4:Int)))=false →
 (((decide (p.kind=(6:Int)))=true →
 (a0k (0:Int) p.kids.length∧(p.kids.length≤140737488355328 →
 ((msz (p.kids.getD 0 zP)<n∧okL gg xs (p.kids.getD 0 zP)∧a1t gg xs=true∧a3k (a0a gg) (a2w p.cond a))∧((a0x gg xs (p.kids.getD 0 zP) (a2w p.cond a)).length≤140737488355328 →
 (a0k (1:Int) p.kids.length∧((msz (p.kids.getD 1 zP)<n∧okL gg xs (p.kids.getD 1 zP)∧a1t gg xs=true∧a3k (a0a gg) (noL p.cond a))∧(p.kids.length≤140737488355328 →
 ((a0x gg xs (p.kids.getD 1 zP) (noL p.cond a)).length≤140737488355328 →
 (((a0x gg xs (p.kids.getD 0 zP) (a2w p.cond a)).length≤65536∧(a0x gg xs (p.kids.getD 1 zP) (noL p.cond a)).length≤65536)∧((a2l (a0x gg xs (p.kids.getD 0 zP) (a2w p.cond a)) (a0x gg xs (p.kids.getD 1 zP) (noL p.cond a))).length≤140737488355328 →
 (a2l (a0x gg xs (p.kids.getD 0 zP) (a2w p.cond a)) (a0x gg xs (p.kids.getD 1 zP) (noL p.cond a)))=(a0x gg xs p a))))))))))))∧((decide (p.kind=(6:Int)))=false →
 (a.length≤1048576∧(a.length≤140737488355328 →
 ((∃ k1:Nat,(p.kind=7∧((xs=xs∧(p=p∧(gg=gg∧(a=(wL (a0x gg xs (p.kids.getD 0 zP)) p.cond a k1)∧True))))∧True)))∧(∀ k1:Nat,(p.kind=7 →
 ((a1k p.cond=true∧(wL (a0x gg xs (p.kids.getD 0 zP)) p.cond a k1).length≤1048576∧∀ i,i<(wL (a0x gg xs (p.kids.getD 0 zP)) p.cond a k1).length→0≤(wL (a0x gg xs (p.kids.getD 0 zP)) p.cond a k1).getD i 0∧(wL (a0x gg xs (p.kids.getD 0 zP)) p.cond a k1).getD i 0≤4096)∧((a2w p.cond (wL (a0x gg xs (p.kids.getD 0 zP)) p.cond a k1)).length≤140737488355328 →
 ((noL p.cond (wL (a0x gg xs (p.kids.getD 0 zP)) p.cond a k1)).length≤140737488355328 →
 (a0k (0:Int) p.kids.length∧((msz (p.kids.getD 0 zP)<n∧okL gg xs (p.kids.getD 0 zP)∧a1t gg xs=true∧a3k (a0a gg) (a2w p.cond (wL (a0x gg xs (p.kids.getD 0 zP)) p.cond a k1)))∧(p.kids.length≤140737488355328 →
 ((a0x gg xs (p.kids.getD 0 zP) (a2w p.cond (wL (a0x gg xs (p.kids.getD 0 zP)) p.cond a k1))).length≤140737488355328 →
 (((wL (a0x gg xs (p.kids.getD 0 zP)) p.cond a k1).length≤65536∧(a0x gg xs (p.kids.getD 0 zP) (a2w p.cond (wL (a0x gg xs (p.kids.getD 0 zP)) p.cond a k1))).length≤65536)∧((a2l (wL (a0x gg xs (p.kids.getD 0 zP)) p.cond a k1) (a0x gg xs (p.kids.getD 0 zP) (a2w p.cond (wL (a0x gg xs (p.kids.getD 0 zP)) p.cond a k1)))).length≤140737488355328 →
 (a0c (((a2l (wL (a0x gg xs (p.kids.getD 0 zP)) p.cond a k1) (a0x gg xs (p.kids.getD 0 zP) (a2w p.cond (wL (a0x gg xs (p.kids.getD 0 zP)) p.cond a k1)))).length:Int)) →
 (a0c (((wL (a0x gg xs (p.kids.getD 0 zP)) p.cond a k1).length:Int)) →
 (((decide ((((a2l (wL (a0x gg xs (p.kids.getD 0 zP)) p.cond a k1) (a0x gg xs (p.kids.getD 0 zP) (a2w p.cond (wL (a0x gg xs (p.kids.getD 0 zP)) p.cond a k1)))).length:Int))=(((wL (a0x gg xs (p.kids.getD 0 zP)) p.cond a k1).length:Int))))=true →
 (noL p.cond (wL (a0x gg xs (p.kids.getD 0 zP)) p.cond a k1))=(a0x gg xs p a))∧((decide ((((a2l (wL (a0x gg xs (p.kids.getD 0 zP)) p.cond a k1) (a0x gg xs (p.kids.getD 0 zP) (a2w p.cond (wL (a0x gg xs (p.kids.getD 0 zP)) p.cond a k1)))).length:Int))=(((wL (a0x gg xs (p.kids.getD 0 zP)) p.cond a k1).length:Int))))=false →
 (∃ k2:Nat,(p.kind=7∧((a0a gg).toNat - (wL (a0x gg xs (p.kids.getD 0 zP)) p.cond a k2).length<(a0a gg).toNat - (wL (a0x gg xs (p.kids.getD 0 zP)) p.cond a k1).length∧((xs=xs∧(p=p∧(gg=gg∧((a2l (wL (a0x gg xs (p.kids.getD 0 zP)) p.cond a k1) (a0x gg xs (p.kids.getD 0 zP) (a2w p.cond (wL (a0x gg xs (p.kids.getD 0 zP)) p.cond a k1))))=(wL (a0x gg xs (p.kids.getD 0 zP)) p.cond a k2)∧True))))∧True)))))))))))))))))))))))))))))))))))))))):=by kernel_rfl
theorem g6a(n:Nat)(hE:a0o [b6d n,a9c,b8i,a9d,a5z,b5w]):Ctr.Good (b6d (n+1)):=by
 refine⟨a0l c1a rfl (by decide),?_⟩
 show ∀ (gg:a0h) (xs:List a0e) (p:a0d) (a:List Int),(msz p<n+1∧okL gg xs p∧a1t gg xs=true∧a3k (a0a gg) a)→a1e prog c3t [.val ⟨(.st .sig),gg⟩, .val ⟨(.slice (.st .premise)),xs⟩, .ref ⟨(.st .prog),p⟩, .val ⟨(.slice (.int .i64)),a⟩] (·=[⟨(.slice (.int .i64)),a0x gg xs p a⟩])
 intro gg xs p a hp
 refine a0w (wr:=[]) (cl:=[]) (ro:=[4]) hE c1a f7b (e5l gg xs p a) ?_
 rewrite [g7u n gg xs p a]
 have fg:=g6l gg hp.2.1.sig a hp.2.2.2
 have f1:=(b1x gg xs p hp.2.1 a).1
 have f2:=(b1x gg xs p hp.2.1 a).2.1
 have f3:=k3 gg xs p hp.2.1 a
 have f4:=(b1x gg xs p hp.2.1 a).2.2.2.1
 have f5:=k5 gg xs p hp.2.1 a hp.2.2.2
 have f6:=k6 gg xs p hp.2.1 a hp.2.2.2
 have fX:=kX gg xs p hp.2.1
 have n0:=h4t gg xs p.num a
 have n7:a=wL (a0x gg xs (p.kids.getD 0 zP)) p.cond a 0:=rfl
 have fy:=fun e=>k4 gg xs p hp.2.1 a hp.2.2.2 e
 refine fun a0=>⟨fun a1=>⟨?_,fun a2=>?_⟩,fun a1=>⟨fun a2=>?_,fun a2=>⟨fun a3=>⟨⟨0,⟨?_,⟨⟨rfl,⟨rfl,⟨rfl,⟨rfl,⟨trivial,⟨?_,⟨?_,trivial⟩⟩⟩⟩⟩⟩⟩,trivial⟩⟩⟩,fun k1 a4=>have b4x0:=h4s gg xs p.num a k1;have b4x1:=h5x gg xs p.num a k1;have b4x2:=(d7l gg hp.2.1.sig a hp.2.2.2).2 k1;have b4x3:=(d7l gg hp.2.1.sig _ (h1f gg xs p.num (a.getD k1 0))).1;have b4x4:=(fun (h:k1<a.length)=>i5g gg xs p hp.2.1 a4.2 (a.getD k1 0) ⟨((d7l gg hp.2.1.sig a hp.2.2.2).2 k1 h).1,((d7l gg hp.2.1.sig a hp.2.2.2).2 k1 h).2.2⟩);have b4x5:=f9q (a3z gg xs p.num (a.take k1)) (a3p gg xs p.num (a.getD k1 0));have b4x6:=k3 gg xs p hp.2.1 a a4.2;fun a5=>⟨fun a6=>⟨?_,fun a7=>fun a8=>⟨?_,fun a9=>⟨⟨0,⟨?_,⟨⟨rfl,⟨rfl,⟨rfl,⟨rfl,⟨trivial,⟨?_,⟨rfl,⟨rfl,⟨?_,⟨rfl,⟨rfl,⟨rfl,⟨rfl,⟨rfl,⟨rfl,⟨rfl,⟨rfl,⟨rfl,⟨rfl,⟨rfl,⟨rfl,⟨rfl,⟨rfl,⟨rfl,trivial⟩⟩⟩⟩⟩⟩⟩⟩⟩⟩⟩⟩⟩⟩⟩⟩⟩⟩⟩⟩⟩⟩⟩⟩,trivial⟩⟩⟩,fun j2 a10=>have b10x0:=f9p (a3z gg xs p.num (a.take k1)) (a3p gg xs p.num (a.getD k1 0)) j2;have b10x1:=g6w (a3z gg xs p.num (a.take k1)) (a3p gg xs p.num (a.getD k1 0)) j2;have b10x2:=(d7l gg hp.2.1.sig _ (g6x _ _ _ (h5y gg xs p.num (a.take k1)) (h1f gg xs p.num (a.getD k1 0)) j2)).1;fun a11=>⟨fun a12=>⟨?_,fun a13=>⟨?_,fun a14=>⟨?_,⟨j2+1,⟨?_,⟨?_,⟨⟨rfl,⟨rfl,⟨rfl,⟨rfl,⟨trivial,⟨?_,⟨rfl,⟨rfl,⟨?_,⟨rfl,⟨rfl,⟨rfl,⟨rfl,⟨rfl,⟨rfl,⟨rfl,⟨rfl,⟨rfl,⟨rfl,⟨rfl,⟨rfl,⟨rfl,⟨rfl,⟨rfl,trivial⟩⟩⟩⟩⟩⟩⟩⟩⟩⟩⟩⟩⟩⟩⟩⟩⟩⟩⟩⟩⟩⟩⟩⟩,trivial⟩⟩⟩⟩⟩⟩⟩,fun a12=>⟨?_,⟨k1+1,⟨?_,⟨?_,⟨⟨rfl,⟨rfl,⟨rfl,⟨rfl,⟨trivial,⟨?_,⟨?_,trivial⟩⟩⟩⟩⟩⟩⟩,trivial⟩⟩⟩⟩⟩⟩⟩⟩⟩,fun a6=>?_⟩⟩,fun a3=>⟨fun a4=>⟨?_,⟨?_,⟨?_,fun a5=>fun a6=>fun a7=>⟨?_,fun a8=>?_⟩⟩⟩⟩,fun a4=>⟨?_,fun a5=>fun a6=>fun a7=>⟨fun a8=>?_,fun a8=>⟨fun a9=>⟨?_,fun a10=>⟨?_,fun a11=>⟨?_,⟨?_,fun a12=>fun a13=>⟨?_,fun a14=>?_⟩⟩⟩⟩⟩,fun a9=>⟨?_,fun a10=>⟨⟨0,⟨?_,⟨⟨rfl,⟨rfl,⟨rfl,⟨?_,trivial⟩⟩⟩⟩,trivial⟩⟩⟩,fun k1 a11=>have b11x0:=(f6b gg xs p hp.2.1 a11 a hp.2.2.2 k1).2;have b11x1:=k7 gg xs p hp.2.1 a hp.2.2.2 a11 k1;have b11x2:=(g6l gg hp.2.1.sig _ (f6b gg xs p hp.2.1 a11 a hp.2.2.2 k1).1).1;have b11x3:=(g6l gg hp.2.1.sig _ (f6b gg xs p hp.2.1 a11 a hp.2.2.2 k1).1).2;⟨?_,fun a12=>fun a13=>⟨?_,⟨?_,fun a14=>fun a15=>⟨?_,fun a16=>fun a17=>fun a18=>⟨fun a19=>?_,fun a19=>⟨k1+1,⟨?_,⟨?_,⟨⟨rfl,⟨rfl,⟨rfl,⟨?_,trivial⟩⟩⟩⟩,trivial⟩⟩⟩⟩⟩⟩⟩⟩⟩⟩⟩⟩⟩⟩⟩⟩⟩⟩
 all_goals try and_intros
 all_goals first|with_reducible rfl|exact hp.2.2.1|exact hp.2.2.2|((simp only[decide_eq_true_eq,decide_eq_false_iff_not,a0k,a0c] at *)<;>(first|(replace f1:=f1 (by with_reducible assumption))|clear f1)<;>(first|(replace f2:=f2 (by with_reducible assumption))|clear f2)<;>(first|(replace f3:=f3 (by with_reducible assumption))|clear f3)<;>(first|(replace f4:=f4 (by with_reducible assumption))|clear f4)<;>(first|(replace f5:=f5 (by with_reducible assumption))|clear f5)<;>(first|(replace f6:=f6 (by with_reducible assumption))|clear f6)<;>(first|with_reducible assumption|omega|with_reducible rfl|grind))
theorem g3k :∀ n,a0o [b6d n]
 | 0=>⟨⟨a0l c1a rfl (by decide),fun _ _ _ _ h=>absurd h.1 (Nat.not_lt_zero _)⟩,trivial⟩
 | n+1=>by
  have ih:=g3k  n
  exact⟨g6a n ⟨ih.1,d7s,f7v,d7t,c9q,f3g,trivial⟩,trivial⟩
theorem d4v :Ctr.Good b0a :=
 ⟨a0l c1a rfl (by decide),fun gg xs p a hp=>(g3k  (msz p+1)).1.2 gg xs p a (⟨Nat.lt_succ_self _,hp⟩)⟩
end
end Go.Proofs.YthebhlkdppmefaaGreat

/- Weakest and strongest conditions: plain laws. Printed by vmk.py. -/
import Derived.Test.YthebhlkdppmefaaGreatVmUse
import Derived.Test.YthebhlkdppmefaaGreatVmLib
import Derived.Test.YthebhlkdppmefaaGreatVmUnder2
set_option linter.unusedVariables false
set_option linter.unusedSimpArgs false
set_option linter.unusedSectionVars false
namespace Go.Proofs.YthebhlkdppmefaaGreat
noncomputable section
theorem d0e(p:Nat→Bool):∀ n,a4n p n=true↔∀ k,k<n→p k=true
 | 0=>by simp[a4n]
 | n+1=>by
  rw[a4n,Bool.and_eq_true,d0e p n]
  constructor
  ·rintro⟨h1,h2⟩ k hk
   rcases Nat.lt_or_ge k n with q|q
   ·exact h1 k q
   ·have:k=n:=by omega
    rw[this];exact h2
  ·intro h
   exact⟨fun k hk=>h k (by omega),h n (by omega)⟩
def a9g(a b:List Int):Bool:=a0v (fun x=>decide (x∈b)) a
theorem d0n(a b:List Int):a9g a b=true↔∀ x∈a,x∈b:=by
 unfold a9g
 induction a with
 | nil=>simp[a0v]
 | cons y ys ih =>
  simp only[a0v,Bool.and_eq_true,ih,decide_eq_true_eq]
  constructor
  ·rintro⟨h1,h2⟩ x hx
   rcases List.mem_cons.1 hx with rfl|hx
   ·exact h1
   ·exact h2 x hx
  ·intro h
   exact⟨h y (by simp),fun x hx=>h x (by simp[hx])⟩
theorem h4l(gg:a0h)(xs:List a0e)(t:a1g):a9g (atN gg t.pre) (wkL (a0g (a0a gg) xs t.prog) t.post)=hoB gg xs t:=rfl
theorem d0f(gg:a0h)(c:a0b)(v:Int):v∈atN gg c↔∃ k:Nat,k<(a0a gg).toNat∧v=(k:Int)∧a1b (k:Int) c=true:=b1l _ _ _
theorem d6r(gg:a0h)(xs:List a0e)(p:a0d)(c:a0b)(h:okL gg xs p)(v:Int) :
  v∈wkL (a0g (a0a gg) xs p) c↔∃ k:Nat,k<(a0a gg).toNat∧v=(k:Int)∧∀ y:Nat,y<(a0a gg).toNat→gt2 (a0g (a0a gg) xs p) (k:Int) (y:Int)=true→a1b (y:Int) c=true:=by
 have hs:=b6t gg (a0a gg) xs p h.tree
 unfold wkL
 rw[b1l,hs.len]
 refine exists_congr fun k=>?_
 constructor
 ·rintro⟨h1,h2,h3⟩
  refine⟨h1,h2,fun y hy hg=>?_⟩
  have:=(d0e _ _).1 h3 y (by rw[hs.row k h1];exact hy)
  unfold a9h at this
  rw[hg] at this
  simpa using this
 ·rintro⟨h1,h2,h3⟩
  refine⟨h1,h2,(d0e _ _).2 fun y hy=>?_⟩
  rw[hs.row k h1] at hy
  unfold a9h
  cases hg:gt2 (a0g (a0a gg) xs p) (k:Int) (y:Int)
  ·rfl
  ·simpa using h3 y hy hg
theorem i4e(gg:a0h)(xs:List a0e)(t:a1g)(h:okL gg xs t.prog):hoB gg xs t=true ↔
  ∀ x:Nat,x<(a0a gg).toNat→a1b (x:Int) t.pre=true→∀ y:Nat,y<(a0a gg).toNat→gt2 (a0g (a0a gg) xs t.prog) (x:Int) (y:Int)=true→a1b (y:Int) t.post=true:=by
 rw[←h4l,d0n]
 constructor
 ·intro q x hx h1 y hy hg
  obtain⟨k,_,e,k2⟩:=(d6r gg xs t.prog t.post h _).1 (q (x:Int) ((d0f gg t.pre _).2 ⟨x,hx,rfl,h1⟩))
  have e:x=k:=by omega
  subst e
  exact k2 y hy hg
 ·intro q v hv
  obtain⟨x,hx,rfl,h1⟩:=(d0f gg t.pre _).1 hv
  exact (d6r gg xs t.prog t.post h _).2 ⟨x,hx,rfl,fun y hy hg=>q x hx h1 y hy hg⟩
theorem h7v(gg:a0h)(xs:List a0e)(t:a1g)(h:okL gg xs t.prog):a9g (a0y (a5u gg xs t.pre t.prog) (a0a gg).toNat) (atN gg t.post)=hoB gg xs t:=by
 rw[Bool.eq_iff_iff,d0n,i4e gg xs t h]
 constructor
 ·intro q x hx h1 y hy hg
  have hm:(y:Int)∈a0y (a5u gg xs t.pre t.prog) (a0a gg).toNat:=(b1l _ _ _).2 ⟨y,hy,rfl,List.any_eq_true.2 ⟨(x:Int),(d0f gg t.pre _).2 ⟨x,hx,rfl,h1⟩,hg⟩⟩
  obtain⟨k,_,e,k2⟩:=(d0f gg t.post _).1 (q _ hm)
  have e:y=k:=by omega
  subst e
  exact k2
 ·intro q v hv
  obtain⟨y,hy,rfl,h1⟩:=(b1l _ _ _).1 hv
  obtain⟨z,hz,hg⟩:=List.any_eq_true.1 h1
  obtain⟨x,hx,rfl,h2⟩:=(d0f gg t.pre _).1 hz
  exact (d0f gg t.post _).2 ⟨y,hy,rfl,q x hx h2 y hy hg⟩
theorem h9r(n:Int)(xs:List a0e)(m:Int)(z:a0b)(p q:a0d):a0g n xs (a0d.mk 5 m z [p,q])=b9d (a0g n xs p) (a0g n xs q):=by
 simp[a0g,a1u,b0g]
theorem i5b(gg:a0h)(xs:List a0e)(m:Int)(z:a0b)(p q:a0d)(c w:a0b)(hp:okL gg xs p)(hq:okL gg xs q)(h:okL gg xs (a0d.mk 5 m z [p,q]))
  (hw:∀ y:Nat,y<(a0a gg).toNat→(a1b (y:Int) w=true↔(y:Int)∈wkL (a0g (a0a gg) xs q) c)) (v:Int) :
  v∈wkL (a0g (a0a gg) xs (a0d.mk 5 m z [p,q])) c↔v∈wkL (a0g (a0a gg) xs p) w:=by
 have sp:=b6t gg (a0a gg) xs p hp.tree
 have sq:=b6t gg (a0a gg) xs q hq.tree
 rw[d6r gg xs _ c h,d6r gg xs p w hp]
 refine exists_congr fun x=>and_congr_right fun hx=>and_congr_right fun _=>?_
 have hc:∀ y:Nat,y<(a0a gg).toNat→(gt2 (a0g (a0a gg) xs (a0d.mk 5 m z [p,q])) (x:Int) (y:Int)=true↔∃ k:Nat,k<(a0a gg).toNat∧gt2 (a0g (a0a gg) xs p) (x:Int) (k:Int)=true∧gt2 (a0g (a0a gg) xs q) (k:Int) (y:Int)=true):=fun y hy=>by
  rw[h9r,e7b (a0a gg).toNat _ _ sp sq (x:Int) (y:Int) ⟨by omega,by omega⟩ ⟨by omega,by omega⟩,a5n]
  simp only[b4i,Bool.and_eq_true]
 constructor
 ·intro g k hk hg
  rw[hw k hk,d6r gg xs q c hq]
  exact⟨k,hk,rfl,fun y hy hy2=>g y hy ((hc y hy).2 ⟨k,hk,hg,hy2⟩)⟩
 ·intro g y hy hg
  obtain⟨k,hk,h1,h2⟩:=(hc y hy).1 hg
  have:=(hw k hk).1 (g k hk h1)
  obtain⟨k',_,e,h3⟩:=(d6r gg xs q c hq _).1 this
  have e:k=k':=by omega
  subst e
  exact h3 y hy h2
end
end Go.Proofs.YthebhlkdppmefaaGreat

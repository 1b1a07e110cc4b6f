/- What lies behind the allowed words: the reference walks the same relation. Printed by vmk.py. -/
import Derived.Test.YthebhlkdppmefaaGreatVmUse
import Derived.Test.YthebhlkdppmefaaGreatVmLib
import Derived.Test.YthebhlkdppmefaaGreatVmAllows
import Derived.Test.YthebhlkdppmefaaGreatVmProg
import Derived.Test.YthebhlkdppmefaaGreatVmLeads2
import Derived.Test.YthebhlkdppmefaaGreatVmLeads3
import Derived.Test.YthebhlkdppmefaaGreatVmFrom2
set_option linter.unusedVariables false
set_option linter.unusedSimpArgs false
set_option linter.unusedSectionVars false
namespace Go.Proofs.YthebhlkdppmefaaGreat
noncomputable section
theorem g9l(p q:Nat→Bool):∀ n,(∀ k,k<n→p k=true→q k=true)→(a0y p n).length≤(a0y q n).length∧((a0y p n).length=(a0y q n).length→∀ k,k<n→p k=q k)
 | 0,_=>⟨Nat.le_refl _,fun _ k h=>by omega⟩
 | n+1,h=>by
  obtain⟨h1,h2⟩:=g9l p q n fun k hk=>h k (by omega)
  have h3:=h n (by omega)
  simp only[a0y,List.length_append]
  cases e1:p n<;>cases e2:q n
  ·refine⟨by simpa using h1,fun he k hk=>?_⟩
   rcases Nat.lt_or_ge k n with hk'|hk'
   ·exact h2 (by simpa using he) k hk'
   ·have:k=n:=by omega
    subst this;rw[e1,e2]
  ·refine⟨by simp;omega,fun he=>?_⟩
   simp at he;omega
  ·rw[e1,e2] at h3;simp at h3
  ·refine⟨by simpa using h1,fun he k hk=>?_⟩
   rcases Nat.lt_or_ge k n with hk'|hk'
   ·exact h2 (by simpa using he) k hk'
   ·have:k=n:=by omega
    subst this;rw[e1,e2]
theorem f9z(p:Nat→Bool)(q:Int→Bool):∀ n,(a0y p n).any q=a4w (fun k=>p k&&q (k:Int)) n
 | 0=>rfl
 | n+1=>by
  rw[a0y,List.any_append,f9z p q n,a4w]
  cases p n<;>simp
theorem b4n{a b:Bool}(h:a=true↔b=true):a=b:=by
 cases a<;>cases b<;>simp at h ⊢
def c6j(n:Nat)(st:Nat→Nat→Bool):Nat→Nat→Nat→Bool
 | 0,x,y=>decide (x=y)
 | j+1,x,y=>c6j n st j x y||a4w (fun z=>c6j n st j x z&&st z y) n
def wpR(n:Nat)(st:Nat→Nat→Bool)(s:Nat→Bool)(k y:Nat):Bool:=a4w (fun x=>s x&&c6j n st k x y) n
section
variable (n:Nat) (st:Nat→Nat→Bool) (s:Nat→Bool)
theorem i3i(y:Nat)(hy:y<n):wpR n st s 0 y=s y:=by
 apply b4n
 simp only[wpR,c6j,a5n,Bool.and_eq_true,decide_eq_true_eq]
 constructor
 ·rintro⟨x,_,h,rfl⟩;exact h
 ·intro h;exact⟨y,hy,h,rfl⟩
theorem e9c(k y:Nat):wpR n st s (k+1) y=(wpR n st s k y||a4w (fun z=>wpR n st s k z&&st z y) n):=by
 apply b4n
 simp only[wpR,c6j,a5n,Bool.and_eq_true,Bool.or_eq_true]
 constructor
 ·rintro⟨x,hx,h1,h2|⟨z,hz,h2,h3⟩⟩
  ·exact .inl ⟨x,hx,h1,h2⟩
  ·exact .inr ⟨z,hz,⟨x,hx,h1,h2⟩,h3⟩
 ·rintro (⟨x,hx,h1,h2⟩|⟨z,hz,⟨x,hx,h1,h2⟩,h3⟩)
  ·exact⟨x,hx,h1, .inl h2⟩
  ·exact⟨x,hx,h1, .inr ⟨z,hz,h2,h3⟩⟩
theorem i0y(k y:Nat)(h:wpR n st s k y=true):wpR n st s (k+1) y=true:=by rw[e9c,h];rfl
theorem g2z(k:Nat)(h:∀ y,y<n→wpR n st s (k+1) y=wpR n st s k y):∀ m y,y<n→wpR n st s (k+m) y=wpR n st s k y
 | 0,y,_=>rfl
 | m+1,y,hy=>by
  have e:a4w (fun z=>wpR n st s (k+m) z&&st z y) n=a4w (fun z=>wpR n st s k z&&st z y) n:=c2x _ _ _ fun z hz=>by rw[g2z k h m z hz]
  rw[Nat.add_succ,e9c,g2z k h m y hy,e,←e9c]
  exact h y hy
def wpS(k:Nat):List Int:=a0y (wpR n st s k) n
theorem g3b(k:Nat)(h:(wpS n st s (k+1)).length=(wpS n st s k).length)(m y:Nat)(hm:k≤m)(hy:y<n):wpR n st s m y=wpR n st s k y:=by
 have:=g2z n st s k (fun y hy=>((g9l _ _ n fun z _ hz=>i0y n st s k z hz).2 h.symm y hy).symm) (m - k) y hy
 rwa [show k+(m - k)=m by omega] at this
theorem g3a(k:Nat):(wpS n st s k).length≤n∧(wpS n st s k).length≤(wpS n st s (k+1)).length :=
 ⟨a6b _ _,(g9l _ _ n fun z _ hz=>i0y n st s k z hz).1⟩
theorem h5n:∀ k,(∃ j,j<k∧(wpS n st s (j+1)).length=(wpS n st s j).length)∨k≤(wpS n st s k).length
 | 0 => .inr (Nat.zero_le _)
 | k+1=>by
  rcases h5n k with ⟨j,h1,h2⟩|h
  ·exact .inl ⟨j,by omega,h2⟩
  ·have:=(g3a n st s k).2
   by_cases e:(wpS n st s (k+1)).length=(wpS n st s k).length
   ·exact .inl ⟨k,by omega,e⟩
   ·exact .inr (by omega)
theorem h7a(m y:Nat)(hm:n≤m)(hy:y<n):wpR n st s m y=wpR n st s n y:=by
 rcases h5n n st s (n+1) with ⟨j,h1,h2⟩|h
 ·rw[g3b n st s j h2 m y (by omega) hy,g3b n st s j h2 n y (by omega) hy]
 ·have:=(g3a n st s (n+1)).1
  omega
theorem i2w(i j x y:Nat)(hx:x<n)(hy:y<n):c6j n st (i+j) x y=a4w (fun z=>c6j n st i x z&&c6j n st j z y) n:=by
 induction j generalizing y with
 | zero =>
  apply b4n
  simp only[Nat.add_zero,c6j,a5n,Bool.and_eq_true,decide_eq_true_eq]
  constructor
  ·intro h;exact⟨y,hy,h,rfl⟩
  ·rintro⟨z,_,h,rfl⟩;exact h
 | succ j ih =>
  apply b4n
  rw[←Nat.add_assoc,c6j,ih y hy]
  simp only[c6j,a5n,Bool.and_eq_true,Bool.or_eq_true]
  constructor
  ·rintro (⟨z,hz,h1,h2⟩|⟨z,hz,h1,h2⟩)
   ·exact⟨z,hz,h1, .inl h2⟩
   ·rw[ih z hz,a5n] at h1
    obtain⟨v,hv,h3⟩:=h1
    simp only[Bool.and_eq_true] at h3
    exact⟨v,hv,h3.1, .inr ⟨z,hz,h3.2,h2⟩⟩
  ·rintro⟨v,hv,h1,h2|⟨z,hz,h2,h3⟩⟩
   ·exact .inl ⟨v,hv,h1,h2⟩
   ·refine .inr ⟨z,hz,?_,h3⟩
    rw[ih z hz,a5n]
    exact⟨v,hv,by simp[h1,h2]⟩
end
def a3z(gg:a0h)(xs:List a0e)(act:Int)(al:List Int):List Int:=al.foldl (fun o x=>a2l o (a3p gg xs act x)) []
def wL(f:List Int→List Int)(c:a0b)(a:List Int):Nat→List Int
 | 0=>a
 | k+1=>a2l (wL f c a k) (f (a2w c (wL f c a k)))
def b5m(gg:a0h)(xs:List a0e)(p:a0d)(fs:List (List Int→List Int))(a:List Int):List Int :=
 if p.kind=1 then a else if p.kind=2 then [] else if p.kind=3 then a3z gg xs p.num a
 else if p.kind=5 then (fs.getD 1 id) ((fs.getD 0 id) a) else if p.kind=4 then a2w p.cond a
 else if p.kind=6 then a2l ((fs.getD 0 id) (a2w p.cond a)) ((fs.getD 1 id) (noL p.cond a))
 else noL p.cond (wL (fs.getD 0 id) p.cond a (a0a gg).toNat)
mutual
def a0x(gg:a0h)(xs:List a0e):a0d→List Int→List Int
 | ⟨k,m,c,ks⟩=>b5m gg xs ⟨k,m,c,ks⟩ (d7o gg xs ks)
def d7o(gg:a0h)(xs:List a0e):List a0d→List (List Int→List Int)
 | []=>[]
 | p::ps=>a0x gg xs p::d7o gg xs ps
end
theorem i1s(gg:a0h)(xs:List a0e)(p:a0d):a0x gg xs p=b5m gg xs p (d7o gg xs p.kids):=by cases p;rfl
theorem c0i(gg:a0h)(xs:List a0e)(z:a0d):∀ (ps:List a0d) (i:Nat),i<ps.length→(d7o gg xs ps).getD i id=a0x gg xs (ps.getD i z)
 | [],i,h=>by simp at h
 | p::ps,0,h=>rfl
 | p::ps,i+1,h=>by
  have:=c0i gg xs z ps i (by simpa using h)
  simpa [d7o] using this
theorem h1e(gg:a0h)(xs:List a0e)(act x:Int):a3p gg xs act x=a0y (fun y=>a6w xs act x (y:Int)) (a0a gg).toNat:=by
 unfold a3p
 generalize (a0a gg).toNat=n
 induction n with
 | zero=>rfl
 | succ n ih=>rw[b0i,a0y,ih]
theorem i3l(n:Int)(q:Int→Nat→Bool):∀ (al:List Int) (p:Nat→Bool),al.foldl (fun o x=>a2l o (a0y (q x) n.toNat)) (a0y p n.toNat)=a0y (fun y=>p y||al.any fun x=>q x y) n.toNat
 | [],p=>a3f _ _ _ fun k _=>by simp
 | x::al,p=>by
  rw[List.foldl_cons,f5e,i3l n q al]
  exact a3f _ _ _ fun k _=>by simp[Bool.or_assoc]
theorem f9g(gg:a0h)(xs:List a0e)(act:Int)(al:List Int):a3z gg xs act al=a0y (fun y=>al.any fun x=>a6w xs act x (y:Int)) (a0a gg).toNat:=by
 unfold a3z
 simp only[h1e]
 have h:=i3l (a0a gg) (fun x y=>a6w xs act x (y:Int)) al (fun _=>false)
 have e:a0y (fun _=>false) (a0a gg).toNat=[]:=by
  generalize (a0a gg).toNat=n
  induction n with
  | zero=>rfl
  | succ n ih=>simp[a0y,ih]
 rw[e] at h
 rw[h]
 exact a3f _ _ _ fun k _=>by simp
theorem g6k(n:Nat):a0y (fun _=>false) n=[]:=by
 induction n with
 | zero=>rfl
 | succ n ih=>simp[a0y,ih]
def stB(c:a0b)(t:List (List Bool))(x y:Nat):Bool:=a1b (x:Int) c&&gt2 t (x:Int) (y:Int)
theorem h5l(n:Int)(f:List Int→List Int)(c:a0b)(t:List (List Bool))(hf:∀ s,f (a0y s n.toNat)=a0y (fun y=>a4w (fun x=>s x&&gt2 t (x:Int) (y:Int)) n.toNat) n.toNat)(s:Nat→Bool) :
  ∀ k,wL f c (a0y s n.toNat) k=wpS n.toNat (stB c t) s k
 | 0=>a3f _ _ _ fun y hy=>(i3i _ _ _ y hy).symm
 | k+1=>by
  rw[wL,h5l n f c t hf s k,wpS,e6o,hf,f5e]
  exact a3f _ _ _ fun y _=>by
   rw[e9c]
   congr 1
   exact c2x _ _ _ fun z _=>by simp[stB,Bool.and_assoc]
theorem g9j(N:Nat)(st:Nat→Nat→Bool)(t:List (List Bool))(hs:sqT N t)(h:∀ x y:Nat,x<N→y<N→gt2 t (x:Int) (y:Int)=c6j N st 1 x y):∀ k x y,x<N→y<N→gt2 (a8r t k) (x:Int) (y:Int)=c6j N st (2 ^ k) x y
 | 0,x,y,hx,hy=>h x y hx hy
 | k+1,x,y,hx,hy=>by
  have h1:=g9i N t hs k
  rw[a8r,e7b N _ _ h1 h1 _ _ (by omega) (by omega),Nat.pow_succ,Nat.mul_two,i2w N st _ _ x y hx hy]
  exact c2x _ _ _ fun z hz=>by rw[b4i,g9j N st t hs h k x z hx hz,g9j N st t hs h k z y hz hy]
theorem h9p(gg:a0h)(p:a0d)(h:b5p gg p=true):p.kind=1∨p.kind=2∨p.kind=3∨p.kind=4∨p.kind=5∨p.kind=6∨p.kind=7:=by
 rw[b9g] at h
 simp only[Bool.and_eq_true,decide_eq_true_eq] at h
 have h1:=h.1.1
 unfold a1x at h1
 repeat' split at h1
 all_goals omega
def g3e(gg:a0h)(xs:List a0e)(f:List Int→List Int)(t:List (List Bool)):Prop:=∀ s:Nat→Bool,f (a0y s (a0a gg).toNat)=a0y (fun y=>a4w (fun x=>s x&&gt2 t (x:Int) (y:Int)) (a0a gg).toNat) (a0a gg).toNat
theorem h5u(gg:a0h)(xs:List a0e)(p:a0d)(fs:List (List Int→List Int))(ts:List (List (List Bool)))(hn:1≤a0a gg)(hp:b5p gg p=true)
  (hk:∀ i,i<p.kids.length→g3e gg xs (fs.getD i id) (ts.getD i [])∧sqT (a0a gg).toNat (ts.getD i [])):g3e gg xs (b5m gg xs p fs) (b0g (a0a gg) xs p ts):=by
 intro s
 have hN:∀ x:Nat,x<(a0a gg).toNat→(0:Int)≤(x:Int)∧(x:Int)<a0a gg:=fun x hx=>by omega
 have hkids:=b9h gg p hp
 rcases h9p gg p hp with e|e|e|e|e|e|e
 ·rw[b5m,if_pos e]
  refine a3f _ _ _ fun y hy=>b4n ?_
  rw[a5n]
  constructor
  ·intro h
   refine⟨y,hy,?_⟩
   rw[b0g,if_neg (by omega),if_neg (by omega),if_neg (by omega),b3j _ _ _ _ (hN y hy) (hN y hy),a9n,if_pos e]
   simp[h]
  ·rintro⟨x,hx,h⟩
   rw[b0g,if_neg (by omega),if_neg (by omega),if_neg (by omega),b3j _ _ _ _ (hN x hx) (hN y hy),a9n,if_pos e] at h
   simp only[Bool.and_eq_true,decide_eq_true_eq] at h
   have:x=y:=by omega
   rw[←this];exact h.1
 ·rw[b5m,if_neg (by omega),if_pos e,←g6k (a0a gg).toNat]
  refine a3f _ _ _ fun y hy=>b4n ?_
  rw[a5n]
  constructor
  ·intro h;cases h
  ·rintro⟨x,hx,h⟩
   rw[b0g,if_neg (by omega),if_neg (by omega),if_neg (by omega),b3j _ _ _ _ (hN x hx) (hN y hy),a9n,if_neg (by omega),if_neg (by omega),if_neg (by omega)] at h
   simp at h
 ·rw[b5m,if_neg (by omega),if_neg (by omega),if_pos e,f9g]
  refine a3f _ _ _ fun y hy=>?_
  rw[f9z]
  refine c2x _ _ _ fun x hx=>?_
  rw[b0g,if_pos e,b3j _ _ _ _ (hN x hx) (hN y hy),f9u]
 ·rw[b5m,if_neg (by omega),if_neg (by omega),if_neg (by omega),if_neg (by omega),if_pos e,e6o]
  refine a3f _ _ _ fun y hy=>b4n ?_
  rw[a5n]
  constructor
  ·intro h
   simp only[Bool.and_eq_true] at h
   refine⟨y,hy,?_⟩
   rw[b0g,if_neg (by omega),if_neg (by omega),if_neg (by omega),b3j _ _ _ _ (hN y hy) (hN y hy),a9n,if_neg (by omega),if_pos e]
   simp[h]
  ·rintro⟨x,hx,h⟩
   rw[b0g,if_neg (by omega),if_neg (by omega),if_neg (by omega),b3j _ _ _ _ (hN x hx) (hN y hy),a9n,if_neg (by omega),if_pos e] at h
   simp only[Bool.and_eq_true,decide_eq_true_eq] at h ⊢
   have:x=y:=by omega
   rw[←this];exact⟨h.1,h.2.2⟩
 ·have h2:=hkids.1 (.inl e)
  obtain⟨h3,s0⟩:=hk 0 (by omega)
  obtain⟨h4,s1⟩:=hk 1 (by omega)
  rw[b5m,if_neg (by omega),if_neg (by omega),if_neg (by omega),if_pos e,h3 s,h4]
  refine a3f _ _ _ fun y hy=>b4n ?_
  simp only[a5n,Bool.and_eq_true]
  constructor
  ·rintro⟨z,hz,⟨x,hx,h5,h6⟩,h7⟩
   refine⟨x,hx,h5,?_⟩
   rw[b0g,if_neg (by omega),if_pos e,e7b _ _ _ s0 s1 _ _ (by omega) (by omega),a5n]
   exact⟨z,hz,by rw[b4i,h6,h7];rfl⟩
  ·rintro⟨x,hx,h5,h6⟩
   rw[b0g,if_neg (by omega),if_pos e,e7b _ _ _ s0 s1 _ _ (by omega) (by omega),a5n] at h6
   obtain⟨z,hz,h7⟩:=h6
   rw[b4i,Bool.and_eq_true] at h7
   exact⟨z,hz,⟨x,hx,h5,h7.1⟩,h7.2⟩
 ·have h2:=hkids.1 (.inr e)
  obtain⟨h3,s0⟩:=hk 0 (by omega)
  obtain⟨h4,s1⟩:=hk 1 (by omega)
  rw[b5m,if_neg (by omega),if_neg (by omega),if_neg (by omega),if_neg (by omega),if_neg (by omega),if_pos e,e6o,f4i,h3,h4,f5e]
  refine a3f _ _ _ fun y hy=>b4n ?_
  simp only[a5n,Bool.and_eq_true,Bool.or_eq_true]
  have key:∀ x,x<(a0a gg).toNat→gt2 (b0g (a0a gg) xs p ts) (x:Int) (y:Int)=if a1b (x:Int) p.cond=true then gt2 (ts.getD 0 []) (x:Int) (y:Int) else gt2 (ts.getD 1 []) (x:Int) (y:Int):=fun x hx=>by
   rw[b0g,if_neg (by omega),if_neg (by omega),if_neg (by omega),b3j _ _ _ _ (hN x hx) (hN y hy),a9n,if_neg (by omega),if_neg (by omega),if_pos e]
  constructor
  ·rintro (⟨x,hx,⟨h5,h6⟩,h7⟩|⟨x,hx,⟨h5,h6⟩,h7⟩)
   ·exact⟨x,hx,h5,by rw[key x hx,if_pos h6];exact h7⟩
   ·exact⟨x,hx,h5,by rw[key x hx,if_neg (by simpa using h6)];exact h7⟩
  ·rintro⟨x,hx,h5,h6⟩
   rw[key x hx] at h6
   by_cases hc:a1b (x:Int) p.cond=true
   ·rw[if_pos hc] at h6;exact .inl ⟨x,hx,⟨h5,hc⟩,h6⟩
   ·rw[if_neg hc] at h6;exact .inr ⟨x,hx,⟨h5,by simpa using hc⟩,h6⟩
 ·have h2:=hkids.2 e
  obtain⟨h3,s0⟩:=hk 0 (by omega)
  rw[b5m,if_neg (by omega),if_neg (by omega),if_neg (by omega),if_neg (by omega),if_neg (by omega),if_neg (by omega),h5l (a0a gg) _ p.cond (ts.getD 0 []) h3 s,wpS,f4i]
  refine a3f _ _ _ fun y hy=>?_
  have hw:∀ x y:Nat,x<(a0a gg).toNat→y<(a0a gg).toNat→gt2 (a7f (a0a gg) (a4r p ts)) (x:Int) (y:Int)=c6j (a0a gg).toNat (stB p.cond (ts.getD 0 [])) 1 x y:=fun x y hx hy=>by
   rw[b3j _ _ _ _ (hN x hx) (hN y hy),f9w]
   refine b4n ?_
   simp only[c6j,a5n,Bool.or_eq_true,Bool.and_eq_true,decide_eq_true_eq]
   constructor
   ·rintro (h|h)
    ·exact .inl (by omega)
    ·exact .inr ⟨x,hx,rfl,by rw[stB,h.1,h.2];rfl⟩
   ·rintro (h|⟨z,_,rfl,h⟩)
    ·exact .inl (by omega)
    ·rw[stB,Bool.and_eq_true] at h;exact .inr h
  have hp2:=g9j _ _ _ (d6q (a0a gg) (a4r p ts)) hw (a0a gg).toNat
  rw[←h7a _ _ _ (2 ^ (a0a gg).toNat) y (Nat.le_of_lt Nat.lt_two_pow_self) hy]
  refine b4n ?_
  simp only[wpR,a5n,Bool.and_eq_true]
  constructor
  ·rintro⟨⟨x,hx,h5,h6⟩,h7⟩
   refine⟨x,hx,h5,?_⟩
   rw[b0g,if_neg (by omega),if_neg (by omega),if_pos e,b3j _ _ _ _ (hN x hx) (hN y hy),d6s,hp2 x y hx hy,h6,h7];rfl
  ·rintro⟨x,hx,h5,h6⟩
   rw[b0g,if_neg (by omega),if_neg (by omega),if_pos e,b3j _ _ _ _ (hN x hx) (hN y hy),d6s,hp2 x y hx hy,Bool.and_eq_true] at h6
   exact⟨⟨x,hx,h5,h6.1⟩,h6.2⟩
mutual
theorem e2l(gg:a0h)(xs:List a0e)(hn:1≤a0a gg):∀ p:a0d,a2g gg p=true→g3e gg xs (a0x gg xs p) (a0g (a0a gg) xs p)
 | ⟨k,m,c,ks⟩=>fun h=>by
  rw[a7g,Bool.and_eq_true] at h
  rw[a0x,a0g]
  exact h5u gg xs ⟨k,m,c,ks⟩ _ _ hn h.1 fun i hi=>⟨f2w gg xs hn ks h.2 i hi,b8v gg (a0a gg) xs ks h.2 i hi⟩
theorem f2w(gg:a0h)(xs:List a0e)(hn:1≤a0a gg):∀ ps:List a0d,a0v (a2g gg) ps=true→∀ i,i<ps.length→g3e gg xs ((d7o gg xs ps).getD i id) ((a1u (a0a gg) xs ps).getD i [])
 | []=>fun _ i h=>by simp at h
 | p::ps=>fun h i hi=>by
  simp only[a0v,Bool.and_eq_true] at h
  cases i with
  | zero=>exact e2l gg xs hn p h.1
  | succ i =>
   have:=f2w gg xs hn ps h.2 i (by simpa using hi)
   simpa [d7o,a1u] using this
end
theorem e0l(gg:a0h)(xs:List a0e)(p:a0d)(h:okL gg xs p)(a:List Int)(ha:a3k (a0a gg) a) :
  a0x gg xs p a=a0y (fun y=>a4w (fun x=>c4p a x&&gt2 (a0g (a0a gg) xs p) (x:Int) (y:Int)) (a0a gg).toNat) (a0a gg).toNat:=by
 have:=e2l gg xs (a5w gg h.sig).2.1 p h.tree (c4p a)
 rwa [←ha.eq] at this
theorem e0m(gg:a0h)(xs:List a0e)(p:a0d)(h:okL gg xs p)(a:List Int)(ha:a3k (a0a gg) a):a3k (a0a gg) (a0x gg xs p a):=by
 rw[e0l gg xs p h a ha]
 exact b1y _ _
end
end Go.Proofs.YthebhlkdppmefaaGreat

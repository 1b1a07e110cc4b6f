/- Leads, Leads2. -/
import Derived.Test.YthebhlkdppmefaaGreatVmUse
import Derived.Test.YthebhlkdppmefaaGreatVmLib
import Derived.Test.YthebhlkdppmefaaGreatVmAllows
import Derived.Test.YthebhlkdppmefaaGreatVmProg
set_option linter.unusedVariables false
set_option linter.unusedSimpArgs false
set_option linter.unusedSectionVars false
set_option maxRecDepth 4000
set_option maxHeartbeats 4000000
namespace Go.Proofs.YthebhlkdppmefaaGreat
noncomputable section
def f4a{α:Type}(f:Nat→α):Nat→List α
 | 0=>[]
 | n+1=>f4a f n++[f n]
theorem d0p{α:Type}(f:Nat→α):∀ n,(f4a f n).length=n
 | 0=>rfl
 | n+1=>by simp[f4a,d0p f n]
theorem e1r{α:Type}(f:Nat→α)(d:α):∀ (n k:Nat),k<n→(f4a f n).getD k d=f k
 | n+1,k,h=>by
  rcases Nat.lt_or_ge k n with h'|h'
  ·have:=e1r f d n k h'
   simp only[f4a,List.getD_eq_getElem?_getD] at this ⊢
   rw[List.getElem?_append_left (by rw[d0p];exact h')]
   exact this
  ·have:k=n:=by omega
   subst this
   simp only[f4a,List.getD_eq_getElem?_getD]
   rw[List.getElem?_append_right (by rw[d0p];omega),d0p]
   simp
def a0y(p:Nat→Bool):Nat→List Int
 | 0=>[]
 | n+1=>a0y p n++(bif p n then [(n:Int)] else [])
theorem i0o(p:Nat→Bool):a0y p 0=[]:=rfl
theorem c9d(p:Nat→Bool)(n:Nat)(h:p n=true):a0y p n++[(n:Int)]=a0y p (n+1):=by simp[a0y,h]
theorem c9c(p:Nat→Bool)(n:Nat)(h:p n=false):a0y p n=a0y p (n+1):=by simp[a0y,h]
theorem a6b(p:Nat→Bool):∀ n,(a0y p n).length≤n
 | 0=>Nat.le_refl _
 | n+1=>by
  have:=a6b p n
  simp only[a0y,List.length_append]
  cases p n<;>simp<;>omega
theorem a3f(p q:Nat→Bool):∀ n,(∀ k,k<n→p k=q k)→a0y p n=a0y q n
 | 0,_=>rfl
 | n+1,h=>by rw[a0y,a0y,a3f p q n fun k hk=>h k (by omega),h n (by omega)]
def a4w(p:Nat→Bool):Nat→Bool
 | 0=>false
 | n+1=>a4w p n||p n
theorem h8t(p:Nat→Bool):a4w p 0=false:=rfl
theorem h8s(p:Nat→Bool)(n:Nat):a4w p (n+1)=(a4w p n||p n):=rfl
theorem h0m(p:Nat→Bool):∀ (n k:Nat),k<n→p k=true→a4w p n=true
 | n+1,k,h,e=>by
  rcases Nat.lt_or_ge k n with h'|h'
  ·simp[a4w,h0m p n k h' e]
  ·have:k=n:=by omega
   subst this;simp[a4w,e]
theorem a5n(p:Nat→Bool):∀ n,a4w p n=true↔∃ k,k<n∧p k=true
 | 0=>by simp[a4w]
 | n+1=>by
  simp only[a4w,Bool.or_eq_true,a5n p n]
  constructor
  ·rintro (⟨k,h,e⟩|e)
   ·exact⟨k,by omega,e⟩
   ·exact⟨n,by omega,e⟩
  ·rintro⟨k,h,e⟩
   rcases Nat.lt_or_ge k n with h'|h'
   ·exact .inl ⟨k,h',e⟩
   ·have:k=n:=by omega
    subst this;exact .inr e
theorem c2x(p q:Nat→Bool):∀ n,(∀ k,k<n→p k=q k)→a4w p n=a4w q n
 | 0,_=>rfl
 | n+1,h=>by rw[a4w,a4w,c2x p q n fun k hk=>h k (by omega),h n (by omega)]
def gt2(t:List (List Bool))(x y:Int):Bool:=(t.getD x.toNat []).getD y.toNat false
structure sqT(n:Nat)(t:List (List Bool)):Prop where
 len:t.length=n
 row:∀ i,i<n→(t.getD i []).length=n
def d3j(n:Int)(F:Int→Int→Prop×Bool):Prop:=∀ x y:Int,0≤x→x<n→0≤y→y<n→(F x y).1
def c8z(F:Int→Int→Prop×Bool)(x:Int)(k:Nat):List Bool:=f4a (fun y=>(F x (y:Int)).2) k
def c0q(n:Int)(F:Int→Int→Prop×Bool)(k:Nat):List (List Bool):=f4a (fun x=>c8z F (x:Int) n.toNat) k
def a7f(n:Int)(F:Int→Int→Prop×Bool):List (List Bool):=c0q n F n.toNat
theorem i0l(F:Int→Int→Prop×Bool)(x:Int):[]=c8z F x 0:=rfl
theorem i0k(F:Int→Int→Prop×Bool)(x:Int)(k:Nat):c8z F x k++[(F x (k:Int)).2]=c8z F x (k+1):=rfl
theorem h5d(F:Int→Int→Prop×Bool)(x:Int)(k:Nat):(c8z F x k).length=k:=d0p _ k
theorem i0w(n:Int)(F:Int→Int→Prop×Bool):[]=c0q n F 0:=rfl
theorem i0v(n:Int)(F:Int→Int→Prop×Bool)(k:Nat):c0q n F k++[c8z F (k:Int) n.toNat]=c0q n F (k+1):=rfl
theorem h5h(n:Int)(F:Int→Int→Prop×Bool)(k:Nat):(c0q n F k).length=k:=d0p _ k
theorem i4x(n:Int)(F:Int→Int→Prop×Bool)(k:Nat)(h1:n≤(k:Int))(h2:k≤n.toNat):c0q n F k=a7f n F:=by
 have:k=n.toNat:=by omega
 rw[this];rfl
theorem d6q(n:Int)(F:Int→Int→Prop×Bool):sqT n.toNat (a7f n F):=by
 refine⟨h5h n F _,fun i hi=>?_⟩
 unfold a7f c0q
 rw[e1r _ _ _ _ hi]
 exact h5d F _ _
theorem b3j(n:Int)(F:Int→Int→Prop×Bool)(x y:Int)(hx:0≤x∧x<n)(hy:0≤y∧y<n):gt2 (a7f n F) x y=(F x y).2:=by
 unfold gt2 a7f c0q
 rw[e1r _ _ _ _ (by omega)]
 unfold c8z
 rw[e1r _ _ _ _ (by omega),Int.toNat_of_nonneg hx.1,Int.toNat_of_nonneg hy.1]
def a5l:Ctr:=⟨c4r,[.v (.int .i64), .c [(.int .i64),(.int .i64)] .bool],fun (n:Int) (F:Int→Int→Prop×Bool)=>⟨(some (0≤n∧n≤4096∧d3j n F),[⟨(.slice (.slice .bool)),a7f n F⟩])⟩⟩
def d5m(n:Int)(F:Int→Int→Prop×Bool):Nat→a0p:=(fun zb=>if Nat.beq zb 0 then .mk (Nat) (fun k=>k≤n.toNat) (fun k=>n.toNat - k) [] [2,3,9] (fun k=>[(11, .imm ⟨(.int .i64),((k:Int):Int)⟩),(5, .row 9)]) [0,1,4,5,6,7,8,10,11,12,13,14,15,16,17,18,19,20,21,22,23,24,25,26,27,28,29,30,31,32] (fun k=>[(9, .row i1f (.slice .bool) (c0q n F k:List (List Bool)))]) [] [] (fun k=>(fun zb=>if Nat.beq zb 2 then .mk (Nat) (fun j=>j≤n.toNat) (fun j=>n.toNat - j) [] [2,3,9,14] (fun j=>[(16, .imm ⟨(.int .i64),((j:Int):Int)⟩),(7, .row 14)]) [0,1,4,5,6,7,8,9,10,11,12,13,15,16,17,18,19,20,21,22,23,24,25,26,27,28,29,30,31,32] (fun j=>[(14, .row g3f .bool (c8z F (k:Int) j:List Bool))]) [] [] (fun j=>fun _ => .none) else .none)) else .none)
theorem f5h(n:Int)(F:Int→Int→Prop×Bool):awp (a0r []) (a0j a8w) (d5m n F) 0 (a1c (a0r []) a8w fun r=>a1f r [⟨(.slice (.slice .bool)),a7f n F⟩]) (a0m a8w [.val ⟨(.int .i64),n⟩, .clo ⟨[(.int .i64),(.int .i64)], .bool,F⟩]) =
 (((∃ k1:Nat,(k1≤n.toNat∧((n=n∧(F=F∧(True∧(True∧(n=n∧((0:Int)=(k1:Int)∧True))))))∧([]=(c0q n F k1)∧True))))∧(∀ k1:Nat,(k1≤n.toNat →
 (((decide ((k1:Int)<n))=true →
 ((∃ j2:Nat,(j2≤n.toNat∧((n=n∧(F=F∧(True∧(True∧((k1:Int)=(k1:Int)∧(True∧(n=n∧((k1:Int)=(k1:Int)∧((decide ((k1:Int)<n))=(decide ((k1:Int)<n))∧((k1:Int)=(k1:Int)∧(n=n∧((0:Int)=(j2:Int)∧True))))))))))))∧([]=(c8z F (k1:Int) j2)∧((c0q n F k1)=(c0q n F k1)∧True)))))∧(∀ j2:Nat,(j2≤n.toNat →
 (((decide ((j2:Int)<n))=true →
 ((F (k1:Int) (j2:Int)).1∧(a1p ((c8z F (k1:Int) j2).length+([((F (k1:Int) (j2:Int)).2)]).length) 1∧(a0c ((j2:Int)+(1:Int))∧(∃ j3:Nat,(j3≤n.toNat∧(n.toNat - j3<n.toNat - j2∧((n=n∧(F=F∧(True∧(True∧((k1:Int)=(k1:Int)∧(True∧(n=n∧((k1:Int)=(k1:Int)∧((decide ((k1:Int)<n))=(decide ((k1:Int)<n))∧((k1:Int)=(k1:Int)∧(n=n∧(((j2:Int)+(1:Int))=(j3:Int)∧True))))))))))))∧(((c8z F (k1:Int) j2)++([((F (k1:Int) (j2:Int)).2)]))=(c8z F (k1:Int) j3)∧((c0q n F k1)=(c0q n F k1)∧True))))))))))∧((decide ((j2:Int)<n))=false →
 (a1p ((c0q n F k1).length+([(c8z F (k1:Int) j2)]).length) 24∧(a0c ((k1:Int)+(1:Int))∧(∃ k3:Nat,(k3≤n.toNat∧(n.toNat - k3<n.toNat - k1∧((n=n∧(F=F∧(True∧(True∧(n=n∧(((k1:Int)+(1:Int))=(k3:Int)∧True))))))∧(((c0q n F k1)++([(c8z F (k1:Int) j2)]))=(c0q n F k3)∧True)))))))))))))∧((decide ((k1:Int)<n))=false →
 (c0q n F k1)=(a7f n F))))))):=by kernel_rfl
theorem f4o(hE:a0o []):Ctr.Good a5l:=by
 refine⟨a0l d2f rfl (by decide),?_⟩
 show ∀ (n:Int) (F:Int→Int→Prop×Bool),(0≤n∧n≤4096∧d3j n F)→a1e prog c4r [.val ⟨(.int .i64),n⟩, .clo ⟨[(.int .i64),(.int .i64)], .bool,F⟩] (·=[⟨(.slice (.slice .bool)),a7f n F⟩])
 intro n F hp
 refine a0w (wr:=[]) (cl:=[]) (ro:=[]) hE d2f e6x (d5m n F) ?_
 rewrite [f5h n F]
 refine⟨⟨0,⟨?_,⟨⟨rfl,⟨rfl,⟨trivial,⟨trivial,⟨rfl,⟨?_,trivial⟩⟩⟩⟩⟩⟩,⟨?_,trivial⟩⟩⟩⟩,fun k1=>fun a0=>⟨fun a1=>⟨⟨0,⟨?_,⟨⟨rfl,⟨rfl,⟨trivial,⟨trivial,⟨rfl,⟨trivial,⟨rfl,⟨rfl,⟨rfl,⟨rfl,⟨rfl,⟨?_,trivial⟩⟩⟩⟩⟩⟩⟩⟩⟩⟩⟩⟩,⟨?_,⟨rfl,trivial⟩⟩⟩⟩⟩,fun j2 a2=>have b2x0:=hp.2.2 (k1:Int) (j2:Int);⟨fun a3=>⟨?_,⟨?_,⟨?_,⟨j2+1,⟨?_,⟨?_,⟨⟨rfl,⟨rfl,⟨trivial,⟨trivial,⟨rfl,⟨trivial,⟨rfl,⟨rfl,⟨rfl,⟨rfl,⟨rfl,⟨?_,trivial⟩⟩⟩⟩⟩⟩⟩⟩⟩⟩⟩⟩,⟨?_,⟨rfl,trivial⟩⟩⟩⟩⟩⟩⟩⟩⟩,fun a3=>⟨?_,⟨?_,⟨k1+1,⟨?_,⟨?_,⟨⟨rfl,⟨rfl,⟨trivial,⟨trivial,⟨rfl,⟨?_,trivial⟩⟩⟩⟩⟩⟩,⟨?_,trivial⟩⟩⟩⟩⟩⟩⟩⟩⟩,fun a1=>?_⟩⟩
 all_goals try and_intros
 all_goals first|rfl|trivial|omega|(simp only[decide_eq_true_eq,decide_eq_false_iff_not,a0k,a0c,a1p,h5h,h5d,List.length_cons,List.length_nil] at *;first|omega|exact hp.2.2 _ _ (by omega) (by omega) (by omega) (by omega))|grind [i0w,i0l,i0k,i0v,i4x]
theorem c8b:Ctr.Good a5l:=f4o trivial
def b4i(a b:List (List Bool))(x y:Int)(z:Nat):Bool:=gt2 a x (z:Int)&&gt2 b (z:Int) y
theorem i3v(a b:List (List Bool))(x y:Int)(z:Nat):b4i a b x y z=((a.getD x.toNat []).getD z false&&(b.getD z []).getD y.toNat false):=by
 simp[b4i,gt2]
def a4q(b:List (List Bool))(a:List (List Bool)):Int→Int→Prop×Bool:=fun (x:Int) (y:Int)=>((0≤x∧x<(a.length:Int)∧0≤y∧y<(b.length:Int)∧sqT a.length a∧sqT a.length b),a4w (b4i a b x y) b.length)
theorem f0j(b:List (List Bool))(a:List (List Bool))(x:Int)(y:Int):(a4q b a x y).1=(0≤x∧x<(a.length:Int)∧0≤y∧y<(b.length:Int)∧sqT a.length a∧sqT a.length b):=rfl
theorem f0k(b:List (List Bool))(a:List (List Bool))(x:Int)(y:Int):(a4q b a x y).2=(a4w (b4i a b x y) b.length):=rfl
def c4v:Nat×c4d:=(b7b,⟨[(.int .i64),(.int .i64)], .bool,[(true,(.slice (.slice .bool))),(true,(.slice (.slice .bool)))]⟩)
def b1p:Ctr:=⟨b7b,[.v (.int .i64), .v (.int .i64), .r (.slice (.slice .bool)), .r (.slice (.slice .bool))],fun (x:Int) (y:Int) (b:List (List Bool)) (a:List (List Bool))=>⟨(some (0≤x∧x<(a.length:Int)∧0≤y∧y<(b.length:Int)∧sqT a.length a∧sqT a.length b),[⟨.bool,a4w (b4i a b x y) b.length⟩])⟩⟩
def d5k(x:Int)(y:Int)(b:List (List Bool))(a:List (List Bool)):Nat→a0p:=(fun zb=>if Nat.beq zb 0 then .mk (Nat) (fun k=>k≤b.length∧a4w (b4i a b x y) k=false) (fun k=>b.length - k) [] [4,5,8] (fun k=>[(10, .imm ⟨(.int .i64),((k:Int):Int)⟩)]) [0,1,2,3,6,7,9,10,11,12,13,14,15,16,17,18,19,20,21,22,23,24,25,26,27,28,29] (fun k=>[]) [] [] (fun k=>fun _ => .none) else .none)
abbrev c9r(x:Int)(y:Int)(b:List (List Bool))(a:List (List Bool))(k1:Nat):Prop:=(a0c ((k1:Int)+(1:Int))∧(∃ k2:Nat,((k2≤b.length∧a4w (b4i a b x y) k2=false)∧(b.length - k2<b.length - k1∧((x=x∧(y=y∧(b=b∧(a=a∧(((b.length:Int))=((b.length:Int))∧(((k1:Int)+(1:Int))=(k2:Int)∧True))))))∧True)))))
theorem f5f(x:Int)(y:Int)(b:List (List Bool))(a:List (List Bool)):awp (a0r []) (a0j a8u) (d5k x y b a) 0 (a1c (a0r []) a8u fun r=>a1f r [⟨.bool,a4w (b4i a b x y) b.length⟩]) (a0m a8u [.val ⟨(.int .i64),x⟩, .val ⟨(.int .i64),y⟩, .ref ⟨(.slice (.slice .bool)),b⟩, .ref ⟨(.slice (.slice .bool)),a⟩]) =
 ((b.length≤140737488355328 →
 (a0c ((b.length:Int)) →
 ((∃ k1:Nat,((k1≤b.length∧a4w (b4i a b x y) k1=false)∧((x=x∧(y=y∧(b=b∧(a=a∧(((b.length:Int))=((b.length:Int))∧((0:Int)=(k1:Int)∧True))))))∧True)))∧(∀ k1:Nat,((k1≤b.length∧a4w (b4i a b x y) k1=false) →
 (((decide ((k1:Int)<((b.length:Int))))=true →
 (a.length≤140737488355328 →
 (a0k x a.length∧((a.getD (Int.toNat x) []).length≤140737488355328 →
 (a0k (k1:Int) (a.getD (Int.toNat x) []).length∧((((a.getD (Int.toNat x) []).getD k1 false)=true →
 (b.length≤140737488355328 →
 (a0k (k1:Int) b.length∧((b.getD k1 []).length≤140737488355328 →
 (a0k y (b.getD k1 []).length∧((((b.getD k1 []).getD (Int.toNat y) false)=true →
 true=(a4w (b4i a b x y) b.length))∧(((b.getD k1 []).getD (Int.toNat y) false)=false →
 (c9r x y b a k1))))))))∧(((a.getD (Int.toNat x) []).getD k1 false)=(!true) →
 ((false=true →
 true=(a4w (b4i a b x y) b.length))∧(false=false →
 (c9r x y b a k1))))))))))∧((decide ((k1:Int)<((b.length:Int))))=false →
 false=(a4w (b4i a b x y) b.length))))))))):=by kernel_rfl
theorem f4m(hE:a0o []):Ctr.Good b1p:=by
 refine⟨a0l d2d rfl (by decide),?_⟩
 show ∀ (x:Int) (y:Int) (b:List (List Bool)) (a:List (List Bool)),(0≤x∧x<(a.length:Int)∧0≤y∧y<(b.length:Int)∧sqT a.length a∧sqT a.length b)→a1e prog b7b [.val ⟨(.int .i64),x⟩, .val ⟨(.int .i64),y⟩, .ref ⟨(.slice (.slice .bool)),b⟩, .ref ⟨(.slice (.slice .bool)),a⟩] (·=[⟨.bool,a4w (b4i a b x y) b.length⟩])
 intro x y b a hp
 refine a0w (wr:=[]) (cl:=[]) (ro:=[]) hE d2d e6v (d5k x y b a) ?_
 rewrite [f5f x y b a]
 have f0:=h8t (b4i a b x y)
 have f1:=hp.2.2.2.2.1.1
 have f2:=hp.2.2.2.2.2.1
 refine fun a0=>fun a1=>⟨⟨0,⟨?_,⟨⟨rfl,⟨rfl,⟨rfl,⟨rfl,⟨rfl,⟨?_,trivial⟩⟩⟩⟩⟩⟩,trivial⟩⟩⟩,fun k1 a2=>have b2x0:=h8s (b4i a b x y) k1;have b2x1:=h0m (b4i a b x y) b.length k1;have b2x2:=i3v a b x y k1;have b2x3:=hp.2.2.2.2.1.2 x.toNat;have b2x4:=hp.2.2.2.2.2.2 k1;⟨fun a3=>fun a4=>⟨?_,fun a5=>⟨?_,⟨fun a6=>fun a7=>⟨?_,fun a8=>⟨?_,⟨fun a9=>?_,fun a9=>⟨?_,⟨k1+1,⟨?_,⟨?_,⟨⟨rfl,⟨rfl,⟨rfl,⟨rfl,⟨rfl,⟨?_,trivial⟩⟩⟩⟩⟩⟩,trivial⟩⟩⟩⟩⟩⟩⟩⟩,fun a6=>⟨fun a7=>?_,fun a7=>⟨?_,⟨k1+1,⟨?_,⟨?_,⟨⟨rfl,⟨rfl,⟨rfl,⟨rfl,⟨rfl,⟨?_,trivial⟩⟩⟩⟩⟩⟩,trivial⟩⟩⟩⟩⟩⟩⟩⟩⟩,fun a3=>?_⟩⟩
 all_goals try and_intros
 all_goals first|rfl|trivial|omega|(simp only[decide_eq_true_eq,decide_eq_false_iff_not,a0k,a0c] at *;omega)|grind [a0k,a0c]
theorem e7k:Ctr.Good b1p:=f4m trivial
def b9d(a b:List (List Bool)):List (List Bool):=a7f (a.length:Int) (a4q b a)
theorem g0t(a b:List (List Bool)):b9d a b=a7f (a.length:Int) (a4q b a):=rfl
theorem h3w(n:Nat)(a b:List (List Bool))(ha:sqT n a):sqT n (b9d a b):=by
 have:=d6q (a.length:Int) (a4q b a)
 rw[ha.1] at this
 rw[g0t,ha.1]
 simpa using this
theorem e7b(n:Nat)(a b:List (List Bool))(ha:sqT n a)(hb:sqT n b)(x y:Int)(hx:0≤x∧x<n)(hy:0≤y∧y<n):gt2 (b9d a b) x y=a4w (b4i a b x y) n:=by
 have h1:=ha.1
 have h2:=hb.1
 rw[g0t,b3j _ _ _ _ (by omega) (by omega),f0k,h2]
theorem i1n(n:Nat)(a b:List (List Bool))(ha:sqT n a)(hb:sqT n b):d3j (a.length:Int) (a4q b a):=by
 have h1:=ha.1
 have h2:=hb.1
 intro x y h3 h4 h5 h6
 rw[f0j]
 rw[h1]
 exact⟨h3,by omega,h5,by omega,ha,hb⟩
def b5r:Ctr:=⟨c8m,[.v (.slice (.slice .bool)), .v (.slice (.slice .bool))],fun (a:List (List Bool)) (b:List (List Bool))=>⟨(some (a.length≤4096∧sqT a.length a∧sqT a.length b),[⟨(.slice (.slice .bool)),b9d a b⟩])⟩⟩
def e0z(a:List (List Bool))(b:List (List Bool)):Nat→a0p:=fun _ => .none
theorem g2k(a:List (List Bool))(b:List (List Bool)):awp (a0r [b1p,a5l] [] [c4v] [2,3]) (a0j b0z) (e0z a b) 0 (a1c (a0r [b1p,a5l] [] [c4v] [2,3]) b0z fun r=>a1f r [⟨(.slice (.slice .bool)),b9d a b⟩]) (a0m b0z [.val ⟨(.slice (.slice .bool)),a⟩, .val ⟨(.slice (.slice .bool)),b⟩]) =
 ((a.length≤140737488355328 →
 (a0c ((a.length:Int)) →
 ((0≤((a.length:Int))∧((a.length:Int))≤4096∧d3j ((a.length:Int)) (a4q b a))∧((a7f ((a.length:Int)) (a4q b a)).length≤140737488355328 →
 (a7f ((a.length:Int)) (a4q b a))=(b9d a b)))))):=by kernel_rfl
theorem g1o(hE:a0o [b1p,a5l]):Ctr.Good b5r:=by
 refine⟨a0l d6w rfl (by decide),?_⟩
 show ∀ (a:List (List Bool)) (b:List (List Bool)),(a.length≤4096∧sqT a.length a∧sqT a.length b)→a1e prog c8m [.val ⟨(.slice (.slice .bool)),a⟩, .val ⟨(.slice (.slice .bool)),b⟩] (·=[⟨(.slice (.slice .bool)),b9d a b⟩])
 intro a b hp
 refine a0w (wr:=[]) (cl:=[c4v]) (ro:=[2,3]) hE d6w f1x (e0z a b) ?_
 rewrite [g2k a b]
 have f0:=i1n a.length a b hp.2.1 hp.2.2
 have f1:=g0t a b
 refine fun a0=>fun a1=>⟨?_,fun a2=>?_⟩
 all_goals try and_intros
 all_goals first|rfl|trivial|exact⟨by omega,by omega,f0⟩|omega|exact f1.symm|grind
theorem f2y:Ctr.Good b5r:=g1o ⟨e7k,c8b,trivial⟩
end
end Go.Proofs.YthebhlkdppmefaaGreat

set_option linter.unusedVariables false
set_option linter.unusedSimpArgs false
set_option linter.unusedSectionVars false
set_option maxRecDepth 4000
set_option maxHeartbeats 4000000
namespace Go.Proofs.YthebhlkdppmefaaGreat
noncomputable section
def inT(t:List (List Bool))(x y:Int):Prop:=0≤x∧0≤y∧x.toNat<t.length∧y.toNat<(t.getD x.toNat []).length∧x≤4096∧y≤4096
theorem f3l(n:Nat)(t:List (List Bool))(h:sqT n t)(hn:n≤4096)(x y:Int)(hx:0≤x∧x<n)(hy:0≤y∧y<n):inT t x y:=by
 have h1:=h.1
 have h2:=h.2 x.toNat (by omega)
 exact⟨hx.1,hy.1,by omega,by omega,by omega,by omega⟩
def a7h(xs:List a0e)(p:a0d):Int→Int→Prop×Bool:=fun (x:Int) (y:Int)=>((a0v gdP xs=true∧0≤x∧x≤4096∧0≤y∧y≤4096),a6w xs p.num x y)
theorem f9t(xs:List a0e)(p:a0d)(x:Int)(y:Int):(a7h xs p x y).1=(a0v gdP xs=true∧0≤x∧x≤4096∧0≤y∧y≤4096):=rfl
theorem f9u(xs:List a0e)(p:a0d)(x:Int)(y:Int):(a7h xs p x y).2=(a6w xs p.num x y):=rfl
def d1k:Nat×c4d:=(c3i,⟨[(.int .i64),(.int .i64)], .bool,[(true,(.slice (.st .premise))),(true,(.st .prog))]⟩)
def b7z:Ctr:=⟨c3i,[.v (.int .i64), .v (.int .i64), .r (.slice (.st .premise)), .r (.st .prog)],fun (x:Int) (y:Int) (xs:List a0e) (p:a0d)=>⟨(some (a0v gdP xs=true∧0≤x∧x≤4096∧0≤y∧y≤4096),[⟨.bool,a6w xs p.num x y⟩])⟩⟩
def e4t(x:Int)(y:Int)(xs:List a0e)(p:a0d):Nat→a0p:=fun _ => .none
theorem g7c(x:Int)(y:Int)(xs:List a0e)(p:a0d):awp (a0r [b9u]) (a0j b2k) (e4t x y xs p) 0 (a1c (a0r [b9u]) b2k fun r=>a1f r [⟨.bool,a6w xs p.num x y⟩]) (a0m b2k [.val ⟨(.int .i64),x⟩, .val ⟨(.int .i64),y⟩, .ref ⟨(.slice (.st .premise)),xs⟩, .ref ⟨(.st .prog),p⟩]) =
 ((xs.length≤140737488355328 →
 (a0c p.num →
 ((a0v gdP xs=true∧0≤x∧x≤4096∧0≤y∧y≤4096)∧(a6w xs p.num x y)=(a6w xs p.num x y))))):=by kernel_rfl
theorem g5h(hE:a0o [b9u]):Ctr.Good b7z:=by
 refine⟨a0l d9u rfl (by decide),?_⟩
 show ∀ (x:Int) (y:Int) (xs:List a0e) (p:a0d),(a0v gdP xs=true∧0≤x∧x≤4096∧0≤y∧y≤4096)→a1e prog c3i [.val ⟨(.int .i64),x⟩, .val ⟨(.int .i64),y⟩, .ref ⟨(.slice (.st .premise)),xs⟩, .ref ⟨(.st .prog),p⟩] (·=[⟨.bool,a6w xs p.num x y⟩])
 intro x y xs p hp
 refine a0w (wr:=[]) (cl:=[]) (ro:=[]) hE d9u f6i (e4t x y xs p) ?_
 rewrite [g7c x y xs p]
 refine fun a0=>fun a1=>⟨?_,rfl⟩
 all_goals try and_intros
 all_goals first|rfl|trivial|omega|(simp only[decide_eq_true_eq,decide_eq_false_iff_not,a0k,a0c,a2k,a8i,a5r,a1p] at *;omega)|(simp[a0k,a0c] at *;omega)|grind
theorem f7g:Ctr.Good b7z:=g5h ⟨g0x,trivial⟩
def a4r(p:a0d)(ks:List (List (List Bool))):Int→Int→Prop×Bool:=fun (x:Int) (y:Int)=>((a1k p.cond=true∧1≤ks.length∧inT (ks.getD 0 []) x y),decide (x=y)||(a1b x p.cond&&gt2 (ks.getD 0 []) x y))
theorem f9v(p:a0d)(ks:List (List (List Bool)))(x:Int)(y:Int):(a4r p ks x y).1=(a1k p.cond=true∧1≤ks.length∧inT (ks.getD 0 []) x y):=rfl
theorem f9w(p:a0d)(ks:List (List (List Bool)))(x:Int)(y:Int):(a4r p ks x y).2=(decide (x=y)||(a1b x p.cond&&gt2 (ks.getD 0 []) x y)):=rfl
def d1l:Nat×c4d:=(c3j,⟨[(.int .i64),(.int .i64)], .bool,[(true,(.st .prog)),(true,(.slice (.slice (.slice .bool))))]⟩)
def b8a:Ctr:=⟨c3j,[.v (.int .i64), .v (.int .i64), .r (.st .prog), .r (.slice (.slice (.slice .bool)))],fun (x:Int) (y:Int) (p:a0d) (ks:List (List (List Bool)))=>⟨(some (a1k p.cond=true∧1≤ks.length∧inT (ks.getD 0 []) x y),[⟨.bool,decide (x=y)||(a1b x p.cond&&gt2 (ks.getD 0 []) x y)⟩])⟩⟩
def e4u(x:Int)(y:Int)(p:a0d)(ks:List (List (List Bool))):Nat→a0p:=fun _ => .none
theorem g7d(x:Int)(y:Int)(p:a0d)(ks:List (List (List Bool))):awp (a0r [a2r]) (a0j b2l) (e4u x y p ks) 0 (a1c (a0r [a2r]) b2l fun r=>a1f r [⟨.bool,decide (x=y)||(a1b x p.cond&&gt2 (ks.getD 0 []) x y)⟩]) (a0m b2l [.val ⟨(.int .i64),x⟩, .val ⟨(.int .i64),y⟩, .ref ⟨(.st .prog),p⟩, .ref ⟨(.slice (.slice (.slice .bool))),ks⟩]) =
 ((((decide (x=y))=false →
 ((a1k p.cond=true∧0≤x∧x≤4096)∧(((a1b x p.cond)=true →
 (ks.length≤140737488355328 →
 (a0k (0:Int) ks.length∧((ks.getD 0 []).length≤140737488355328 →
 (a0k x (ks.getD 0 []).length∧(((ks.getD 0 []).getD (Int.toNat x) []).length≤140737488355328 →
 (a0k y ((ks.getD 0 []).getD (Int.toNat x) []).length∧(((ks.getD 0 []).getD (Int.toNat x) []).getD (Int.toNat y) false)=(decide (x=y)||(a1b x p.cond&&gt2 (ks.getD 0 []) x y)))))))))∧((a1b x p.cond)=(!true) →
 false=(decide (x=y)||(a1b x p.cond&&gt2 (ks.getD 0 []) x y))))))∧((decide (x=y))=(!false) →
 true=(decide (x=y)||(a1b x p.cond&&gt2 (ks.getD 0 []) x y))))):=by kernel_rfl
theorem g5i(hE:a0o [a2r]):Ctr.Good b8a:=by
 refine⟨a0l d9v rfl (by decide),?_⟩
 show ∀ (x:Int) (y:Int) (p:a0d) (ks:List (List (List Bool))),(a1k p.cond=true∧1≤ks.length∧inT (ks.getD 0 []) x y)→a1e prog c3j [.val ⟨(.int .i64),x⟩, .val ⟨(.int .i64),y⟩, .ref ⟨(.st .prog),p⟩, .ref ⟨(.slice (.slice (.slice .bool))),ks⟩] (·=[⟨.bool,decide (x=y)||(a1b x p.cond&&gt2 (ks.getD 0 []) x y)⟩])
 intro x y p ks hp
 refine a0w (wr:=[]) (cl:=[]) (ro:=[]) hE d9v f6j (e4u x y p ks) ?_
 rewrite [g7d x y p ks]
 have f0:=hp.2.2
 unfold inT at f0
 refine⟨fun a0=>⟨?_,⟨fun a1=>fun a2=>⟨?_,fun a3=>⟨?_,fun a4=>⟨?_,?_⟩⟩⟩,fun a1=>?_⟩⟩,fun a0=>?_⟩
 all_goals try and_intros
 all_goals first|rfl|trivial|omega|(simp only[decide_eq_true_eq,decide_eq_false_iff_not,a0k,a0c] at *;omega)|grind [gt2,a0k,a0c]
theorem f7h:Ctr.Good b8a:=g5i ⟨a8j,trivial⟩
def a7i(ways:List (List Bool))(p:a0d):Int→Int→Prop×Bool:=fun (x:Int) (y:Int)=>((a1k p.cond=true∧inT ways x y),gt2 ways x y && !a1b y p.cond)
theorem f9x(ways:List (List Bool))(p:a0d)(x:Int)(y:Int):(a7i ways p x y).1=(a1k p.cond=true∧inT ways x y):=rfl
theorem d6s(ways:List (List Bool))(p:a0d)(x:Int)(y:Int):(a7i ways p x y).2=(gt2 ways x y && !a1b y p.cond):=rfl
def d1m:Nat×c4d:=(c3k,⟨[(.int .i64),(.int .i64)], .bool,[(true,(.slice (.slice .bool))),(true,(.st .prog))]⟩)
def b8b:Ctr:=⟨c3k,[.v (.int .i64), .v (.int .i64), .r (.slice (.slice .bool)), .r (.st .prog)],fun (x:Int) (y:Int) (ways:List (List Bool)) (p:a0d)=>⟨(some (a1k p.cond=true∧inT ways x y),[⟨.bool,gt2 ways x y && !a1b y p.cond⟩])⟩⟩
def e4v(x:Int)(y:Int)(ways:List (List Bool))(p:a0d):Nat→a0p:=fun _ => .none
theorem g7e(x:Int)(y:Int)(ways:List (List Bool))(p:a0d):awp (a0r [a2r]) (a0j b2m) (e4v x y ways p) 0 (a1c (a0r [a2r]) b2m fun r=>a1f r [⟨.bool,gt2 ways x y && !a1b y p.cond⟩]) (a0m b2m [.val ⟨(.int .i64),x⟩, .val ⟨(.int .i64),y⟩, .ref ⟨(.slice (.slice .bool)),ways⟩, .ref ⟨(.st .prog),p⟩]) =
 ((ways.length≤140737488355328 →
 (a0k x ways.length∧((ways.getD (Int.toNat x) []).length≤140737488355328 →
 (a0k y (ways.getD (Int.toNat x) []).length∧((((ways.getD (Int.toNat x) []).getD (Int.toNat y) false)=true →
 ((a1k p.cond=true∧0≤y∧y≤4096)∧(!(a1b y p.cond))=(gt2 ways x y && !a1b y p.cond)))∧(((ways.getD (Int.toNat x) []).getD (Int.toNat y) false)=(!true) →
 false=(gt2 ways x y && !a1b y p.cond)))))))):=by kernel_rfl
theorem g5j(hE:a0o [a2r]):Ctr.Good b8b:=by
 refine⟨a0l d9w rfl (by decide),?_⟩
 show ∀ (x:Int) (y:Int) (ways:List (List Bool)) (p:a0d),(a1k p.cond=true∧inT ways x y)→a1e prog c3k [.val ⟨(.int .i64),x⟩, .val ⟨(.int .i64),y⟩, .ref ⟨(.slice (.slice .bool)),ways⟩, .ref ⟨(.st .prog),p⟩] (·=[⟨.bool,gt2 ways x y && !a1b y p.cond⟩])
 intro x y ways p hp
 refine a0w (wr:=[]) (cl:=[]) (ro:=[]) hE d9w f6k (e4v x y ways p) ?_
 rewrite [g7e x y ways p]
 have f0:=hp.2
 unfold inT at f0
 refine fun a0=>⟨?_,fun a1=>⟨?_,⟨fun a2=>⟨?_,?_⟩,fun a2=>?_⟩⟩⟩
 all_goals try and_intros
 all_goals first|rfl|trivial|omega|(simp only[decide_eq_true_eq,decide_eq_false_iff_not,a0k,a0c] at *;omega)|grind [gt2,a0k,a0c]
theorem f7i:Ctr.Good b8b:=g5j ⟨a8j,trivial⟩
def a7j(p:a0d)(ks:List (List (List Bool))):Int→Int→Prop×Bool:=fun (x:Int) (y:Int)=>((0≤x∧x≤4096∧(p.kind=4∨p.kind=6→a1k p.cond=true)∧(p.kind=6→2≤ks.length∧inT (ks.getD 0 []) x y∧inT (ks.getD 1 []) x y)),if p.kind=1 then decide (x=y) else if p.kind=4 then decide (x=y)&&a1b x p.cond else if p.kind=6 then (if a1b x p.cond=true then gt2 (ks.getD 0 []) x y else gt2 (ks.getD 1 []) x y) else false)
theorem f9y(p:a0d)(ks:List (List (List Bool)))(x:Int)(y:Int):(a7j p ks x y).1=(0≤x∧x≤4096∧(p.kind=4∨p.kind=6→a1k p.cond=true)∧(p.kind=6→2≤ks.length∧inT (ks.getD 0 []) x y∧inT (ks.getD 1 []) x y)):=rfl
theorem a9n(p:a0d)(ks:List (List (List Bool)))(x:Int)(y:Int):(a7j p ks x y).2=(if p.kind=1 then decide (x=y) else if p.kind=4 then decide (x=y)&&a1b x p.cond else if p.kind=6 then (if a1b x p.cond=true then gt2 (ks.getD 0 []) x y else gt2 (ks.getD 1 []) x y) else false):=rfl
def d1n:Nat×c4d:=(c3l,⟨[(.int .i64),(.int .i64)], .bool,[(true,(.st .prog)),(true,(.slice (.slice (.slice .bool))))]⟩)
def b8c:Ctr:=⟨c3l,[.v (.int .i64), .v (.int .i64), .r (.st .prog), .r (.slice (.slice (.slice .bool)))],fun (x:Int) (y:Int) (p:a0d) (ks:List (List (List Bool)))=>⟨(some (0≤x∧x≤4096∧(p.kind=4∨p.kind=6→a1k p.cond=true)∧(p.kind=6→2≤ks.length∧inT (ks.getD 0 []) x y∧inT (ks.getD 1 []) x y)),[⟨.bool,if p.kind=1 then decide (x=y) else if p.kind=4 then decide (x=y)&&a1b x p.cond else if p.kind=6 then (if a1b x p.cond=true then gt2 (ks.getD 0 []) x y else gt2 (ks.getD 1 []) x y) else false⟩])⟩⟩
def e4w(x:Int)(y:Int)(p:a0d)(ks:List (List (List Bool))):Nat→a0p:=fun _ => .none
theorem g7f(x:Int)(y:Int)(p:a0d)(ks:List (List (List Bool))):awp (a0r [a2r]) (a0j b2n) (e4w x y p ks) 0 (a1c (a0r [a2r]) b2n fun r=>a1f r [⟨.bool,if p.kind=1 then decide (x=y) else if p.kind=4 then decide (x=y)&&a1b x p.cond else if p.kind=6 then (if a1b x p.cond=true then gt2 (ks.getD 0 []) x y else gt2 (ks.getD 1 []) x y) else false⟩]) (a0m b2n [.val ⟨(.int .i64),x⟩, .val ⟨(.int .i64),y⟩, .ref ⟨(.st .prog),p⟩, .ref ⟨(.slice (.slice (.slice .bool))),ks⟩]) =
 ((a0c p.kind →
 (((decide (p.kind=(1:Int)))=true →
 (decide (x=y))=(if p.kind=1 then decide (x=y) else if p.kind=4 then decide (x=y)&&a1b x p.cond else if p.kind=6 then (if a1b x p.cond=true then gt2 (ks.getD 0 []) x y else gt2 (ks.getD 1 []) x y) else false))∧((decide (p.kind=(1:Int)))=false →
 (((decide (p.kind=(4:Int)))=true →
 (((decide (x=y))=true →
 ((a1k p.cond=true∧0≤x∧x≤4096)∧(a1b x p.cond)=(if p.kind=1 then decide (x=y) else if p.kind=4 then decide (x=y)&&a1b x p.cond else if p.kind=6 then (if a1b x p.cond=true then gt2 (ks.getD 0 []) x y else gt2 (ks.getD 1 []) x y) else false)))∧((decide (x=y))=(!true) →
 false=(if p.kind=1 then decide (x=y) else if p.kind=4 then decide (x=y)&&a1b x p.cond else if p.kind=6 then (if a1b x p.cond=true then gt2 (ks.getD 0 []) x y else gt2 (ks.getD 1 []) x y) else false))))∧((decide (p.kind=(4:Int)))=false →
 (((decide (p.kind=(6:Int)))=true →
 ((a1k p.cond=true∧0≤x∧x≤4096)∧(((a1b x p.cond)=true →
 (ks.length≤140737488355328 →
 (a0k (0:Int) ks.length∧((ks.getD 0 []).length≤140737488355328 →
 (a0k x (ks.getD 0 []).length∧(((ks.getD 0 []).getD (Int.toNat x) []).length≤140737488355328 →
 (a0k y ((ks.getD 0 []).getD (Int.toNat x) []).length∧(((ks.getD 0 []).getD (Int.toNat x) []).getD (Int.toNat y) false)=(if p.kind=1 then decide (x=y) else if p.kind=4 then decide (x=y)&&a1b x p.cond else if p.kind=6 then (if a1b x p.cond=true then gt2 (ks.getD 0 []) x y else gt2 (ks.getD 1 []) x y) else false))))))))∧((a1b x p.cond)=false →
 (ks.length≤140737488355328 →
 (a0k (1:Int) ks.length∧((ks.getD 1 []).length≤140737488355328 →
 (a0k x (ks.getD 1 []).length∧(((ks.getD 1 []).getD (Int.toNat x) []).length≤140737488355328 →
 (a0k y ((ks.getD 1 []).getD (Int.toNat x) []).length∧(((ks.getD 1 []).getD (Int.toNat x) []).getD (Int.toNat y) false)=(if p.kind=1 then decide (x=y) else if p.kind=4 then decide (x=y)&&a1b x p.cond else if p.kind=6 then (if a1b x p.cond=true then gt2 (ks.getD 0 []) x y else gt2 (ks.getD 1 []) x y) else false)))))))))))∧((decide (p.kind=(6:Int)))=false →
 false=(if p.kind=1 then decide (x=y) else if p.kind=4 then decide (x=y)&&a1b x p.cond else if p.kind=6 then (if a1b x p.cond=true then gt2 (ks.getD 0 []) x y else gt2 (ks.getD 1 []) x y) else false))))))))):=by kernel_rfl
theorem g5k(hE:a0o [a2r]):Ctr.Good b8c:=by
 refine⟨a0l d9x rfl (by decide),?_⟩
 show ∀ (x:Int) (y:Int) (p:a0d) (ks:List (List (List Bool))),(0≤x∧x≤4096∧(p.kind=4∨p.kind=6→a1k p.cond=true)∧(p.kind=6→2≤ks.length∧inT (ks.getD 0 []) x y∧inT (ks.getD 1 []) x y))→a1e prog c3l [.val ⟨(.int .i64),x⟩, .val ⟨(.int .i64),y⟩, .ref ⟨(.st .prog),p⟩, .ref ⟨(.slice (.slice (.slice .bool))),ks⟩] (·=[⟨.bool,if p.kind=1 then decide (x=y) else if p.kind=4 then decide (x=y)&&a1b x p.cond else if p.kind=6 then (if a1b x p.cond=true then gt2 (ks.getD 0 []) x y else gt2 (ks.getD 1 []) x y) else false⟩])
 intro x y p ks hp
 refine a0w (wr:=[]) (cl:=[]) (ro:=[]) hE d9x f6l (e4w x y p ks) ?_
 rewrite [g7f x y p ks]
 have f0:=hp
 unfold inT at f0
 refine fun a0=>⟨fun a1=>?_,fun a1=>⟨fun a2=>⟨fun a3=>⟨?_,?_⟩,fun a3=>?_⟩,fun a2=>⟨fun a3=>⟨?_,⟨fun a4=>fun a5=>⟨?_,fun a6=>⟨?_,fun a7=>⟨?_,?_⟩⟩⟩,fun a4=>fun a5=>⟨?_,fun a6=>⟨?_,fun a7=>⟨?_,?_⟩⟩⟩⟩⟩,fun a3=>?_⟩⟩⟩
 all_goals try and_intros
 all_goals first|rfl|trivial|omega|(simp only[decide_eq_true_eq,decide_eq_false_iff_not,a0k,a0c] at *;omega)|grind [gt2,a0k,a0c]
theorem f7j:Ctr.Good b8c:=g5k ⟨a8j,trivial⟩
def a8r(t:List (List Bool)):Nat→List (List Bool)
 | 0=>t
 | k+1=>b9d (a8r t k) (a8r t k)
def b0g(n:Int)(xs:List a0e)(p:a0d)(ks:List (List (List Bool))):List (List Bool) :=
 if p.kind=3 then a7f n (a7h xs p) else if p.kind=5 then b9d (ks.getD 0 []) (ks.getD 1 [])
 else if p.kind=7 then a7f n (a7i (a8r (a7f n (a4r p ks)) n.toNat) p) else a7f n (a7j p ks)
mutual
def a0g(n:Int)(xs:List a0e):a0d→List (List Bool)
 | ⟨k,m,c,ks⟩=>b0g n xs ⟨k,m,c,ks⟩ (a1u n xs ks)
def a1u(n:Int)(xs:List a0e):List a0d→List (List (List Bool))
 | []=>[]
 | p::ps=>a0g n xs p::a1u n xs ps
end
theorem e7t(n:Int)(xs:List a0e)(p:a0d):a0g n xs p=b0g n xs p (a1u n xs p.kids):=by cases p;rfl
theorem e1j(n:Int)(xs:List a0e):∀ ps,a1u n xs ps=ps.map (a0g n xs)
 | []=>rfl
 | p::ps=>by rw[a1u,List.map_cons,e1j n xs ps]
theorem c8h(n:Int)(xs:List a0e)(ps:List a0d):(a1u n xs ps).length=ps.length:=by simp[e1j]
theorem h5v(n:Int)(xs:List a0e)(z:a0d)(ps:List a0d)(k:Nat)(h:k<ps.length):a1u n xs (ps.take k)++[a0g n xs (ps.getD k z)]=a1u n xs (ps.take (k+1)):=by
 rw[a8f z ps k h,e1j,e1j];simp
theorem h5w(n:Int)(xs:List a0e)(ps:List a0d):[]=a1u n xs (ps.take 0):=by simp[a1u]
theorem h7w(n:Int)(xs:List a0e)(ps:List a0d)(k:Nat)(h:ps.length≤k):a1u n xs (ps.take k)=a1u n xs ps:=by rw[List.take_of_length_le h]
theorem g9i(n:Nat)(t:List (List Bool))(h:sqT n t):∀ k,sqT n (a8r t k)
 | 0=>h
 | k+1=>h3w n _ _ (g9i n t h k)
theorem b9h(gg:a0h)(p:a0d)(h:b5p gg p=true):(p.kind=5∨p.kind=6→p.kids.length=2)∧(p.kind=7→p.kids.length=1):=by
 rw[b9g] at h
 simp only[Bool.and_eq_true,decide_eq_true_eq] at h
 have h1:=h.1.1
 refine⟨fun e=>?_,fun e=>?_⟩
 ·rcases e with e|e<;>rw[e] at h1<;>simp[a1x] at h1<;>omega
 ·rw[e] at h1;simp[a1x] at h1;omega
theorem i4n(gg:a0h)(xs:List a0e)(p:a0d)(h:b5p gg p=true):p.kids.length≤2:=by
 rw[b9g] at h
 simp only[Bool.and_eq_true,decide_eq_true_eq] at h
 have h1:=h.1.1
 unfold a1x at h1
 repeat' split at h1
 all_goals omega
theorem e7o(gg:a0h)(p:a0d)(hs:a1i gg=true)(h:b5p gg p=true):(p.kind=4∨p.kind=6∨p.kind=7)→a1k p.cond=true:=by
 rw[b9g] at h
 simp only[Bool.and_eq_true] at h
 have h1:=h.2
 intro e
 have:a3n p.kind=true:=by rcases e with e|e|e<;>simp[a3n,e]
 rw[c0o,if_pos this] at h1
 exact b9i gg _ hs h1
mutual
theorem b6t(gg:a0h)(n:Int)(xs:List a0e):∀ p:a0d,a2g gg p=true→sqT n.toNat (a0g n xs p)
 | ⟨k,m,c,ks⟩=>fun h=>by
  have hk:=b8v gg n xs ks
  rw[a7g] at h
  simp only[Bool.and_eq_true] at h
  obtain⟨h1,h2⟩:=h
  have h3:=b9h gg _ h1
  rw[a0g,b0g]
  split
  ·exact d6q _ _
  ·split
   ·rename_i e
    have h4:ks.length=2:=h3.1 (.inl e)
    have h5:=hk h2 0 (by omega)
    exact h3w _ _ _ h5
   ·split
    ·exact d6q _ _
    ·exact d6q _ _
theorem b8v(gg:a0h)(n:Int)(xs:List a0e):∀ ps:List a0d,a0v (a2g gg) ps=true→∀ i,i<ps.length→sqT n.toNat ((a1u n xs ps).getD i [])
 | []=>fun _ i h=>by simp at h
 | p::ps=>fun h i hi=>by
  simp only[a0v,Bool.and_eq_true] at h
  have h1:=b6t gg n xs p h.1
  have h2:=b8v gg n xs ps h.2
  cases i with
  | zero=>simpa [a1u] using h1
  | succ i=>simpa [a1u] using h2 i (by simpa using hi)
end
structure okL(gg:a0h)(xs:List a0e)(p:a0d):Prop where
 sig:a1i gg=true
 gd:a0v gdP xs=true
 tree:a2g gg p=true
theorem a5w(gg:a0h)(h:a1i gg=true):(0≤gg.tests∧gg.tests≤3)∧1≤a0a gg∧a0a gg≤8:=by
 rw[a4l] at h
 exact⟨h.1,c6q gg h.1⟩
theorem h6o(gg:a0h)(xs:List a0e)(p:a0d)(h:okL gg xs p)(z:a0d)(i:Nat)(hi:i<p.kids.length):okL gg xs (p.kids.getD i z):=by
 refine⟨h.1,h.gd,?_⟩
 have:=h.tree
 rw[a7g,Bool.and_eq_true] at this
 exact b8z _ _ _ _ hi this.2
theorem i6w(gg:a0h)(xs:List a0e)(p:a0d)(h:okL gg xs p)(e:p.kind=3):d3j (a0a gg) (a7h xs p)∧a7f (a0a gg) (a7h xs p)=a0g (a0a gg) xs p:=by
 have hn:=(a5w gg h.1).2
 refine⟨fun x y h1 h2 h3 h4=>?_,by rw[e7t,b0g,if_pos e]⟩
 rw[f9t]
 exact⟨h.gd,h1,by omega,h3,by omega⟩
theorem i6x(gg:a0h)(xs:List a0e)(p:a0d)(h:okL gg xs p)(e:p.kind=5):p.kids.length=2∧((a1u (a0a gg) xs p.kids).getD 0 []).length≤4096 ∧
  sqT ((a1u (a0a gg) xs p.kids).getD 0 []).length ((a1u (a0a gg) xs p.kids).getD 0 [])∧sqT ((a1u (a0a gg) xs p.kids).getD 0 []).length ((a1u (a0a gg) xs p.kids).getD 1 []) ∧
  b9d ((a1u (a0a gg) xs p.kids).getD 0 []) ((a1u (a0a gg) xs p.kids).getD 1 [])=a0g (a0a gg) xs p:=by
 have hn:=(a5w gg h.1).2
 have ht:=h.tree
 rw[a7g,Bool.and_eq_true] at ht
 have h2:=(b9h gg p ht.1).1 (.inl e)
 have s0:=b8v gg (a0a gg) xs p.kids ht.2 0 (by omega)
 have s1:=b8v gg (a0a gg) xs p.kids ht.2 1 (by omega)
 have l0:=s0.1
 refine⟨h2,by omega,by rw[l0];exact s0,by rw[l0];exact s1,?_⟩
 rw[e7t,b0g,if_neg (by omega),if_pos e]
def b2c(gg:a0h)(xs:List a0e)(p:a0d):List (List Bool):=a7f (a0a gg) (a4r p (a1u (a0a gg) xs p.kids))
theorem i3q(gg:a0h)(xs:List a0e)(p:a0d)(h:okL gg xs p)(e:p.kind=7):d3j (a0a gg) (a4r p (a1u (a0a gg) xs p.kids)) ∧
  (∀ k,(a8r (b2c gg xs p) k).length≤4096∧sqT (a8r (b2c gg xs p) k).length (a8r (b2c gg xs p) k)∧d3j (a0a gg) (a7i (a8r (b2c gg xs p) k) p)) ∧
  a7f (a0a gg) (a7i (a8r (b2c gg xs p) (a0a gg).toNat) p)=a0g (a0a gg) xs p:=by
 have hn:=(a5w gg h.1).2
 have ht:=h.tree
 rw[a7g,Bool.and_eq_true] at ht
 have h2:=(b9h gg p ht.1).2 e
 have hc:=e7o gg p h.1 ht.1 (by omega)
 have s0:=b8v gg (a0a gg) xs p.kids ht.2 0 (by omega)
 refine⟨fun x y h1 h2 h3 h4=>?_,fun k=>?_,?_⟩
 ·rw[f9v]
  exact⟨hc,by rw[c8h];omega,f3l _ _ s0 (by omega) x y ⟨h1,by omega⟩ ⟨h3,by omega⟩⟩
 ·have s:=g9i _ (b2c gg xs p) (d6q _ _) k
  have l:=s.1
  refine⟨by omega,by rw[l];exact s,fun x y h1 h2 h3 h4=>?_⟩
  rw[f9x]
  exact⟨hc,f3l _ _ s (by omega) x y ⟨h1,by omega⟩ ⟨h3,by omega⟩⟩
 ·rw[e7t,b0g,if_neg (by omega),if_neg (by omega),if_pos e];rfl
theorem i6y(gg:a0h)(xs:List a0e)(p:a0d)(h:okL gg xs p)(e3:p.kind≠3)(e5:p.kind≠5)(e7:p.kind≠7):d3j (a0a gg) (a7j p (a1u (a0a gg) xs p.kids)) ∧
  a7f (a0a gg) (a7j p (a1u (a0a gg) xs p.kids))=a0g (a0a gg) xs p:=by
 have hn:=(a5w gg h.1).2
 have ht:=h.tree
 rw[a7g,Bool.and_eq_true] at ht
 refine⟨fun x y h1 h2 h3 h4=>?_,by rw[e7t,b0g,if_neg e3,if_neg e5,if_neg e7]⟩
 rw[f9y]
 refine⟨h1,by omega,fun e=>e7o gg p h.1 ht.1 (by omega),fun e=>?_⟩
 have h6:=(b9h gg p ht.1).1 (.inr e)
 have s0:=b8v gg (a0a gg) xs p.kids ht.2 0 (by omega)
 have s1:=b8v gg (a0a gg) xs p.kids ht.2 1 (by omega)
 exact⟨by rw[c8h];omega,f3l _ _ s0 (by omega) x y ⟨h1,by omega⟩ ⟨h3,by omega⟩,f3l _ _ s1 (by omega) x y ⟨h1,by omega⟩ ⟨h3,by omega⟩⟩
def b9y(n:Nat):Ctr:=⟨c8n,[.v (.st .sig), .v (.slice (.st .premise)), .v (.st .prog)],fun (gg:a0h) (xs:List a0e) (p:a0d)=>⟨(some (msz p<n∧okL gg xs p),[⟨(.slice (.slice .bool)),a0g (a0a gg) xs p⟩])⟩⟩
def a6y:Ctr:=⟨c8n,[.v (.st .sig), .v (.slice (.st .premise)), .v (.st .prog)],fun (gg:a0h) (xs:List a0e) (p:a0d)=>⟨(some (okL gg xs p),[⟨(.slice (.slice .bool)),a0g (a0a gg) xs p⟩])⟩⟩
def f3p(gg:a0h)(xs:List a0e)(p:a0d):Nat→a0p:=(fun zb=>if Nat.beq zb 0 then .mk (Nat) (fun k=>k≤p.kids.length) (fun k=>p.kids.length - k) [] [0,1,2,9,12,13,14,15] (fun k=>[(18, .imm ⟨(.int .i64),((k:Int):Int)⟩)]) [3,4,5,6,7,10,11,16,17,18,19,20,21,22,23,24,25,26,27,28,29,30,31,32,33,34,35,36,37,38,39,40,41,42,43,44,45,46,47,48,49,50,51,52,53,54,55,56,57,58,59,60,61,62,63] (fun k=>[(8, .box [.row 14]),(14, .row g3g (.slice (.slice .bool)) (a1u (a0a gg) xs (p.kids.take k):List (List (List Bool))))]) [] [] (fun k=>fun _ => .none) else if Nat.beq zb 100008 then .mk (Unit) (fun u=>True) (fun u=>0) [] [0,1,2,3,9,10,12,13,14,15,16,17,18,19,20,21,22,23,24,25,26,27,28,29] (fun u=>[]) [4,5,6,7,11,30,31,32,33,34,35,36,37,38,39,40,41,42,43,44,45,46,47,48,49,50,51,52,53,54,55,56,57,58,59,60,61,62,63] (fun u=>[(8, .box [.row 14]),(14, .row g3g (.slice (.slice .bool)) ((a1u (a0a gg) xs p.kids):List (List (List Bool))))]) [] [] (fun u=>(fun zb=>if Nat.beq zb 3 then .mk (Nat) (fun k=>k≤(a0a gg).toNat∧p.kind=7) (fun k=>(a0a gg).toNat - k) [] [0,1,2,3,4,9,10,12,13,14,15,16,17,18,19,20,21,22,23,24,25,26,27,28,29,30,31,32,33,34,35,36,37,38,39,40,41,42,43,44,45,46,47,48,49,50] (fun k=>[(52, .imm ⟨(.int .i64),((k:Int):Int)⟩)]) [5,6,7,8,14,51,52,53,54,55,56,57,58,59,60,61,62,63] (fun k=>[(11, .box [.imm ⟨(.slice (.slice .bool)),(a8r (b2c gg xs p) k:List (List Bool))⟩])]) [] [] (fun k=>fun _ => .none) else .none)) else .none)
theorem h2p(n:Nat)(gg:a0h)(xs:List a0e)(p:a0d):awp (a0r [b9y n,a3o,a5l,b5r,b7z,b8a,b8b,b8c] [] [d1k,d1l,d1m,d1n] [3,4,5]) (a0j b7i) (f3p gg xs p) 0 (a1c (a0r [b9y n,a3o,a5l,b5r,b7z,b8a,b8b,b8c] [] [d1k,d1l,d1m,d1n] [3,4,5]) b7i fun r=>a1f r [⟨(.slice (.slice .bool)),a0g (a0a gg) xs p⟩]) (a0m b7i [.val ⟨(.st .sig),gg⟩, .val ⟨(.slice (.st .premise)),xs⟩, .val ⟨(.st .prog),p⟩]) =
 (((0≤gg.tests∧gg.tests≤3)∧(a0c (a0a gg) →
 ((p.kids.length≤140737488355328 →
 (a0c ((p.kids.length:Int)) →
 ((∃ k1:Nat,(k1≤p.kids.length∧((gg=gg∧(xs=xs∧(p=p∧(True∧((a0a gg)=(a0a gg)∧(True∧(p.kids=p.kids∧(((p.kids.length:Int))=((p.kids.length:Int))∧((0:Int)=(k1:Int)∧True)))))))))∧((True∧True)∧([]=(a1u (a0a gg) xs (p.kids.take k1))∧True)))))∧(∀ k1:Nat,(k1≤p.kids.length →
 (((decide ((k1:Int)<((p.kids.length:Int))))=true →
 (a0k (k1:Int) p.kids.length∧((msz (a1a (p.kids.getD k1 zP))<n∧okL gg xs (a1a (p.kids.getD k1 zP)))∧(xs.length≤140737488355328 →
 ((a0g (a0a gg) xs (a1a (p.kids.getD k1 zP))).length≤140737488355328 →
 (a1p ((a1u (a0a gg) xs (p.kids.take k1)).length+([(a0g (a0a gg) xs (a1a (p.kids.getD k1 zP)))]).length) 24∧(a0c ((k1:Int)+(1:Int))∧(∃ k2:Nat,(k2≤p.kids.length∧(p.kids.length - k2<p.kids.length - k1∧((gg=gg∧(xs=xs∧(p=p∧(True∧((a0a gg)=(a0a gg)∧(True∧(p.kids=p.kids∧(((p.kids.length:Int))=((p.kids.length:Int))∧(((k1:Int)+(1:Int))=(k2:Int)∧True)))))))))∧((True∧True)∧(((a1u (a0a gg) xs (p.kids.take k1))++([(a0g (a0a gg) xs (a1a (p.kids.getD k1 zP)))]))=(a1u (a0a gg) xs (p.kids.take k2))∧True)))))))))))))∧((decide ((k1:Int)<((p.kids.length:Int))))=false →
 (∃ u2:Unit,(True∧((xs=xs∧(p=p∧(True∧((a0a gg)=(a0a gg)∧(True∧True)))))∧((True∧True)∧((a1u (a0a gg) xs (p.kids.take k1))=(a1u (a0a gg) xs p.kids)∧True))))))))))))∧(∀ u1:Unit,(True →
 (a0c p.kind →
 (((decide (p.kind=(3:Int)))=true →
 ((0≤(a0a gg)∧(a0a gg)≤4096∧d3j (a0a gg) (a7h xs p))∧((a7f (a0a gg) (a7h xs p)).length≤140737488355328 →
 (a7f (a0a gg) (a7h xs p))=(a0g (a0a gg) xs p))))∧((decide (p.kind=(3:Int)))=false →
 (((decide (p.kind=(5:Int)))=true →
 (a0k (0:Int) (a1u (a0a gg) xs p.kids).length∧(a0k (1:Int) (a1u (a0a gg) xs p.kids).length∧(((a1u (a0a gg) xs p.kids).getD 0 []).length≤140737488355328 →
 (((a1u (a0a gg) xs p.kids).getD 1 []).length≤140737488355328 →
 ((((a1u (a0a gg) xs p.kids).getD 0 []).length≤4096∧sqT ((a1u (a0a gg) xs p.kids).getD 0 []).length ((a1u (a0a gg) xs p.kids).getD 0 [])∧sqT ((a1u (a0a gg) xs p.kids).getD 0 []).length ((a1u (a0a gg) xs p.kids).getD 1 []))∧((b9d ((a1u (a0a gg) xs p.kids).getD 0 []) ((a1u (a0a gg) xs p.kids).getD 1 [])).length≤140737488355328 →
 (b9d ((a1u (a0a gg) xs p.kids).getD 0 []) ((a1u (a0a gg) xs p.kids).getD 1 []))=(a0g (a0a gg) xs p))))))))∧((decide (p.kind=(5:Int)))=false →
 (((decide (p.kind=(7:Int)))=true →
 ((0≤(a0a gg)∧(a0a gg)≤4096∧d3j (a0a gg) (a4r p (a1u (a0a gg) xs p.kids)))∧((a7f (a0a gg) (a4r p (a1u (a0a gg) xs p.kids))).length≤140737488355328 →
 ((∃ k2:Nat,((k2≤(a0a gg).toNat∧p.kind=7)∧((p=p∧(True∧((a0a gg)=(a0a gg)∧(True∧(True∧((a0a gg)=(a0a gg)∧((0:Int)=(k2:Int)∧True)))))))∧(((a7f (a0a gg) (a4r p (a1u (a0a gg) xs p.kids)))=(a8r (b2c gg xs p) k2)∧True)∧(((a1u (a0a gg) xs p.kids)=(a1u (a0a gg) xs p.kids)∧True)∧True)))))∧(∀ k2:Nat,((k2≤(a0a gg).toNat∧p.kind=7) →
 (((decide ((k2:Int)<(a0a gg)))=true →
 ((a8r (b2c gg xs p) k2).length≤140737488355328 →
 ((a8r (b2c gg xs p) k2).length≤140737488355328 →
 (((a8r (b2c gg xs p) k2).length≤4096∧sqT (a8r (b2c gg xs p) k2).length (a8r (b2c gg xs p) k2)∧sqT (a8r (b2c gg xs p) k2).length (a8r (b2c gg xs p) k2))∧((b9d (a8r (b2c gg xs p) k2) (a8r (b2c gg xs p) k2)).length≤140737488355328 →
 (a0c ((k2:Int)+(1:Int))∧(∃ k3:Nat,((k3≤(a0a gg).toNat∧p.kind=7)∧((a0a gg).toNat - k3<(a0a gg).toNat - k2∧((p=p∧(True∧((a0a gg)=(a0a gg)∧(True∧(True∧((a0a gg)=(a0a gg)∧(((k2:Int)+(1:Int))=(k3:Int)∧True)))))))∧(((b9d (a8r (b2c gg xs p) k2) (a8r (b2c gg xs p) k2))=(a8r (b2c gg xs p) k3)∧True)∧(((a1u (a0a gg) xs p.kids)=(a1u (a0a gg) xs p.kids)∧True)∧True))))))))))))∧((decide ((k2:Int)<(a0a gg)))=false →
 ((0≤(a0a gg)∧(a0a gg)≤4096∧d3j (a0a gg) (a7i (a8r (b2c gg xs p) k2) p))∧((a7f (a0a gg) (a7i (a8r (b2c gg xs p) k2) p)).length≤140737488355328 →
 (a7f (a0a gg) (a7i (a8r (b2c gg xs p) k2) p))=(a0g (a0a gg) xs p)))))))))))∧((decide (p.kind=(7:Int)))=false →
 ((0≤(a0a gg)∧(a0a gg)≤4096∧d3j (a0a gg) (a7j p (a1u (a0a gg) xs p.kids)))∧((a7f (a0a gg) (a7j p (a1u (a0a gg) xs p.kids))).length≤140737488355328 →
 (a7f (a0a gg) (a7j p (a1u (a0a gg) xs p.kids)))=(a0g (a0a gg) xs p)))))))))))))))):=by kernel_rfl
theorem h2e(n:Nat)(hE:a0o [b9y n,a3o,a5l,b5r,b7z,b8a,b8b,b8c]):Ctr.Good (b9y (n+1)):=by
 refine⟨a0l c5l rfl (by decide),?_⟩
 show ∀ (gg:a0h) (xs:List a0e) (p:a0d),(msz p<n+1∧okL gg xs p)→a1e prog c8n [.val ⟨(.st .sig),gg⟩, .val ⟨(.slice (.st .premise)),xs⟩, .val ⟨(.st .prog),p⟩] (·=[⟨(.slice (.slice .bool)),a0g (a0a gg) xs p⟩])
 intro gg xs p hp
 refine a0w (wr:=[]) (cl:=[d1k,d1l,d1m,d1n]) (ro:=[3,4,5]) hE c5l g3z (f3p gg xs p) ?_
 rewrite [h2p n gg xs p]
 have f0:=b8x p
 have f1:=a5w gg hp.2.sig
 have f2:=h5w (a0a gg) xs p.kids
 have f3:=i6w gg xs p hp.2
 have f5:=i6x gg xs p hp.2
 have f7:=i3q gg xs p hp.2
 have fX:=i6y gg xs p hp.2
 have fw:a7f (a0a gg) (a4r p (a1u (a0a gg) xs p.kids))=b2c gg xs p:=rfl
 have f8:=i4n gg xs p (by have:=hp.2.tree;rw[a7g,Bool.and_eq_true] at this;exact this.1)
 have fl:=c8h (a0a gg) xs p.kids
 refine⟨?_,fun a0=>⟨fun a1=>fun a2=>⟨⟨0,⟨?_,⟨⟨rfl,⟨rfl,⟨rfl,⟨trivial,⟨rfl,⟨trivial,⟨rfl,⟨rfl,⟨?_,trivial⟩⟩⟩⟩⟩⟩⟩⟩⟩,⟨⟨trivial,trivial⟩,⟨?_,trivial⟩⟩⟩⟩⟩,fun k1 a3=>have b3x0:=h5v (a0a gg) xs zP p.kids k1;have b3x1:=h7w (a0a gg) xs p.kids k1;have b3x2:=a3d zP p.kids k1;have b3x3:=h6o gg xs p hp.2 zP k1;have b3x4:=c8h (a0a gg) xs (p.kids.take k1);⟨fun a4=>⟨?_,⟨?_,fun a5=>fun a6=>⟨?_,⟨?_,⟨k1+1,⟨?_,⟨?_,⟨⟨rfl,⟨rfl,⟨rfl,⟨trivial,⟨rfl,⟨trivial,⟨rfl,⟨rfl,⟨?_,trivial⟩⟩⟩⟩⟩⟩⟩⟩⟩,⟨⟨trivial,trivial⟩,⟨?_,trivial⟩⟩⟩⟩⟩⟩⟩⟩⟩⟩,fun a4=>⟨(),⟨?_,⟨⟨rfl,⟨rfl,⟨trivial,⟨rfl,⟨trivial,trivial⟩⟩⟩⟩⟩,⟨⟨trivial,trivial⟩,⟨?_,trivial⟩⟩⟩⟩⟩⟩⟩,fun u1=>fun a1=>fun a2=>⟨fun a3=>⟨?_,fun a4=>?_⟩,fun a3=>⟨fun a4=>⟨?_,⟨?_,fun a5=>fun a6=>⟨?_,fun a7=>?_⟩⟩⟩,fun a4=>⟨fun a5=>⟨?_,fun a6=>⟨⟨0,⟨?_,⟨⟨rfl,⟨trivial,⟨rfl,⟨trivial,⟨trivial,⟨rfl,⟨?_,trivial⟩⟩⟩⟩⟩⟩⟩,⟨⟨?_,trivial⟩,⟨⟨rfl,trivial⟩,trivial⟩⟩⟩⟩⟩,fun k2 a7=>have b7x0:=(fun e=>((i3q gg xs p hp.2 e).2.1 k2));⟨fun a8=>fun a9=>fun a10=>⟨?_,fun a11=>⟨?_,⟨k2+1,⟨?_,⟨?_,⟨⟨rfl,⟨trivial,⟨rfl,⟨trivial,⟨trivial,⟨rfl,⟨?_,trivial⟩⟩⟩⟩⟩⟩⟩,⟨⟨?_,trivial⟩,⟨⟨rfl,trivial⟩,trivial⟩⟩⟩⟩⟩⟩⟩⟩,fun a8=>⟨?_,fun a9=>?_⟩⟩⟩⟩,fun a5=>⟨?_,fun a6=>?_⟩⟩⟩⟩⟩⟩
 all_goals try and_intros
 all_goals try simp only[a0b.eta,a0d.eta,a1g.eta,a0e.eta,a2u,a2z,a2o,a2f] at *
 all_goals first|rfl|trivial|omega|(simp only[decide_eq_true_eq,decide_eq_false_iff_not,a0k,a0c,a1p,c8h,List.length_append,List.length_cons,List.length_nil,List.length_take] at *;omega)|(refine⟨by omega,by omega,?_⟩;grind)|grind [a0k,a8r]
theorem h0j :∀ n,a0o [b9y n]
 | 0=>⟨⟨a0l c5l rfl (by decide),fun _ _ _ h=>absurd h.1 (Nat.not_lt_zero _)⟩,trivial⟩
 | n+1=>by
  have ih:=h0j  n
  exact⟨h2e n ⟨ih.1,b6z,c8b,f2y,f7g,f7h,f7i,f7j,trivial⟩,trivial⟩
theorem c8a :Ctr.Good a6y :=
 ⟨a0l c5l rfl (by decide),fun gg xs p hp=>(h0j  (msz p+1)).1.2 gg xs p (⟨Nat.lt_succ_self _,hp⟩)⟩
end
end Go.Proofs.YthebhlkdppmefaaGreat

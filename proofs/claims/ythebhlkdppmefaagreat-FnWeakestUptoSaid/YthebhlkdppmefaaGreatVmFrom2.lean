/- From, From2. -/
import Derived.Test.YthebhlkdppmefaaGreatVmUse
import Derived.Test.YthebhlkdppmefaaGreatVmLib
import Derived.Test.YthebhlkdppmefaaGreatVmAllows
import Derived.Test.YthebhlkdppmefaaGreatVmProg
import Derived.Test.YthebhlkdppmefaaGreatVmLeads2
import Derived.Test.YthebhlkdppmefaaGreatVmLeads3
set_option linter.unusedVariables false
set_option linter.unusedSimpArgs false
set_option linter.unusedSectionVars false
set_option maxRecDepth 4000
set_option maxHeartbeats 4000000
namespace Go.Proofs.YthebhlkdppmefaaGreat
noncomputable section
def a5t(v:Int):List Int→List Int
 | []=>[v]
 | x::xs=>if x<v then x::a5t v xs else if x=v then x::xs else v::x::xs
def ltP(v x:Int):Bool:=decide (x<v)
def a6k(v:Int)(xs:List Int)(k:Nat):List Int:=bif a0v (ltP v) (xs.take k) then xs.take k else a5t v (xs.take k)
theorem h6q(v x:Int):∀ ys:List Int,v<x→a5t v (ys++[x])=a5t v ys++[x]
 | [],h=>by simp[a5t,Int.not_lt.2 (Int.le_of_lt h),Int.ne_of_gt h]
 | y::ys,h=>by
  have:=h6q v x ys h
  simp only[List.cons_append,a5t]
  split
  ·rw[this];rfl
  ·split<;>rfl
theorem d1j(v:Int):∀ ys:List Int,a0v (ltP v) ys=true→a5t v ys=ys++[v]∧(∀ x,v≤x→a5t v (ys++[x])=if x=v then ys++[x] else ys++[v]++[x])
 | [],_=>⟨rfl,fun x hx=>by simp[a5t,Int.not_lt.2 hx]⟩
 | y::ys,h=>by
  simp only[a0v,Bool.and_eq_true,ltP,decide_eq_true_eq] at h
  obtain⟨h1,h2⟩:=d1j v ys (by simpa [ltP] using h.2)
  refine⟨by simp[a5t,h.1,h1],fun x hx=>?_⟩
  simp only[List.cons_append,a5t,if_pos h.1,h2 x hx]
  split<;>rfl
theorem h5a(v:Int)(x:Int):∀ ys:List Int,a0v (ltP v) ys=false→a5t v (ys++[x])=a5t v ys++[x]
 | [],h=>by cases h
 | y::ys,h=>by
  simp only[List.cons_append,a5t]
  split
  ·rename_i hy
   have h':a0v (ltP v) ys=false:=by simpa [a0v,ltP,hy] using h
   rw[h5a v x ys h'];rfl
  ·split<;>rfl
theorem i0h(v:Int)(xs:List Int)(k:Nat)(h:k<xs.length) :
  (a0v (ltP v) (xs.take k)=true→xs.getD k 0<v→a6k v xs k++[xs.getD k 0]=a6k v xs (k+1)) ∧
  (a0v (ltP v) (xs.take k)=true→v<xs.getD k 0→a6k v xs k++[v]++[xs.getD k 0]=a6k v xs (k+1)) ∧
  (a0v (ltP v) (xs.take k)=true→xs.getD k 0=v→a6k v xs k++[xs.getD k 0]=a6k v xs (k+1)) ∧
  (a0v (ltP v) (xs.take k)=false→a6k v xs k++[xs.getD k 0]=a6k v xs (k+1)) ∧
  a0v (ltP v) (xs.take (k+1))=(a0v (ltP v) (xs.take k)&&decide (xs.getD k 0<v)):=by
 have ht:=a3h (ltP v) 0 xs k h
 rw[ltP] at ht
 have hs:=a8f 0 xs k h
 generalize xs.getD k 0=y at *
 refine⟨fun a b=>?_,fun a b=>?_,fun a b=>?_,fun a=>?_,ht⟩
 ·unfold a6k;rw[ht,a,hs];simp[b]
 ·unfold a6k;rw[ht,a,hs]
  have:=(d1j v _ a).2 _ (Int.le_of_lt b)
  rw[if_neg (Int.ne_of_gt b)] at this
  simp[Int.not_lt.2 (Int.le_of_lt b)]
  simpa using this.symm
 ·unfold a6k;rw[ht,a,hs]
  have:=(d1j v _ a).2 _ (Int.le_of_eq b.symm)
  rw[if_pos b] at this
  simp[b]
  rw[b] at this
  simpa using this.symm
 ·unfold a6k;rw[ht,a,hs]
  simp[h5a v _ _ a]
theorem i2r(v:Int)(xs:List Int)(k:Nat)(h:xs.length≤k):(a0v (ltP v) (xs.take k)=true→a6k v xs k++[v]=a5t v xs)∧(a0v (ltP v) (xs.take k)=false→a6k v xs k=a5t v xs):=by
 unfold a6k
 rw[List.take_of_length_le h]
 refine⟨fun a=>?_,fun a=>?_⟩
 ·rw[a];exact (d1j v xs a).1.symm
 ·rw[a];rfl
theorem i2s(v:Int)(xs:List Int)(k:Nat):(a6k v xs k).length≤xs.length+1:=by
 have hp:∀ ys:List Int,(a5t v ys).length≤ys.length+1:=by
  intro ys
  induction ys with
  | nil=>simp[a5t]
  | cons y ys ih=>simp only[a5t];split<;>(try split)<;>simp<;>omega
 unfold a6k
 cases a0v (ltP v) (xs.take k)
 ·have:=hp (xs.take k)
  simp only[cond_false]
  rw[List.length_take] at this;omega
 ·simp only[cond_true,List.length_take];omega
theorem i0i(v:Int)(xs:List Int):[]=a6k v xs 0:=by simp[a6k,a0v]
theorem i2t(v:Int)(xs:List Int):(a5t v xs).length≤xs.length+1:=by
 induction xs with
 | nil=>simp[a5t]
 | cons y ys ih=>simp only[a5t];split<;>(try split)<;>simp<;>omega
def a9c:Ctr:=⟨d3z,[.v (.slice (.int .i64))],fun (xs:List Int)=>⟨(some (xs.length≤1048576),[⟨(.slice (.int .i64)),xs⟩])⟩⟩
def e9x(xs:List Int):Nat→a0p:=fun _ => .none
theorem h0a(xs:List Int):awp (a0r []) (a0j b4y) (e9x xs) 0 (a1c (a0r []) b4y fun r=>a1f r [⟨(.slice (.int .i64)),xs⟩]) (a0m b4y [.val ⟨(.slice (.int .i64)),xs⟩]) =
 ((a1p ((@List.nil Int).length+xs.length) 8∧([]++xs)=xs)):=by kernel_rfl
theorem g9b(hE:a0o []):Ctr.Good a9c:=by
 refine⟨a0l e3k rfl (by decide),?_⟩
 show ∀ (xs:List Int),(xs.length≤1048576)→a1e prog d3z [.val ⟨(.slice (.int .i64)),xs⟩] (·=[⟨(.slice (.int .i64)),xs⟩])
 intro xs hp
 refine a0w (wr:=[]) (cl:=[]) (ro:=[]) hE e3k g0k (e9x xs) ?_
 rewrite [h0a xs]
 refine⟨?_,?_⟩
 all_goals try and_intros
 all_goals first|rfl|trivial|omega|(simp only[decide_eq_true_eq,decide_eq_false_iff_not,a0k,a0c,a1p,List.length_append,List.length_cons,List.length_nil] at *;omega)|grind [a0k,a0c,a1p]
theorem d7s:Ctr.Good a9c:=g9b trivial
def a9d:Ctr:=⟨d4a,[.v (.slice (.int .i64)), .v (.int .i64)],fun (xs:List Int) (v:Int)=>⟨(some (xs.length≤1048576),[⟨(.slice (.int .i64)),a5t v xs⟩])⟩⟩
def e9y(xs:List Int)(v:Int):Nat→a0p:=(fun zb=>if Nat.beq zb 0 then .mk (Nat) (fun k=>k≤xs.length) (fun k=>xs.length - k) [] [2,3,8] (fun k=>[(7, .imm ⟨(.int .i64),((k:Int):Int)⟩),(6, .imm ⟨.bool,(!(a0v (ltP v) (xs.take k)):Bool)⟩),(5, .row 8)]) [0,1,4,5,6,7,9,10,11,12,13,14,15,16,17,18,19,20,21,22,23,24,25,26,27,28,29,30,31,32,33,34,35,36,37,38,39,40,41,42,43,44,45,46,47,48] (fun k=>[(8, .row c0f (.int .i64) (a6k v xs k:List Int))]) [] [] (fun k=>fun _ => .none) else .none)
abbrev e0v(xs:List Int)(v:Int)(k1:Nat):Prop:=(a0k (k1:Int) xs.length∧(a0c (xs.getD k1 (0:Int)) →
 (((decide (v<(xs.getD k1 (0:Int))))=true →
 (a1p ((a6k v xs k1).length+([v]).length) 8∧(a0k (k1:Int) xs.length∧(a0c (xs.getD k1 (0:Int)) →
 (a1p (((a6k v xs k1)++([v])).length+([(xs.getD k1 (0:Int))]).length) 8∧(a0c ((k1:Int)+(1:Int))∧(∃ k2:Nat,(k2≤xs.length∧(xs.length - k2<xs.length - k1∧((xs=xs∧(v=v∧(True∧(True∧(true=(!(a0v (ltP v) (xs.take k2)))∧(((k1:Int)+(1:Int))=(k2:Int)∧True))))))∧((((a6k v xs k1)++([v]))++([(xs.getD k1 (0:Int))]))=(a6k v xs k2)∧True)))))))))))∧((decide (v<(xs.getD k1 (0:Int))))=false →
 (a0k (k1:Int) xs.length∧(a0c (xs.getD k1 (0:Int)) →
 (a1p ((a6k v xs k1).length+([(xs.getD k1 (0:Int))]).length) 8∧(a0c ((k1:Int)+(1:Int))∧(∃ k2:Nat,(k2≤xs.length∧(xs.length - k2<xs.length - k1∧((xs=xs∧(v=v∧(True∧(True∧(true=(!(a0v (ltP v) (xs.take k2)))∧(((k1:Int)+(1:Int))=(k2:Int)∧True))))))∧(((a6k v xs k1)++([(xs.getD k1 (0:Int))]))=(a6k v xs k2)∧True)))))))))))))
abbrev e0w(xs:List Int)(v:Int)(k1:Nat):Prop:=(a0k (k1:Int) xs.length∧(a0c (xs.getD k1 (0:Int)) →
 (a1p ((a6k v xs k1).length+([(xs.getD k1 (0:Int))]).length) 8∧(a0c ((k1:Int)+(1:Int))∧(∃ k2:Nat,(k2≤xs.length∧(xs.length - k2<xs.length - k1∧((xs=xs∧(v=v∧(True∧(True∧((!(a0v (ltP v) (xs.take k1)))=(!(a0v (ltP v) (xs.take k2)))∧(((k1:Int)+(1:Int))=(k2:Int)∧True))))))∧(((a6k v xs k1)++([(xs.getD k1 (0:Int))]))=(a6k v xs k2)∧True)))))))))
theorem h0b(xs:List Int)(v:Int):awp (a0r []) (a0j b4z) (e9y xs v) 0 (a1c (a0r []) b4z fun r=>a1f r [⟨(.slice (.int .i64)),a5t v xs⟩]) (a0m b4z [.val ⟨(.slice (.int .i64)),xs⟩, .val ⟨(.int .i64),v⟩]) =
 (((∃ k1:Nat,(k1≤xs.length∧((xs=xs∧(v=v∧(True∧(True∧(false=(!(a0v (ltP v) (xs.take k1)))∧((0:Int)=(k1:Int)∧True))))))∧([]=(a6k v xs k1)∧True))))∧(∀ k1:Nat,(k1≤xs.length →
 (a0c ((xs.length:Int)) →
 (((decide ((k1:Int)<((xs.length:Int))))=true →
 (((!(!(a0v (ltP v) (xs.take k1))))=true →
 (a0k (k1:Int) xs.length∧(a0c (xs.getD k1 (0:Int)) →
 (((decide (v≤(xs.getD k1 (0:Int))))=true →
 (e0v xs v k1))∧((decide (v≤(xs.getD k1 (0:Int))))=false →
 (e0w xs v k1))))))∧((!(!(a0v (ltP v) (xs.take k1))))=(!true) →
 ((false=true →
 (e0v xs v k1))∧(false=false →
 (e0w xs v k1))))))∧((decide ((k1:Int)<((xs.length:Int))))=false →
 (((!(!(a0v (ltP v) (xs.take k1))))=true →
 (a1p ((a6k v xs k1).length+([v]).length) 8∧((a6k v xs k1)++([v]))=(a5t v xs)))∧((!(!(a0v (ltP v) (xs.take k1))))=false →
 (a6k v xs k1)=(a5t v xs)))))))))):=by kernel_rfl
theorem g9c(hE:a0o []):Ctr.Good a9d:=by
 refine⟨a0l e3l rfl (by decide),?_⟩
 show ∀ (xs:List Int) (v:Int),(xs.length≤1048576)→a1e prog d4a [.val ⟨(.slice (.int .i64)),xs⟩, .val ⟨(.int .i64),v⟩] (·=[⟨(.slice (.int .i64)),a5t v xs⟩])
 intro xs v hp
 refine a0w (wr:=[]) (cl:=[]) (ro:=[]) hE e3l g0l (e9y xs v) ?_
 rewrite [h0b xs v]
 have f0:=i0i v xs
 have f1:=a8h (ltP v) xs
 refine⟨⟨0,⟨?_,⟨⟨rfl,⟨rfl,⟨trivial,⟨trivial,⟨?_,⟨?_,trivial⟩⟩⟩⟩⟩⟩,⟨?_,trivial⟩⟩⟩⟩,fun k1 a0=>have b0x0:=i0h v xs k1;have b0x1:=i2r v xs k1;have b0x2:=i2s v xs k1;fun a1=>⟨fun a2=>⟨fun a3=>⟨?_,fun a4=>⟨fun a5=>⟨?_,fun a6=>⟨fun a7=>⟨?_,⟨?_,fun a8=>⟨?_,⟨?_,⟨k1+1,⟨?_,⟨?_,⟨⟨rfl,⟨rfl,⟨trivial,⟨trivial,⟨?_,⟨?_,trivial⟩⟩⟩⟩⟩⟩,⟨?_,trivial⟩⟩⟩⟩⟩⟩⟩⟩⟩,fun a7=>⟨?_,fun a8=>⟨?_,⟨?_,⟨k1+1,⟨?_,⟨?_,⟨⟨rfl,⟨rfl,⟨trivial,⟨trivial,⟨?_,⟨?_,trivial⟩⟩⟩⟩⟩⟩,⟨?_,trivial⟩⟩⟩⟩⟩⟩⟩⟩⟩⟩,fun a5=>⟨?_,fun a6=>⟨?_,⟨?_,⟨k1+1,⟨?_,⟨?_,⟨⟨rfl,⟨rfl,⟨trivial,⟨trivial,⟨?_,⟨?_,trivial⟩⟩⟩⟩⟩⟩,⟨?_,trivial⟩⟩⟩⟩⟩⟩⟩⟩⟩⟩,fun a3=>⟨fun a4=>⟨?_,fun a5=>⟨fun a6=>⟨?_,⟨?_,fun a7=>⟨?_,⟨?_,⟨k1+1,⟨?_,⟨?_,⟨⟨rfl,⟨rfl,⟨trivial,⟨trivial,⟨?_,⟨?_,trivial⟩⟩⟩⟩⟩⟩,⟨?_,trivial⟩⟩⟩⟩⟩⟩⟩⟩⟩,fun a6=>⟨?_,fun a7=>⟨?_,⟨?_,⟨k1+1,⟨?_,⟨?_,⟨⟨rfl,⟨rfl,⟨trivial,⟨trivial,⟨?_,⟨?_,trivial⟩⟩⟩⟩⟩⟩,⟨?_,trivial⟩⟩⟩⟩⟩⟩⟩⟩⟩⟩,fun a4=>⟨?_,fun a5=>⟨?_,⟨?_,⟨k1+1,⟨?_,⟨?_,⟨⟨rfl,⟨rfl,⟨trivial,⟨trivial,⟨?_,⟨?_,trivial⟩⟩⟩⟩⟩⟩,⟨?_,trivial⟩⟩⟩⟩⟩⟩⟩⟩⟩⟩,fun a2=>⟨fun a3=>⟨?_,?_⟩,fun a3=>?_⟩⟩⟩
 all_goals try and_intros
 all_goals first|rfl|trivial|omega|(simp only[decide_eq_true_eq,decide_eq_false_iff_not,a0k,a0c,a1p,List.length_append,List.length_cons,List.length_nil] at *;omega)|grind [a0k,a0c,a1p]
theorem d7t:Ctr.Good a9d:=g9c trivial
end
end Go.Proofs.YthebhlkdppmefaaGreat

set_option linter.unusedVariables false
set_option linter.unusedSimpArgs false
set_option linter.unusedSectionVars false
set_option maxRecDepth 4000
set_option maxHeartbeats 4000000
namespace Go.Proofs.YthebhlkdppmefaaGreat
noncomputable section
def c4p(xs:List Int)(k:Nat):Bool:=decide ((k:Int)∈xs)
theorem b1l(p:Nat→Bool)(v:Int):∀ n,v∈a0y p n↔∃ k,k<n∧v=(k:Int)∧p k=true
 | 0=>by simp[a0y]
 | n+1=>by
  rw[a0y,List.mem_append,b1l p v n]
  constructor
  ·rintro (⟨k,h1,h2,h3⟩|h)
   ·exact⟨k,by omega,h2,h3⟩
   ·cases e:p n
    ·rw[e] at h;simp at h
    ·rw[e] at h;simp at h;exact⟨n,by omega,h,e⟩
  ·rintro⟨k,h1,h2,h3⟩
   rcases Nat.lt_or_ge k n with h'|h'
   ·exact .inl ⟨k,h',h2,h3⟩
   ·have:k=n:=by omega
    subst this
    exact .inr (by rw[h3];simp[h2])
theorem f4f(p:Nat→Bool)(n k:Nat)(h:k<n):c4p (a0y p n) k=p k:=by
 unfold c4p
 cases e:p k
 ·rw[decide_eq_false_iff_not,b1l]
  rintro⟨j,h1,h2,h3⟩
  have:k=j:=by omega
  subst this
  rw[e] at h3;cases h3
 ·rw[decide_eq_true_eq,b1l]
  exact⟨k,h,rfl,e⟩
structure a3k(n:Int)(xs:List Int):Prop where
 eq:xs=a0y (c4p xs) n.toNat
theorem b1y(n:Int)(p:Nat→Bool):a3k n (a0y p n.toNat):=⟨a3f _ _ _ fun k hk=>(f4f p _ k hk).symm⟩
theorem h0v(n:Int)(xs:List Int)(h:a3k n xs):xs.length≤n.toNat:=by rw[h.eq];exact a6b _ _
theorem h4n(n:Int)(xs:List Int)(h:a3k n xs)(i:Nat)(hi:i<xs.length):0≤xs.getD i 0∧xs.getD i 0<n:=by
 have hm:xs.getD i 0∈xs:=by simp[List.getD,hi]
 have h2:xs.getD i 0∈a0y (c4p xs) n.toNat:=h.eq ▸ hm
 rw[b1l] at h2
 obtain⟨k,h1,h3,_⟩:=h2
 omega
theorem i3c(p:Nat→Bool)(n:Nat):a0v (ltP (n:Int)) (a0y p n)=true:=by
 have:∀ xs:List Int,(∀ x∈xs,x<(n:Int))→a0v (ltP (n:Int)) xs=true:=by
  intro xs
  induction xs with
  | nil=>intro _;rfl
  | cons x xs ih=>intro h;simp only[a0v,ltP,Bool.and_eq_true,decide_eq_true_eq];exact⟨h x (by simp),ih fun y hy=>h y (by simp[hy])⟩
 refine this _ fun x hx=>?_
 rw[b1l] at hx
 obtain⟨k,h1,h2,_⟩:=hx
 omega
theorem h5b(p:Nat→Bool)(v:Nat):∀ n,v<n→a5t (v:Int) (a0y p n)=a0y (fun k=>p k||decide (v=k)) n
 | n+1,h=>by
  rcases Nat.lt_or_ge v n with h'|h'
  ·have ih:=h5b p v n h'
   have e:(p n||decide (v=n))=p n:=by simp[Nat.ne_of_lt h']
   rw[a0y,a0y,e,←ih]
   cases p n
   ·simp
   ·simp only[cond_true];exact h6q _ _ _ (by omega)
  ·have:v=n:=by omega
   subst this
   have ha:=i3c p v
   have e:a0y (fun k=>p k||decide (v=k)) v=a0y p v:=a3f _ _ _ fun k hk=>by simp[Nat.ne_of_gt hk]
   rw[a0y,a0y,e]
   cases p v
   ·simpa using (d1j _ _ ha).1
   ·have:=(d1j _ _ ha).2 (v:Int) (Int.le_refl _)
    simpa using this
def a2l(a b:List Int):List Int:=b.foldl (fun o v=>a5t v o) a
theorem f9q(a b:List Int):a=a2l a (b.take 0):=by simp[a2l]
theorem f9p(a b:List Int)(k:Nat)(h:k<b.length):a5t (b.getD k 0) (a2l a (b.take k))=a2l a (b.take (k+1)):=by
 rw[a8f 0 b k h];simp[a2l]
theorem g6w(a b:List Int)(k:Nat)(h:b.length≤k):a2l a (b.take k)=a2l a b:=by rw[List.take_of_length_le h]
theorem h8o(b:List Int):∀ a,(a2l a b).length≤a.length+b.length:=by
 induction b with
 | nil=>intro a;simp[a2l]
 | cons x b ih =>
  intro a
  have h1:=ih (a5t x a)
  have h2:=i2t x a
  simp only[a2l,List.foldl_cons,List.length_cons] at h1 ⊢
  omega
theorem e8s(p:Nat→Bool)(n:Nat):∀ (b:List Int) (p:Nat→Bool),(∀ x∈b,0≤x∧x<(n:Int))→a2l (a0y p n) b=a0y (fun k=>p k||c4p b k) n
 | [],p,_=>by
  refine a3f _ _ _ fun k _=>?_
  simp[c4p]
 | x::b,p,h=>by
  have hx:=h x (by simp)
  have e:x=((x.toNat:Nat):Int):=by omega
  show a2l (a5t x (a0y p n)) b=_
  rw[e,h5b p x.toNat n (by omega),e8s p n b _ fun y hy=>h y (by simp[hy])]
  refine a3f _ _ _ fun k hk=>?_
  have:decide (x.toNat=k)=decide ((k:Int)=x):=by rw[decide_eq_decide];omega
  simp only[c4p,List.mem_cons,this,Bool.or_assoc,Bool.decide_or]
  congr 3
  rw[eq_iff_iff];omega
theorem f5e(n:Int)(p q:Nat→Bool):a2l (a0y p n.toNat) (a0y q n.toNat)=a0y (fun k=>p k||q k) n.toNat:=by
 rw[e8s p _ _ p fun x hx=>by
  rw[b1l] at hx
  obtain⟨k,h1,h2,_⟩:=hx
  omega]
 exact a3f _ _ _ fun k hk=>by rw[f4f _ _ _ hk]
def a2w(c:a0b):List Int→List Int
 | []=>[]
 | x::xs=>bif a1b x c then x::a2w c xs else a2w c xs
def noL(c:a0b):List Int→List Int
 | []=>[]
 | x::xs=>bif a1b x c then noL c xs else x::noL c xs
theorem e9d(c:a0b)(ys:List Int):∀ xs,a2w c (xs++ys)=a2w c xs++a2w c ys
 | []=>rfl
 | x::xs=>by
  simp only[List.cons_append,a2w,e9d c ys xs]
  cases a1b x c<;>rfl
theorem f5t(c:a0b)(ys:List Int):∀ xs,noL c (xs++ys)=noL c xs++noL c ys
 | []=>rfl
 | x::xs=>by
  simp only[List.cons_append,noL,f5t c ys xs]
  cases a1b x c<;>rfl
theorem i5y(c:a0b)(xs:List Int)(k:Nat)(h:k<xs.length)(e:a1b (xs.getD k 0) c=true):a2w c (xs.take k)++[xs.getD k 0]=a2w c (xs.take (k+1))∧noL c (xs.take k)=noL c (xs.take (k+1)):=by
 rw[a8f 0 xs k h,e9d,f5t];generalize xs.getD k 0=y at *;simp[a2w,noL,e]
theorem i5x(c:a0b)(xs:List Int)(k:Nat)(h:k<xs.length)(e:a1b (xs.getD k 0) c=false):a2w c (xs.take k)=a2w c (xs.take (k+1))∧noL c (xs.take k)++[xs.getD k 0]=noL c (xs.take (k+1)):=by
 rw[a8f 0 xs k h,e9d,f5t];generalize xs.getD k 0=y at *;simp[a2w,noL,e]
theorem h4y(c:a0b):∀ xs:List Int,(a2w c xs).length≤xs.length∧(noL c xs).length≤xs.length
 | []=>⟨Nat.le_refl _,Nat.le_refl _⟩
 | x::xs=>by
  obtain⟨h1,h2⟩:=h4y c xs
  simp only[a2w,noL]
  cases a1b x c<;>simp<;>omega
theorem e6o(c:a0b)(p:Nat→Bool):∀ n,a2w c (a0y p n)=a0y (fun k=>p k&&a1b (k:Int) c) n
 | 0=>rfl
 | n+1=>by
  rw[a0y,a0y,e9d,e6o c p n]
  cases e:p n
  ·simp[a2w]
  ·cases e2:a1b (n:Int) c<;>simp[a2w,e2]
theorem f4i(c:a0b)(p:Nat→Bool):∀ n,noL c (a0y p n)=a0y (fun k=>p k && !a1b (k:Int) c) n
 | 0=>rfl
 | n+1=>by
  rw[a0y,a0y,f5t,f4i c p n]
  cases e:p n
  ·simp[noL]
  ·cases e2:a1b (n:Int) c<;>simp[noL,e2]
theorem i2k(n:Int)(c:a0b)(xs:List Int)(h:a3k n xs):a3k n (a2w c xs)∧a3k n (noL c xs):=by
 rw[h.eq,e6o,f4i]
 exact⟨b1y _ _,b1y _ _⟩
theorem i4y(n:Int)(xs:List Int)(h:a3k n xs)(k:Nat):∀ x∈xs.take k,0≤x∧x<n:=by
 intro x hx
 have hm:=List.mem_of_mem_take hx
 rw[h.eq,b1l] at hm
 obtain⟨j,h1,h2,_⟩:=hm
 omega
theorem g6x(n:Int)(a b:List Int)(ha:a3k n a)(hb:a3k n b)(k:Nat):a3k n (a2l a (b.take k)):=by
 have h:=i4y n b hb k
 rcases Int.lt_or_le n 0 with hn|hn
 ·have h0:n.toNat=0:=by omega
  have e:b=[]:=by have:=h0v n b hb;rw[h0] at this;exact List.eq_nil_of_length_eq_zero (by omega)
  rw[e];simpa [a2l] using ha
 ·rw[ha.eq,e8s (c4p a) n.toNat _ _ fun x hx=>by have:=h x hx;omega]
  exact b1y _ _
def a5z:Ctr:=⟨c6g,[.r (.st .expr), .v (.slice (.int .i64))],fun (c:a0b) (xs:List Int)=>⟨(some (a1k c=true∧xs.length≤1048576∧∀ i,i<xs.length→0≤xs.getD i 0∧xs.getD i 0≤4096),[⟨(.slice (.int .i64)),a2w c xs⟩,⟨(.slice (.int .i64)),noL c xs⟩])⟩⟩
def d8n(c:a0b)(xs:List Int):Nat→a0p:=(fun zb=>if Nat.beq zb 0 then .mk (Nat) (fun k=>k≤xs.length) (fun k=>xs.length - k) [] [2,3,9,10] (fun k=>[(8, .imm ⟨(.int .i64),((k:Int):Int)⟩),(6, .row 9),(7, .row 10)]) [0,1,4,5,6,7,8,11,12,13,14,15,16,17,18,19,20,21,22,23,24,25,26,27,28,29,30,31,32,33,34,35,36,37,38] (fun k=>[(9, .row c0f (.int .i64) (a2w c (xs.take k):List Int)),(10, .row c0f (.int .i64) (noL c (xs.take k):List Int))]) [] [] (fun k=>fun _ => .none) else .none)
theorem f8q(c:a0b)(xs:List Int):awp (a0r [a5h]) (a0j a9y) (d8n c xs) 0 (a1c (a0r [a5h]) a9y fun r=>a1f r [⟨(.slice (.int .i64)),a2w c xs⟩,⟨(.slice (.int .i64)),noL c xs⟩]) (a0m a9y [.ref ⟨(.st .expr),c⟩, .val ⟨(.slice (.int .i64)),xs⟩]) =
 (((∃ k1:Nat,(k1≤xs.length∧((c=c∧(xs=xs∧(True∧(True∧(True∧(True∧((0:Int)=(k1:Int)∧True)))))))∧([]=(a2w c (xs.take k1))∧([]=(noL c (xs.take k1))∧True)))))∧(∀ k1:Nat,(k1≤xs.length →
 (a0c ((xs.length:Int)) →
 (((decide ((k1:Int)<((xs.length:Int))))=true →
 (a0k (k1:Int) xs.length∧(a0c (xs.getD k1 (0:Int)) →
 ((a1k c=true∧0≤(xs.getD k1 (0:Int))∧(xs.getD k1 (0:Int))≤4096)∧(((a1b (xs.getD k1 (0:Int)) c)=true →
 (a0k (k1:Int) xs.length∧(a0c (xs.getD k1 (0:Int)) →
 (a1p ((a2w c (xs.take k1)).length+([(xs.getD k1 (0:Int))]).length) 8∧(a0c ((k1:Int)+(1:Int))∧(∃ k2:Nat,(k2≤xs.length∧(xs.length - k2<xs.length - k1∧((c=c∧(xs=xs∧(True∧(True∧(True∧(True∧(((k1:Int)+(1:Int))=(k2:Int)∧True)))))))∧(((a2w c (xs.take k1))++([(xs.getD k1 (0:Int))]))=(a2w c (xs.take k2))∧((noL c (xs.take k1))=(noL c (xs.take k2))∧True)))))))))))∧((a1b (xs.getD k1 (0:Int)) c)=false →
 (a0k (k1:Int) xs.length∧(a0c (xs.getD k1 (0:Int)) →
 (a1p ((noL c (xs.take k1)).length+([(xs.getD k1 (0:Int))]).length) 8∧(a0c ((k1:Int)+(1:Int))∧(∃ k2:Nat,(k2≤xs.length∧(xs.length - k2<xs.length - k1∧((c=c∧(xs=xs∧(True∧(True∧(True∧(True∧(((k1:Int)+(1:Int))=(k2:Int)∧True)))))))∧((a2w c (xs.take k1))=(a2w c (xs.take k2))∧(((noL c (xs.take k1))++([(xs.getD k1 (0:Int))]))=(noL c (xs.take k2))∧True))))))))))))))))∧((decide ((k1:Int)<((xs.length:Int))))=false →
 ((a2w c (xs.take k1))=(a2w c xs)∧(noL c (xs.take k1))=(noL c xs))))))))):=by kernel_rfl
theorem f8f(hE:a0o [a5h]):Ctr.Good a5z:=by
 refine⟨a0l d4p rfl (by decide),?_⟩
 show ∀ (c:a0b) (xs:List Int),(a1k c=true∧xs.length≤1048576∧∀ i,i<xs.length→0≤xs.getD i 0∧xs.getD i 0≤4096)→a1e prog c6g [.ref ⟨(.st .expr),c⟩, .val ⟨(.slice (.int .i64)),xs⟩] (·=[⟨(.slice (.int .i64)),a2w c xs⟩,⟨(.slice (.int .i64)),noL c xs⟩])
 intro c xs hp
 refine a0w (wr:=[]) (cl:=[]) (ro:=[]) hE d4p f0s (d8n c xs) ?_
 rewrite [f8q c xs]
 have f0:[]=a2w c (xs.take 0):=by simp[a2w]
 have f1:[]=noL c (xs.take 0):=by simp[noL]
 refine⟨⟨0,⟨?_,⟨⟨rfl,⟨rfl,⟨trivial,⟨trivial,⟨trivial,⟨trivial,⟨?_,trivial⟩⟩⟩⟩⟩⟩⟩,⟨?_,⟨?_,trivial⟩⟩⟩⟩⟩,fun k1 a0=>have b0x0:=i5y c xs k1;have b0x1:=i5x c xs k1;have b0x2:=h4y c (xs.take k1);have b0x3:=hp.2.2 k1;have b0x4:=(fun (h:xs.length≤k1)=>List.take_of_length_le h);have b0x5:=(List.length_take:(xs.take k1).length=min k1 xs.length);fun a1=>⟨fun a2=>⟨?_,fun a3=>⟨?_,⟨fun a4=>⟨?_,fun a5=>⟨?_,⟨?_,⟨k1+1,⟨?_,⟨?_,⟨⟨rfl,⟨rfl,⟨trivial,⟨trivial,⟨trivial,⟨trivial,⟨?_,trivial⟩⟩⟩⟩⟩⟩⟩,⟨?_,⟨?_,trivial⟩⟩⟩⟩⟩⟩⟩⟩⟩,fun a4=>⟨?_,fun a5=>⟨?_,⟨?_,⟨k1+1,⟨?_,⟨?_,⟨⟨rfl,⟨rfl,⟨trivial,⟨trivial,⟨trivial,⟨trivial,⟨?_,trivial⟩⟩⟩⟩⟩⟩⟩,⟨?_,⟨?_,trivial⟩⟩⟩⟩⟩⟩⟩⟩⟩⟩⟩⟩,fun a2=>⟨?_,?_⟩⟩⟩
 all_goals try and_intros
 all_goals first|rfl|trivial|omega|(simp only[decide_eq_true_eq,decide_eq_false_iff_not,a0k,a0c,a1p,List.length_append,List.length_cons,List.length_nil] at *;omega)|grind [a0k,a0c,a1p]
theorem c9q:Ctr.Good a5z:=f8f ⟨c4f,trivial⟩
def b5w:Ctr:=⟨c8w,[.v (.slice (.int .i64)), .v (.slice (.int .i64))],fun (a:List Int) (b:List Int)=>⟨(some (a.length≤65536∧b.length≤65536),[⟨(.slice (.int .i64)),a2l a b⟩])⟩⟩
def e1i(a:List Int)(b:List Int):Nat→a0p:=(fun zb=>if Nat.beq zb 0 then .mk (Nat) (fun k=>k≤b.length) (fun k=>b.length - k) [] [0,2,3,7,8] (fun k=>[(6, .imm ⟨(.int .i64),((k:Int):Int)⟩),(5, .imm ⟨(.slice (.int .i64)),(a2l a (b.take k):List Int)⟩)]) [1,4,5,6,9,10,11,12,13,14,15,16,17,18,19,20,21] (fun k=>[]) [] [] (fun k=>fun _ => .none) else .none)
theorem g2t(a:List Int)(b:List Int):awp (a0r [a9c,a9d]) (a0j b1k) (e1i a b) 0 (a1c (a0r [a9c,a9d]) b1k fun r=>a1f r [⟨(.slice (.int .i64)),a2l a b⟩]) (a0m b1k [.val ⟨(.slice (.int .i64)),a⟩, .val ⟨(.slice (.int .i64)),b⟩]) =
 ((a.length≤1048576∧(a.length≤140737488355328 →
 ((∃ k1:Nat,(k1≤b.length∧((b=b∧(True∧(a=(a2l a (b.take k1))∧((0:Int)=(k1:Int)∧True))))∧True)))∧(∀ k1:Nat,(k1≤b.length →
 (a0c ((b.length:Int)) →
 (((decide ((k1:Int)<((b.length:Int))))=true →
 (a0k (k1:Int) b.length∧(a0c (b.getD k1 (0:Int)) →
 ((a2l a (b.take k1)).length≤1048576∧((a5t (b.getD k1 (0:Int)) (a2l a (b.take k1))).length≤140737488355328 →
 (a0c ((k1:Int)+(1:Int))∧(∃ k2:Nat,(k2≤b.length∧(b.length - k2<b.length - k1∧((b=b∧(True∧((a5t (b.getD k1 (0:Int)) (a2l a (b.take k1)))=(a2l a (b.take k2))∧(((k1:Int)+(1:Int))=(k2:Int)∧True))))∧True))))))))))∧((decide ((k1:Int)<((b.length:Int))))=false →
 (a2l a (b.take k1))=(a2l a b)))))))))):=by kernel_rfl
theorem g1x(hE:a0o [a9c,a9d]):Ctr.Good b5w:=by
 refine⟨a0l d7e rfl (by decide),?_⟩
 show ∀ (a:List Int) (b:List Int),(a.length≤65536∧b.length≤65536)→a1e prog c8w [.val ⟨(.slice (.int .i64)),a⟩, .val ⟨(.slice (.int .i64)),b⟩] (·=[⟨(.slice (.int .i64)),a2l a b⟩])
 intro a b hp
 refine a0w (wr:=[]) (cl:=[]) (ro:=[]) hE d7e f2i (e1i a b) ?_
 rewrite [g2t a b]
 have f0:=f9q a b
 refine⟨?_,fun a0=>⟨⟨0,⟨?_,⟨⟨rfl,⟨trivial,⟨?_,⟨?_,trivial⟩⟩⟩⟩,trivial⟩⟩⟩,fun k1 a1=>have b1x0:=f9p a b k1;have b1x1:=g6w a b k1;have b1x2:=h8o (b.take k1) a;have b1x3:=(List.length_take:(b.take k1).length=min k1 b.length);fun a2=>⟨fun a3=>⟨?_,fun a4=>⟨?_,fun a5=>⟨?_,⟨k1+1,⟨?_,⟨?_,⟨⟨rfl,⟨trivial,⟨?_,⟨?_,trivial⟩⟩⟩⟩,trivial⟩⟩⟩⟩⟩⟩⟩,fun a3=>?_⟩⟩⟩
 all_goals try and_intros
 all_goals first|rfl|trivial|omega|(simp only[decide_eq_true_eq,decide_eq_false_iff_not,a0k,a0c,a1p,List.length_append,List.length_cons,List.length_nil] at *;omega)|grind [a0k,a0c,a1p]
theorem f3g:Ctr.Good b5w:=g1x ⟨d7s,d7t,trivial⟩
end
end Go.Proofs.YthebhlkdppmefaaGreat

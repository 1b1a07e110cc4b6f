/- Auto, Auto2. -/
import Derived.Test.YtmdefiphdgcijaaDoorVmUse
import Derived.Test.YtmdefiphdgcijaaDoorVmLib
import Derived.Test.YtmdefiphdgcijaaDoorVmASplit
set_option linter.unusedVariables false
set_option linter.unusedSimpArgs false
set_option linter.unusedSectionVars false
namespace Go.Proofs.YtmdefiphdgcijaaDoor
noncomputable section
def dig(n:Int):List UInt8:=Lib.decDigits n.toNat
def a2c{α β:Type}(f:α→List β)(xs:List α):List β:=(xs.map f).flatten
theorem a6s{α β:Type}(f:α→List β)(x:α)(xs:List α):a2c f (x::xs)=f x++a2c f xs:=rfl
theorem d3n{α β:Type}(f:α→List β):a2c f []=[]:=rfl
theorem c2w{α β:Type}(f:α→List β)(xs ys:List α):a2c f (xs++ys)=a2c f xs++a2c f ys:=by simp[a2c]
theorem c8t{α β:Type}(f:α→List β)(z:α)(xs:List α)(i:Nat)(h:i<xs.length):a2c f (xs.take (i+1))=a2c f (xs.take i)++f (xs.getD i z):=by
 rw[a2k z xs i h,c2w,a6s,d3n,List.append_nil]
theorem d3m{α β:Type}(f:α→List β)(xs:List α)(i:Nat)(h:xs.length≤i):a2c f (xs.take i)=a2c f xs:=by rw[List.take_of_length_le h]
theorem c8u{α β:Type}(f:α→List β)(xs:List α):a2c f (xs.take 0)=[]:=rfl
theorem c5a(c:UInt8)(a b:List UInt8)(h1:∀ x∈a,(x == c)=false)(h2:∀ x∈b,(x == c)=false):∀ x∈a++b,(x == c)=false:=fun x hx=>(List.mem_append.1 hx).elim (h1 x) (h2 x)
theorem b6h{α:Type}(f:α→List UInt8)(M:Nat):∀ xs:List α,(∀ x∈xs,(f x).length≤M)→(a2c f xs).length≤M * xs.length
 | [],_=>by simp[a2c]
 | x::xs,h=>by
  have h1:=b6h f M xs fun y hy=>h y (by simp[hy])
  have h2:=h x (by simp)
  rw[a6s,List.length_append,List.length_cons,Nat.mul_succ];omega
theorem a9q{α:Type}(p:α→Bool)(xs:List α)(h:a1j p xs=true):∀ x∈xs,p x=true:=by
 induction xs with
 | nil=>intro x hx;cases hx
 | cons y ys ih =>
  simp only[a1j,Bool.and_eq_true] at h
  intro x hx
  rcases List.mem_cons.1 hx with rfl|hx
  ·exact h.1
  ·exact ih h.2 x hx
theorem b0s{α:Type}(z:α)(xs:List α)(i:Nat)(h:i<xs.length):xs.getD i z∈xs:=by
 rw[List.getD_eq_getElem?_getD,List.getElem?_eq_getElem h]
 exact List.getElem_mem _
def b4n(p:Nat→Bool):Nat→Bool
 | 0=>true
 | n+1=>b4n p n&&p n
theorem e0n(p:Nat→Bool):∀ (n k:Nat),k<n→p k=false→b4n p n=false
 | n+1,k,h,e=>by
  rcases Nat.lt_or_ge k n with h'|h'
  ·simp[b4n,e0n p n k h' e]
  ·have:k=n:=by omega
   subst this;simp[b4n,e]
theorem d8g(p:Nat→Bool)(n:Nat):b4n p (n+1)=(b4n p n&&p n):=rfl
theorem e0o(p:Nat→Bool):∀ n,b4n p n=true↔∀ k,k<n→p k=true
 | 0=>⟨fun _ k h=>absurd h (Nat.not_lt_zero k),fun _=>rfl⟩
 | n+1=>by
  rw[d8g,Bool.and_eq_true,e0o p n]
  constructor
  ·rintro⟨h1,h2⟩ k hk
   rcases Nat.lt_or_ge k n with h|h
   ·exact h1 k h
   ·have:k=n:=by omega
    subst this;exact h2
  ·intro h;exact⟨fun k hk=>h k (by omega),h n (by omega)⟩
def kOk(n k:Int):Bool:=decide (-1≤k∧k≤n - 1)
def b6v(g:a0t)(n:Int)(r:List Int):Bool:=decide ((r.length:Int)=g.actions)&&a1j (kOk n) r
def f1b(g:a0t)(n:Int)(ac:List Bool)(nx:List (List Int)):Bool:=decide ((ac.length:Int)=a0i g)&&decide ((nx.length:Int)=a0i g)&&a1j (b6v g n) nx
def b5l(a:a0b)(i:Nat):Bool:=f1b a.sig a.accept.length (a.accept.getD i []) (a.next.getD i [])
def aHd(a:a0b):Bool:=a3x a.sig&&decide (1≤a.accept.length∧a.accept.length≤60)&&decide (a.next.length=a.accept.length)
def aOk(a:a0b):Bool:=aHd a&&b4n (b5l a) a.accept.length
def a2u(n:Int):List UInt8:=bif decide (n<0) then [46] else dig n
def b4u(n:Int):List UInt8:=58::a2u n
def sgD(b:Bool):List UInt8:=bif b then [43] else [45]
def a6g(p:Bool×List Int):List UInt8:=sgD p.1++a2c b4u p.2
def b7x(p:Bool×List Int):List UInt8:=32::a6g p
def stT(p:List Bool×List (List Int)):List UInt8:=[115,116,97,116,101]++a2c b7x (p.1.zip p.2)
def hdT(g:a0t):List UInt8:=[97,117,116,111,109,97,116,111,110,32]++dig g.tests++[32]++dig g.actions
def atx(a:a0b):List UInt8:=hdT a.sig++10::a2c (fun p=>stT p++[10]) (a.accept.zip a.next)
def a1o(k:Int)(p:List UInt8):Int:=bif decide (p=[46]) then -1 else a0n k p
def a4b(k:Int)(p:List UInt8):Bool:=decide (p=[46])||a1a k p
def wdS(w:List UInt8):List UInt8:=(a0a 58 w).getD 0 []
def wdR(w:List UInt8):List (List UInt8):=(a0a 58 w).drop 1
def a2h(w:List UInt8):Bool:=decide (wdS w=[43])
def b8e(w:List UInt8):Bool:=a2h w||decide (wdS w=[45])
def a4r(k:Int)(w:List UInt8):List Int:=(wdR w).map (a1o k)
def d0q(k:Int)(w:List UInt8):Bool:=a1j (a4b k) (wdR w)
def a3b(k:Int)(w:List UInt8):Bool:=d0q k w&&b8e w
def lnW(l:List UInt8):List (List UInt8):=(a0a 32 l).drop 1
def a3c(l:List UInt8):List Bool:=(lnW l).map a2h
def a2t(k:Int)(l:List UInt8):List (List Int):=(lnW l).map (a4r k)
def a2v(k:Int)(l:List UInt8):Bool:=a1j (a3b k) (lnW l)
theorem e9p:∀ n:Fin 60,a1a 2 (dig (n.val:Int))=true∧a0n 2 (dig (n.val:Int))=(n.val:Int)∧a1a 9 (dig (n.val:Int))=true∧a0n 9 (dig (n.val:Int))=(n.val:Int)∧(dig (n.val:Int)).length≤2∧(dig (n.val:Int)).all (fun b => !(b == 10)&&(!(b == 32)&&(!(b == 58) && !(b == 46))))=true:=by decide +kernel
theorem e9q:∀ n:Fin 10,a1a 1 (dig (n.val:Int))=true∧a0n 1 (dig (n.val:Int))=(n.val:Int):=by decide +kernel
structure DgF(n:Int):Prop where
 b2:a1a 2 (dig n)=true
 v2:a0n 2 (dig n)=n
 b9:a1a 9 (dig n)=true
 v9:a0n 9 (dig n)=n
 len:(dig n).length≤2
 n10:∀ b∈dig n,(b == 10)=false
 n32:∀ b∈dig n,(b == 32)=false
 n58:∀ b∈dig n,(b == 58)=false
 n46:∀ b∈dig n,(b == 46)=false
theorem b4v(n:Int)(h:0≤n∧n≤59):DgF n:=by
 obtain⟨k,rfl⟩:∃ k:Nat,n=k:=⟨n.toNat,by omega⟩
 obtain⟨h1,h2,h3,h4,h5,h6⟩:=e9p ⟨k,by omega⟩
 have key:∀ b∈dig (k:Int),(b == 10)=false∧(b == 32)=false∧(b == 58)=false∧(b == 46)=false:=fun b hb=>by
  have:=List.all_eq_true.1 h6 b hb
  simpa only[Bool.and_eq_true,Bool.not_eq_true'] using this
 exact⟨h1,h2,h3,h4,h5,fun b hb=>(key b hb).1,fun b hb=>(key b hb).2.1,fun b hb=>(key b hb).2.2.1,fun b hb=>(key b hb).2.2.2⟩
theorem e5n(n:Int)(h:0≤n∧n≤9):a1a 1 (dig n)=true∧a0n 1 (dig n)=n:=by
 obtain⟨k,rfl⟩:∃ k:Nat,n=k:=⟨n.toNat,by omega⟩
 exact e9q ⟨k,by omega⟩
theorem d3o(c:UInt8)(h46:((46:UInt8) == c)=false)(n:Int)(hn : -1≤n∧n≤59)(hd:0≤n→∀ b∈dig n,(b == c)=false):∀ b∈a2u n,(b == c)=false:=by
 intro b hb
 unfold a2u at hb
 by_cases h:n<0
 ·rw[decide_eq_true h] at hb
  have:b=46:=by simpa using hb
  rw[this];exact h46
 ·rw[decide_eq_false h] at hb
  exact hd (by omega) b hb
theorem b4b(n:Int)(hn : -1≤n∧n≤59):(∀ b∈a2u n,(b == 10)=false)∧(∀ b∈a2u n,(b == 32)=false)∧(∀ b∈a2u n,(b == 58)=false)∧(a2u n).length≤2 ∧
  a1o 2 (a2u n)=n∧a4b 2 (a2u n)=true∧a1o 9 (a2u n)=n∧a4b 9 (a2u n)=true:=by
 have D:0≤n→DgF n:=fun h=>b4v n ⟨h,hn.2⟩
 refine⟨d3o 10 (by decide) n hn fun h=>(D h).n10,d3o 32 (by decide) n hn fun h=>(D h).n32,d3o 58 (by decide) n hn fun h=>(D h).n58,?_⟩
 by_cases h:n<0
 ·have e:n = -1:=by omega
  subst e
  exact⟨by decide,by decide,by decide,by decide,by decide⟩
 ·have d:=D (by omega)
  have e:a2u n=dig n:=by unfold a2u;rw[decide_eq_false h];rfl
  have ne:dig n≠[46]:=fun q=>by
   have:=d.n46 46 (by rw[q];simp)
   exact absurd this (by decide)
  rw[e]
  unfold a1o a4b
  rw[decide_eq_false ne]
  exact⟨d.len,d.v2,by rw[d.b2];rfl,d.v9,by rw[d.b9];rfl⟩
theorem d7u(c a:UInt8)(l:List UInt8)(h1:(a == c)=false)(h2:∀ x∈l,(x == c)=false):∀ x∈a::l,(x == c)=false:=fun x hx=>by
 rcases List.mem_cons.1 hx with rfl|hx
 ·exact h1
 ·exact h2 x hx
theorem d1p{α:Type}(c:UInt8)(f:α→List UInt8):∀ xs:List α,(∀ x∈xs,∀ b∈f x,(b == c)=false)→∀ b∈a2c f xs,(b == c)=false
 | [],_,b,hb=>by cases hb
 | x::xs,h,b,hb=>by
  rw[a6s] at hb
  exact (List.mem_append.1 hb).elim (h x (by simp) b) (d1p c f xs (fun y hy=>h y (by simp[hy])) b)
theorem e1y(c:UInt8)(h1:((43:UInt8) == c)=false)(h2:((45:UInt8) == c)=false)(b:Bool):∀ x∈sgD b,(x == c)=false:=fun x hx=>by
 cases b
 ·have:x=45:=by simpa [sgD] using hx
  rw[this];exact h2
 ·have:x=43:=by simpa [sgD] using hx
  rw[this];exact h1
theorem c5z{α:Type}(c:UInt8)(f:α→List UInt8):∀ (xs:List α) (a:List UInt8),(∀ b∈a,(b == c)=false)→(∀ x∈xs,∀ b∈f x,(b == c)=false)→a0a c (a++a2c (fun x=>c::f x) xs)=a::xs.map f
 | [],a,h,_=>by rw[d3n,List.append_nil,c8z c a h];rfl
 | x::xs,a,h,hf=>by
  rw[a6s]
  show a0a c (a++c::(f x++a2c _ xs))=_
  rw[b6e c a _ h,c5z c f xs (f x) (hf x (by simp)) fun y hy=>hf y (by simp[hy])]
  rfl
theorem d5m{α:Type}(f:α→List UInt8):∀ (xs:List α) (r:List UInt8),(∀ x∈xs,∀ b∈f x,(b == 10)=false)→a0a 10 (a2c (fun x=>f x++[10]) xs++r)=xs.map f++a0a 10 r
 | [],r,_=>rfl
 | x::xs,r,hf=>by
  rw[a6s,List.append_assoc,List.append_assoc]
  show a0a 10 (f x++10::(a2c _ xs++r))=_
  rw[b6e 10 _ _ (hf x (by simp)),d5m f xs r fun y hy=>hf y (by simp[hy])]
  rfl
def rIn(r:List Int):Prop:=∀ k∈r,-1≤k∧k≤59
theorem d7s{α:Type}(f:α→α):∀ xs:List α,(∀ x∈xs,f x=x)→xs.map f=xs
 | [],_=>rfl
 | x::xs,h=>by rw[List.map_cons,h x (by simp),d7s f xs fun y hy=>h y (by simp[hy])]
theorem b3v{α:Type}(p:α→Bool):∀ xs:List α,(∀ x∈xs,p x=true)→a1j p xs=true
 | [],_=>rfl
 | x::xs,h=>by rw[a1j,h x (by simp),b3v p xs fun y hy=>h y (by simp[hy])];rfl
structure f0h(p:Bool×List Int):Prop where
 cut:a0a 58 (a6g p)=sgD p.1::p.2.map a2u
 n32:∀ b∈a6g p,(b == 32)=false
 n10:∀ b∈a6g p,(b == 10)=false
 s:a2h (a6g p)=p.1
 g:b8e (a6g p)=true
 v2:a4r 2 (a6g p)=p.2
 k2:d0q 2 (a6g p)=true
 v9:a4r 9 (a6g p)=p.2
 k9:d0q 9 (a6g p)=true
theorem f1q(p:Bool×List Int)(h:rIn p.2):f0h p:=by
 have c:=c5z 58 a2u p.2 (sgD p.1) (e1y 58 (by decide) (by decide) p.1) fun x hx=>(b4b x (h x hx)).2.2.1
 have c:a0a 58 (a6g p)=sgD p.1::p.2.map a2u:=c
 have e1:wdS (a6g p)=sgD p.1:=by unfold wdS;rw[c];rfl
 have e2:wdR (a6g p)=p.2.map a2u:=by unfold wdR;rw[c];rfl
 have hs:a2h (a6g p)=p.1:=by unfold a2h;rw[e1];cases p.1<;>rfl
 refine⟨c,c5a 32 _ _ (e1y 32 (by decide) (by decide) p.1) (d1p 32 _ _ fun x hx=>d7u 32 58 _ (by decide) (b4b x (h x hx)).2.1),c5a 10 _ _ (e1y 10 (by decide) (by decide) p.1) (d1p 10 _ _ fun x hx=>d7u 10 58 _ (by decide) (b4b x (h x hx)).1),hs,?_,?_,?_,?_,?_⟩
 ·unfold b8e;rw[hs,e1];cases p.1<;>rfl
 ·unfold a4r;rw[e2,List.map_map];exact d7s _ _ fun x hx=>(b4b x (h x hx)).2.2.2.2.1
 ·unfold d0q;rw[e2];exact b3v _ _ fun y hy=>by obtain⟨x,hx,rfl⟩:=List.mem_map.1 hy;exact (b4b x (h x hx)).2.2.2.2.2.1
 ·unfold a4r;rw[e2,List.map_map];exact d7s _ _ fun x hx=>(b4b x (h x hx)).2.2.2.2.2.2.1
 ·unfold d0q;rw[e2];exact b3v _ _ fun y hy=>by obtain⟨x,hx,rfl⟩:=List.mem_map.1 hy;exact (b4b x (h x hx)).2.2.2.2.2.2.2
structure StF(p:List Bool×List (List Int)):Prop where
 cut:a0a 32 (stT p)=[115,116,97,116,101]::(p.1.zip p.2).map a6g
 n10:∀ b∈stT p,(b == 10)=false
 a:a3c (stT p)=p.1
 v2:a2t 2 (stT p)=p.2
 b2:a2v 2 (stT p)=true
 v9:a2t 9 (stT p)=p.2
 b9:a2v 9 (stT p)=true
theorem d2a{α β:Type}:∀ (xs:List α) (ys:List β),xs.length=ys.length→(xs.zip ys).map Prod.fst=xs∧(xs.zip ys).map Prod.snd=ys
 | [],[],_=>⟨rfl,rfl⟩
 | x::xs,y::ys,h=>by
  obtain⟨h1,h2⟩:=d2a xs ys (by simpa using h)
  exact⟨by rw[List.zip_cons_cons,List.map_cons,h1],by rw[List.zip_cons_cons,List.map_cons,h2]⟩
theorem a4p{α β:Type}(f g:α→β):∀ xs:List α,(∀ x∈xs,f x=g x)→xs.map f=xs.map g
 | [],_=>rfl
 | x::xs,h=>by rw[List.map_cons,List.map_cons,h x (by simp),a4p f g xs fun y hy=>h y (by simp[hy])]
theorem f1c(p:List Bool×List (List Int))(hl:p.1.length=p.2.length)(h:∀ r∈p.2,rIn r):StF p:=by
 have hz:∀ q∈p.1.zip p.2,f0h q:=fun q hq=>f1q q (h q.2 (List.of_mem_zip hq).2)
 have c:a0a 32 (stT p)=[115,116,97,116,101]::(p.1.zip p.2).map a6g:=c5z 32 a6g (p.1.zip p.2) [115,116,97,116,101] (by decide) fun q hq=>(hz q hq).n32
 have e:lnW (stT p)=(p.1.zip p.2).map a6g:=by unfold lnW;rw[c];rfl
 obtain⟨z1,z2⟩:=d2a p.1 p.2 hl
 refine⟨c,c5a 10 _ _ (by decide) (d1p 10 _ _ fun q hq=>d7u 10 32 _ (by decide) (hz q hq).n10),?_,?_,?_,?_,?_⟩
 ·unfold a3c;rw[e,List.map_map]
  exact (a4p (a2h ∘ a6g) Prod.fst _ fun q hq=>(hz q hq).s).trans z1
 ·unfold a2t;rw[e,List.map_map]
  exact (a4p (a4r 2 ∘ a6g) Prod.snd _ fun q hq=>(hz q hq).v2).trans z2
 ·unfold a2v;rw[e];exact b3v _ _ fun y hy=>by obtain⟨q,hq,rfl⟩:=List.mem_map.1 hy;unfold a3b;rw[(hz q hq).k2,(hz q hq).g];rfl
 ·unfold a2t;rw[e,List.map_map]
  exact (a4p (a4r 9 ∘ a6g) Prod.snd _ fun q hq=>(hz q hq).v9).trans z2
 ·unfold a2v;rw[e];exact b3v _ _ fun y hy=>by obtain⟨q,hq,rfl⟩:=List.mem_map.1 hy;unfold a3b;rw[(hz q hq).k9,(hz q hq).g];rfl
end
end Go.Proofs.YtmdefiphdgcijaaDoor

set_option linter.unusedVariables false
set_option linter.unusedSimpArgs false
set_option linter.unusedSectionVars false
namespace Go.Proofs.YtmdefiphdgcijaaDoor
noncomputable section
def lnI(t:List UInt8):List (List UInt8):=(a0a 10 t).take ((a0a 10 t).length - 1)
def lnB(t:List UInt8):Bool:=decide ((a0a 10 t).getD ((a0a 10 t).length - 1) []=[])
def hdW(t:List UInt8):List (List UInt8):=a0a 32 ((a0a 10 t).getD 0 [])
def bdy(t:List UInt8):List (List UInt8):=(lnI t).drop 1
def aR(h k:Int)(t:List UInt8):a0b:=a0b.mk (a0t.mk (a0n h ((hdW t).getD 1 [])) (a0n h ((hdW t).getD 2 []))) ((bdy t).map a3c) ((bdy t).map (a2t k))
def nmB(h:Int)(t:List UInt8):Bool:=a1a h ((hdW t).getD 1 [])&&a1a h ((hdW t).getD 2 [])
def stB(l:List UInt8):Bool:=decide ((a0a 32 l).getD 0 []=[115,116,97,116,101])&&a2v 9 l
def okI(t:List UInt8):Bool:=lnB t&&(decide (1≤(lnI t).length∧(lnI t).length≤61)&&(decide ((hdW t).length=3)&&(a1j (a2v 2) (bdy t)&&(nmB 1 t&&(aOk (aR 1 2 t)&&decide (atx (aR 1 2 t)=t))))))
def okH(t:List UInt8):Bool:=decide (2≤(a0a 10 t).length)&&(lnB t&&(decide ((hdW t).length=3)&&decide ((hdW t).getD 0 []=[97,117,116,111,109,97,116,111,110])))
def okS(t:List UInt8):Bool:=okH t&&(nmB 9 t&&(a1j stB (bdy t)&&aOk (aR 9 9 t)))
def b4y(c:UInt8):List (List UInt8)→List UInt8
 | []=>[]
 | p::ps=>p++a2c (fun q=>c::q) ps
theorem c9r(c:UInt8)(q:List UInt8):∀ ps:List (List UInt8),ps≠[]→b4y c (ps++[q])=b4y c ps++c::q
 | [],h=>absurd rfl h
 | p::ps,_=>by
  show p++a2c _ (ps++[q])=(p++a2c _ ps)++c::q
  rw[c2w,a6s,d3n,List.append_nil,List.append_assoc]
theorem c9q(c:UInt8):∀ (l:List UInt8) (d:List (List UInt8)) (x:List UInt8),b4y c ((l.foldl (a2w c) (d,x)).1++[(l.foldl (a2w c) (d,x)).2])=b4y c (d++[x])++l
 | [],d,x=>by simp
 | b::l,d,x=>by
  simp only[List.foldl_cons,a2w]
  cases h:b == c
  ·simp only[cond_false]
   rw[c9q c l d (x++[b])]
   have e:b4y c (d++[x++[b]])=b4y c (d++[x])++[b]:=by
    cases d with
    | nil=>simp[b4y,a2c]
    | cons y ys=>rw[c9r c _ _ (by simp),c9r c _ _ (by simp)];simp
   rw[e];simp
  ·simp only[cond_true]
   have hb:b=c:=by simpa using h
   rw[c9q c l (d++[x]) [],c9r c [] _ (by simp),hb];simp
theorem c6n(c:UInt8)(l:List UInt8):b4y c (a0a c l)=l:=by
 have:=c9q c l [] []
 simpa [a0a,a3z,b4y,a2c] using this
theorem b0r(c:UInt8)(l:List UInt8):1≤(a0a c l).length:=by
 unfold a0a;simp
theorem e0u(c:UInt8)(l:List UInt8):a0a c l=(a0a c l).getD 0 []::(a0a c l).drop 1:=by
 match h:a0a c l with
 | []=>have:=b0r c l;rw[h] at this;simp at this
 | x::xs=>rfl
theorem d8k(c:UInt8):∀ xs:List (List UInt8),a2c (fun q=>c::q) xs++[c]=c::a2c (fun q=>q++[c]) xs
 | []=>rfl
 | x::xs=>by
  rw[a6s,a6s,List.append_assoc,d8k c xs];simp
theorem e5l(t:List UInt8)(h2:2≤(a0a 10 t).length)(hb:lnB t=true):a0a 10 t=(a0a 10 t).getD 0 []::bdy t++[[]]:=by
 have hb:(a0a 10 t).getD ((a0a 10 t).length - 1) []=[]:=of_decide_eq_true hb
 have e1:a0a 10 t=lnI t++[[]]:=by
  have:=a2k [] (a0a 10 t) ((a0a 10 t).length - 1) (by omega)
  rw[show (a0a 10 t).length - 1+1=(a0a 10 t).length by omega,List.take_length,hb] at this
  exact this
 have e2:lnI t=(a0a 10 t).getD 0 []::bdy t:=by
  have hl:(lnI t).length=(a0a 10 t).length - 1:=by unfold lnI;simp
  have h0:(a0a 10 t).getD 0 []=(lnI t).getD 0 []:=by
   conv=>lhs;rw[e1]
   rw[List.getD_eq_getElem?_getD,List.getElem?_append_left (by omega),←List.getD_eq_getElem?_getD]
  unfold bdy
  rw[h0]
  match hq:lnI t with
  | []=>rw[hq] at hl;simp at hl;omega
  | x::xs=>rfl
 rw[←e2];exact e1
theorem e2w:∀ (n:Nat) (q:List UInt8),q.length=n+1→a1j a9t q=true→¬ (1<q.length∧(q.getD 0 0).toNat=48)→Lib.decDigits (a2q q).toNat=q∧0≤a2q q
 | 0,q,hl,ha,_=>by
  match q,hl with
  | [d],_ =>
   simp only[a1j,a9t,Bool.and_eq_true,decide_eq_true_eq,and_true] at ha
   have e:a2q [d]=(d.toNat:Int) - 48:=by simp[a2q]
   rw[e,show ((d.toNat:Int) - 48).toNat=d.toNat - 48 by omega,Lib.decDigits_one (by omega),show 48+(d.toNat - 48)=d.toNat by omega]
   exact⟨by rw[UInt8.ofNat_toNat],by omega⟩
 | n+1,q,hl,ha,h0=>by
  have hs:=a2k 0 q (n+1) (by omega)
  rw[List.take_of_length_le (by omega)] at hs
  have hd:=c9c q (n+1) (by omega)
  rw[List.take_of_length_le (by omega)] at hd
  have h1:=a6f a9t 0 q (n+1) (by omega)
  rw[List.take_of_length_le (by omega),ha] at h1
  have h1':=h1.symm
  rw[Bool.and_eq_true] at h1'
  have hdd:=h1'.2
  simp only[a9t,Bool.and_eq_true,decide_eq_true_eq] at hdd
  have g0:(q.take (n+1)).getD 0 0=q.getD 0 0:=by
   rw[List.getD_eq_getElem?_getD,List.getElem?_take,if_pos (by omega),←List.getD_eq_getElem?_getD]
  have hne:¬ (q.getD 0 0).toNat=48:=fun e=>h0 ⟨by omega,e⟩
  obtain⟨i1,i2⟩:=e2w n (q.take (n+1)) (by rw[List.length_take];omega) h1'.1 (fun h=>hne (by rw[←g0];exact h.2))
  have pos:a2q (q.take (n+1))≠0:=fun e=>by
   rw[e] at i1
   have:(Lib.decDigits (0:Int).toNat).getD 0 0=q.getD 0 0:=by rw[i1,g0]
   have h48:Lib.decDigits (0:Int).toNat=[48]:=by rw[show (0:Int).toNat=0 from rfl,Lib.decDigits_one (by decide)];rfl
   rw[h48] at this
   exact hne (by rw[←this];rfl)
  rw[hd]
  generalize hv:a2q (q.take (n+1))=v at *
  have eu:(v * 10+(((q.getD (n+1) 0).toNat:Int) - 48)).toNat=v.toNat * 10+((q.getD (n+1) 0).toNat - 48):=by omega
  refine⟨?_,by omega⟩
  rw[eu,Lib.decDigits,dif_neg (by omega)]
  rw[show (v.toNat * 10+((q.getD (n+1) 0).toNat - 48)) / 10=v.toNat by omega,show 48+(v.toNat * 10+((q.getD (n+1) 0).toNat - 48)) % 10=(q.getD (n+1) 0).toNat by omega,i1,UInt8.ofNat_toNat]
  exact hs.symm
theorem d3t(m:Int)(q:List UInt8)(h:a1a m q=true):dig (a0n m q)=q∧0≤a0n m q:=by
 have hv:a0n m q=a2q q:=by unfold a0n;rw[h];rfl
 rw[d1q] at h
 simp only[Bool.and_eq_true,decide_eq_true_eq,Bool.not_eq_true',Bool.and_eq_false_iff,decide_eq_false_iff_not] at h
 obtain⟨⟨⟨h1,_⟩,h3⟩,h4⟩:=h
 have:=e2w (q.length - 1) q (by omega) h4 (fun k=>by rcases h3 with g|g<;>omega)
 rw[hv]
 exact this
theorem e5f(q:List UInt8)(h:a4b 9 q=true):a2u (a1o 9 q)=q:=by
 unfold a4b at h
 unfold a1o
 by_cases e:q=[46]
 ·rw[decide_eq_true e,e];rfl
 ·rw[decide_eq_false e] at h ⊢
  obtain⟨h1,h2⟩:=d3t 9 q (by simpa using h)
  show a2u (a0n 9 q)=q
  unfold a2u
  rw[decide_eq_false (by omega)]
  exact h1
theorem d1j{α β:Type}(f:α→β)(g:β→List UInt8)(h:α→List UInt8):∀ xs:List α,(∀ x∈xs,g (f x)=h x)→a2c g (xs.map f)=a2c h xs
 | [],_=>rfl
 | x::xs,hx=>by rw[List.map_cons,a6s,a6s,hx x (by simp),d1j f g h xs fun y hy=>hx y (by simp[hy])]
theorem e7b(w:List UInt8)(h:a3b 9 w=true):a6g (a2h w,a4r 9 w)=w:=by
 unfold a3b at h
 rw[Bool.and_eq_true] at h
 have hc:a2c b4u (a4r 9 w)=a2c (fun q=>58::q) (wdR w):=d1j (a1o 9) b4u _ _ fun q hq=>by
  show 58::a2u (a1o 9 q)=_
  rw[e5f q (a9q _ _ h.1 q hq)]
 have hs:sgD (a2h w)=wdS w:=by
  have:=h.2
  unfold b8e at this
  unfold a2h at this ⊢
  by_cases e:wdS w=[43]
  ·rw[decide_eq_true e,e];rfl
  ·rw[decide_eq_false e] at this ⊢
   have:wdS w=[45]:=by simpa using this
   rw[this];rfl
 show sgD (a2h w)++a2c b4u (a4r 9 w)=w
 rw[hs,hc]
 have:=c6n 58 w
 rw[e0u 58 w] at this
 exact this
theorem d4p{α β γ:Type}(f:α→β)(g:α→γ):∀ xs:List α,(xs.map f).zip (xs.map g)=xs.map fun x=>(f x,g x)
 | []=>rfl
 | x::xs=>by rw[List.map_cons,List.map_cons,List.zip_cons_cons,d4p f g xs];rfl
theorem e5w(l:List UInt8)(h:stB l=true):stT (a3c l,a2t 9 l)=l:=by
 unfold stB at h
 rw[Bool.and_eq_true,decide_eq_true_eq] at h
 have e:a2c b7x ((a3c l).zip (a2t 9 l))=a2c (fun q=>32::q) (lnW l):=by
  unfold a3c a2t
  rw[d4p]
  exact d1j _ b7x _ _ fun w hw=>by
   show 32::a6g (a2h w,a4r 9 w)=_
   rw[e7b w (a9q _ _ h.2 w hw)]
 show [115,116,97,116,101]++a2c b7x ((a3c l).zip (a2t 9 l))=l
 rw[e,←h.1]
 have:=c6n 32 l
 rw[e0u 32 l] at this
 exact this
structure f1k(t:List UInt8):Prop where
 h2:2≤(a0a 10 t).length
 lb:lnB t=true
 hw:(hdW t).length=3
 h0:(hdW t).getD 0 []=[97,117,116,111,109,97,116,111,110]
 nm:nmB 9 t=true
 ls:a1j stB (bdy t)=true
 ok:aOk (aR 9 9 t)=true
theorem e2a(t:List UInt8)(h:okS t=true):f1k t:=by
 simp only[okS,okH,Bool.and_eq_true,decide_eq_true_eq] at h
 obtain⟨⟨h1,h2,h3,h4⟩,h5,h6,h7⟩:=h
 exact⟨h1,h2,h3,h4,h5,h6,h7⟩
theorem f2a{α:Type}(z:α)(xs:List α)(h:xs.length=3):xs=[xs.getD 0 z,xs.getD 1 z,xs.getD 2 z]:=by
 match xs,h with
 | [a,b,c],_=>rfl
theorem e6x(t:List UInt8)(h:okS t=true):atx (aR 9 9 t)=t:=by
 obtain⟨h2,lb,hw,h0,nm,ls,ok⟩:=e2a t h
 have hs:=e5l t h2 lb
 have ht:=c6n 10 t
 rw[hs] at ht
 unfold nmB at nm
 rw[Bool.and_eq_true] at nm
 have hh:hdT (aR 9 9 t).sig=(a0a 10 t).getD 0 []:=by
  show [97,117,116,111,109,97,116,111,110,32]++dig (a0n 9 ((hdW t).getD 1 []))++[32]++dig (a0n 9 ((hdW t).getD 2 []))=_
  rw[(d3t 9 _ nm.1).1,(d3t 9 _ nm.2).1]
  have hj:=c6n 32 ((a0a 10 t).getD 0 [])
  rw[show a0a 32 ((a0a 10 t).getD 0 [])=hdW t from rfl,f2a [] (hdW t) hw,h0] at hj
  rw[←hj]
  simp[b4y,a2c]
 have hl:a2c (fun p=>stT p++[10]) (((bdy t).map a3c).zip ((bdy t).map (a2t 9)))=a2c (fun q=>q++[10]) (bdy t):=by
  rw[d4p]
  exact d1j _ _ _ _ fun l hl=>by
   show stT (a3c l,a2t 9 l)++[10]=_
   rw[e5w l (a9q _ _ ls l hl)]
 show hdT (aR 9 9 t).sig++10::a2c (fun p=>stT p++[10]) (((bdy t).map a3c).zip ((bdy t).map (a2t 9)))=t
 rw[hh,hl,←d8k]
 have e:b4y 10 ((a0a 10 t).getD 0 []::bdy t++[[]])=(a0a 10 t).getD 0 []++(a2c (fun q=>10::q) (bdy t)++[10]):=by
  show (a0a 10 t).getD 0 []++a2c _ (bdy t++[[]])=_
  rw[c2w];rfl
 rw[←e];exact ht
structure AOk(a:a0b):Prop where
 sig:a3x a.sig=true
 t:0≤a.sig.tests∧a.sig.tests≤3
 c:0≤a.sig.actions∧a.sig.actions≤4
 n1:1≤a.accept.length
 n2:a.accept.length≤60
 nx:a.next.length=a.accept.length
 st:∀ p∈a.accept.zip a.next,p.1.length=p.2.length∧(p.1.length:Int)=a0i a.sig∧∀ r∈p.2,rIn r∧(r.length:Int)=a.sig.actions
theorem d4t(a:a0b)(h:aOk a=true):AOk a:=by
 simp only[aOk,aHd,Bool.and_eq_true,decide_eq_true_eq] at h
 obtain⟨⟨⟨h1,h2⟩,h3⟩,h4⟩:=h
 have hs:=(d9h a.sig).1 h1
 refine⟨h1,hs.1,hs.2,h2.1,h2.2,h3,fun p hp=>?_⟩
 obtain⟨i,hi,e⟩:=List.getElem_of_mem hp
 have hi':i<a.accept.length:=by simp at hi;omega
 have hs:=(e0o _ _).1 h4 i hi'
 unfold b5l f1b at hs
 have e1:p.1=a.accept.getD i []:=by rw[←e];simp[List.getD_eq_getElem?_getD,hi']
 have e2:p.2=a.next.getD i []:=by rw[←e];simp[List.getD_eq_getElem?_getD,show i<a.next.length by omega]
 rw[←e1,←e2] at hs
 simp only[Bool.and_eq_true,decide_eq_true_eq] at hs
 refine⟨by omega,hs.1.1,fun r hr=>?_⟩
 have:=a9q _ _ hs.2 r hr
 unfold b6v at this
 rw[Bool.and_eq_true,decide_eq_true_eq] at this
 refine⟨fun k hk=>?_,this.1⟩
 have:=of_decide_eq_true (a9q _ _ this.2 k hk)
 omega
structure RtF(a:a0b):Prop where
 c:a0a 10 (atx a)=hdT a.sig::(a.accept.zip a.next).map stT++[[]]
 w:hdW (atx a)=[[97,117,116,111,109,97,116,111,110],dig a.sig.tests,dig a.sig.actions]
 b:bdy (atx a)=(a.accept.zip a.next).map stT
 l:(lnI (atx a)).length=a.accept.length+1
 e:lnB (atx a)=true
theorem f2i(a:a0b)(h:aOk a=true):RtF a:=by
 have A:=d4t a h
 have d1:=b4v a.sig.tests ⟨A.t.1,by have:=A.t.2;omega⟩
 have d2:=b4v a.sig.actions ⟨A.c.1,by have:=A.c.2;omega⟩
 have h10:∀ b∈hdT a.sig,(b == 10)=false:=c5a 10 _ _ (c5a 10 _ _ (c5a 10 _ _ (by decide) d1.n10) (by decide)) d2.n10
 have hS:∀ p∈a.accept.zip a.next,StF p:=fun p hp=>f1c p (A.st p hp).1 fun r hr=>((A.st p hp).2.2 r hr).1
 have c:a0a 10 (atx a)=hdT a.sig::(a.accept.zip a.next).map stT++[[]]:=by
  unfold atx
  rw[b6e 10 _ _ h10]
  have:=d5m stT (a.accept.zip a.next) [] fun p hp=>(hS p hp).n10
  rw[List.append_nil] at this
  rw[this];rfl
 have hl:(a0a 10 (atx a)).length=a.accept.length+2:=by
  rw[c];simp[A.nx]
 have hI:lnI (atx a)=hdT a.sig::(a.accept.zip a.next).map stT:=by
  unfold lnI
  rw[hl,c,List.take_append_of_le_length (by simp[A.nx]),List.take_of_length_le (by simp[A.nx])]
 refine⟨c,?_,by unfold bdy;rw[hI];rfl,by rw[hI];simp[A.nx],?_⟩
 ·unfold hdW
  rw[c]
  show a0a 32 (hdT a.sig)=_
  have e:hdT a.sig=[97,117,116,111,109,97,116,111,110]++32::(dig a.sig.tests++32::dig a.sig.actions):=by simp[hdT]
  rw[e,b6e 32 _ _ (by decide),b6e 32 _ _ d1.n32,c8z 32 _ d2.n32]
 ·unfold lnB
  rw[hl,c]
  refine decide_eq_true ?_
  rw[List.getD_eq_getElem?_getD,List.getElem?_append_right (by simp[A.nx])]
  simp[A.nx]
theorem f0y(a:a0b)(h:aOk a=true):(aR 1 2 (atx a)=a∧okI (atx a)=true)∧(aR 9 9 (atx a)=a∧okS (atx a)=true):=by
 have A:=d4t a h
 obtain⟨c,w,b,l,e⟩:=f2i a h
 have d1:=b4v a.sig.tests ⟨A.t.1,by have:=A.t.2;omega⟩
 have d2:=b4v a.sig.actions ⟨A.c.1,by have:=A.c.2;omega⟩
 have o1:=e5n a.sig.tests ⟨A.t.1,by have:=A.t.2;omega⟩
 have o2:=e5n a.sig.actions ⟨A.c.1,by have:=A.c.2;omega⟩
 have hS:∀ p∈a.accept.zip a.next,StF p:=fun p hp=>f1c p (A.st p hp).1 fun r hr=>((A.st p hp).2.2 r hr).1
 obtain⟨z1,z2⟩:=d2a a.accept a.next A.nx.symm
 have ea:(bdy (atx a)).map a3c=a.accept:=by
  rw[b,List.map_map];exact (a4p (a3c ∘ stT) Prod.fst _ fun p hp=>(hS p hp).a).trans z1
 have e2:(bdy (atx a)).map (a2t 2)=a.next:=by
  rw[b,List.map_map];exact (a4p (a2t 2 ∘ stT) Prod.snd _ fun p hp=>(hS p hp).v2).trans z2
 have e9:(bdy (atx a)).map (a2t 9)=a.next:=by
  rw[b,List.map_map];exact (a4p (a2t 9 ∘ stT) Prod.snd _ fun p hp=>(hS p hp).v9).trans z2
 have r1:aR 1 2 (atx a)=a:=by
  unfold aR
  rw[ea,e2,w]
  show a0b.mk (a0t.mk (a0n 1 (dig a.sig.tests)) (a0n 1 (dig a.sig.actions))) a.accept a.next=a
  rw[o1.2,o2.2]
 have r9:aR 9 9 (atx a)=a:=by
  unfold aR
  rw[ea,e9,w]
  show a0b.mk (a0t.mk (a0n 9 (dig a.sig.tests)) (a0n 9 (dig a.sig.actions))) a.accept a.next=a
  rw[d1.v9,d2.v9]
 have l2:a1j (a2v 2) (bdy (atx a))=true:=b3v _ _ fun y hy=>by rw[b] at hy;obtain⟨p,hp,rfl⟩:=List.mem_map.1 hy;exact (hS p hp).b2
 have l9:a1j stB (bdy (atx a))=true:=b3v _ _ fun y hy=>by
  rw[b] at hy;obtain⟨p,hp,rfl⟩:=List.mem_map.1 hy
  unfold stB
  rw[(hS p hp).b9,(hS p hp).cut];rfl
 have hl:(a0a 10 (atx a)).length=a.accept.length+2:=by rw[c];simp[A.nx]
 have m1:nmB 1 (atx a)=true:=by
  unfold nmB;rw[w];show (a1a 1 (dig _)&&a1a 1 (dig _))=true;rw[o1.1,o2.1];rfl
 have m9:nmB 9 (atx a)=true:=by
  unfold nmB;rw[w];show (a1a 9 (dig _)&&a1a 9 (dig _))=true;rw[d1.b9,d2.b9];rfl
 refine⟨⟨r1,?_⟩,r9,?_⟩
 ·unfold okI
  rw[r1,e,l2,m1,h,decide_eq_true (rfl:atx a=atx a),decide_eq_true (show 1≤(lnI (atx a)).length∧(lnI (atx a)).length≤61 from by have:=A.n2;omega),decide_eq_true (show (hdW (atx a)).length=3 from by rw[w];rfl)]
  rfl
 ·unfold okS okH
  rw[r9,e,l9,m9,h,decide_eq_true (show 2≤(a0a 10 (atx a)).length from by omega),decide_eq_true (show (hdW (atx a)).length=3 from by rw[w];rfl),decide_eq_true (show (hdW (atx a)).getD 0 []=[97,117,116,111,109,97,116,111,110] from by rw[w];rfl)]
  rfl
theorem e6n(t:List UInt8):okS t=okI t∧(okI t=true→aR 9 9 t=aR 1 2 t):=by
 have h1:okI t=true→okS t=true∧aR 9 9 t=aR 1 2 t:=fun h=>by
  simp only[okI,Bool.and_eq_true,decide_eq_true_eq] at h
  obtain⟨_,_,_,_,_,h6,h7⟩:=h
  have:=(f0y _ h6).2
  rw[h7] at this
  exact⟨this.2,this.1⟩
 have h2:okS t=true→okI t=true:=fun h=>by
  have:=(f0y _ (e2a t h).ok).1.2
  rw[e6x t h] at this
  exact this
 refine⟨?_,fun h=>(h1 h).2⟩
 rw[Bool.eq_iff_iff]
 exact⟨h2,fun h=>(h1 h).1⟩
def raV(t:List UInt8):a0b:=bif okI t then aR 1 2 t else a0b.mk (a0t.mk (0:Int) (0:Int)) [] []
def raC(t:List UInt8):Int:=bif okI t then 0 else 5
theorem b3r(t:List UInt8):(okI t=true→raV t=aR 1 2 t∧raC t=0)∧(okI t=false→raV t=a0b.mk (a0t.mk (0:Int) (0:Int)) [] []∧raC t=5):=by
 refine⟨fun h=>?_,fun h=>?_⟩<;>· unfold raV raC;rw[h];exact⟨rfl,rfl⟩
theorem d4i(t:List UInt8):(okS t=true→raV t=aR 9 9 t∧raC t=0)∧(okS t=false→raV t=a0b.mk (a0t.mk (0:Int) (0:Int)) [] []∧raC t=5):=by
 obtain⟨h1,h2⟩:=e6n t
 obtain⟨h3,h4⟩:=b3r t
 rw[h1]
 exact⟨fun h=>by rw[h2 h];exact h3 h,h4⟩
end
end Go.Proofs.YtmdefiphdgcijaaDoor

/- VmDTidy, VmDMach, VmDSum, VmDStep, VmFitM, VmFitA, VmWord2, VmRExpr. -/
import Derived.Test.YtnehkikdlnmebaaGreatDoorVmSame1
import Derived.WalkKit
import Derived.LoopTactic
import Derived.OwnWalk
import Derived.Deep.RegionHeld3
import Derived.Deep.AppendLies
import Derived.Maps.AppendAt
import Derived.Deep.DeepCutAuto
import Derived.Deep.CutBlock
import Derived.Lib.SliceRun
set_option linter.all false
namespace Go.Proofs.YtnehkikdlnmebaaGreatDoor
def a6j:=@Bool.eq_false_or_eq_true
def a8e:=@Bool.false_and
def a9n:=@List.getElem?_take_of_lt
def a9o:=@Go.bodyPost_ret
def a9p:=@Go.results_none
def a9K:=@Go.World.news_of_block
def a7t:=@Go.heap_setCell_other
def a7c:=@Go.heap_setCell_same
def a7G:=@Go.World.ownsRow_made
def a9P:=@List.append_of_mem
def a8y:=@List.mem_of_mem_drop
def a8H:=@Go.wpList_append_own
def a9E:=@Go.wpList_append_own_at
def a8f:=@Bool.and_false
def a8T:=@List.replicate_succ
def a8A:=@Bool.and_self
noncomputable section
mutual
def BK{α:Type}(f:O->List α->α):O->α
 | ⟨k,n,ks⟩=>f ⟨k,n,ks⟩ (og f ks)
def og{α:Type}(f:O->List α->α):List O->List α
 | []=>[]
 | x::xs=>BK f x::og f xs
end
theorem jD{α:Type}(f:O->List α->α)(d:α)(z:O):∀ (xs:List O) (i:Nat),i<xs.length->(og f xs).getD i d=BK f (xs.getD i z)
 | [],i,h=>by simp at h
 | x::xs,0,h=>by simp[og]
 | x::xs,i+1,h=>by
  have:=jD f d z xs i (by simpa using h)
  simpa [og] using this
theorem qc{α:Type}(f:O->List α->α)(x:O):BK f x=f x (og f x.V):=by
 cases x;rfl
structure B2(x:O):Prop where
 len:x.V.length=2
 g0:aL (x.V.getD 0 zE)=true
 g1:aL (x.V.getD 1 zE)=true
 l0:cv (x.V.getD 0 zE)<cv x
 l1:cv (x.V.getD 1 zE)<cv x
 nd:ar x=1+ar (x.V.getD 0 zE)+ar (x.V.getD 1 zE)
structure B1(x:O):Prop where
 len:x.V.length=1
 g0:aL (x.V.getD 0 zE)=true
 l0:cv (x.V.getD 0 zE)<cv x
 nd:ar x=1+ar (x.V.getD 0 zE)
theorem gM(x:O)(h:aL x=true)(e:x.ah=6\/x.ah=7):B2 x:=by
 obtain⟨h1,h2,h3⟩:=(dz x h).2.2.1 e
 have hn:=nH x
 rw[YL ar zE _ h1] at hn
 exact⟨h1,h2.1,h3.1,h2.2,h3.2,by omega⟩
theorem yc(x:O)(h:aL x=true)(e:x.ah=5\/x.ah=8):B1 x:=by
 obtain⟨h1,h2⟩:=(dz x h).2.1 e
 have hn:=nH x
 rw[YK ar zE _ h1] at hn
 exact⟨h1,h2.1,h2.2,by omega⟩
theorem FO(x:O):1<=ar x:=by rw[nH];omega
theorem RV(x:O)(h:aL x=true):x.ah=1\/x.ah=2\/x.ah=3\/x.ah=4\/x.ah=5\/x.ah=6\/x.ah=7\/x.ah=8:=(dz x h).2.2.2
theorem Zg(x:O)(h:aL x=true)(e:x.ah=1\/x.ah=2\/x.ah=3\/x.ah=5):oH x=true:=by
 have h':=h
 unfold oH
 rw[xh 9 9 62 62 (by decide) (by decide) x (by simpa [aL] using h),Bool.true_and,uC,Bool.and_eq_true]
 simp only[aL] at h
 rw[mB,qg] at h
 simp only[a5I,a5M] at h
 refine⟨by rcases e with e|e|e|e<;>rw[e]<;>decide,?_⟩
 by_cases h5:x.ah=5
 .have hl:=(yc x h' (.inl h5)).len
  have hc:bG (x.V.getD 0 zE)=true:=by simpa [h5] using h.1.2
  match hk:x.V,hl with
  | [a],_ =>
   rw[hk] at hc
   simp only[b9,a7q]
   simpa using hc
 .have:x.V.length=0:=by
   have h1:=h.1.1.1
   rcases e with e|e|e|e
   .rw[e] at h1;simp[cf] at h1;omega
   .rw[e] at h1;simp[cf] at h1;omega
   .rw[e] at h1;simp[cf] at h1;omega
   .exact absurd e h5
  rw[a6I this];rfl
theorem jU(a b:O)(k:Int)(h1:aL a=true)(h2:aL b=true)(hk:k=6\/k=7):aL (O.mk k 0 [a,b])=true:=PB 9 9 a b k h1 h2 hk
theorem TO(a:O)(h1:aL a=true):aL (O.mk 8 0 [a])=true:=JR 9 9 a 8 h1 (.inr rfl)
theorem O5:aL (O.mk 2 0 [])=true:=by decide
theorem Fu:aL (O.mk 1 0 [])=true:=by decide
theorem nI(k:Int)(a b:O):ar (O.mk k 0 [a,b])=1+ar a+ar b:=by simp[ar,iK];omega
theorem SB(k:Int)(a:O):ar (O.mk k 0 [a])=1+ar a:=by simp[ar,iK]
theorem Ct(k n:Int):ar (O.mk k n [])=1:=by simp[ar,iK]
def P0(a:Int)(x:O)(bs:List Bool):Bool:=if x.ah=4 then false else if x.ah=6 then bs.getD 0 false||bs.getD 1 false else if x.ah=7 then bs.getD 0 false&&bs.getD 1 false else if x.ah=8 then true else gE a x
def iQ(a:Int)(x:O):Bool:=BK (P0 a) x
theorem Mx(a:Int)(x:O):iQ a x=P0 a x (og (P0 a) x.V):=qc _ x
theorem US(a:Int)(x:O)(i:Nat)(h:i<x.V.length):(og (P0 a) x.V).getD i false=iQ a (x.V.getD i zE):=jD _ _ _ _ i h
theorem a3F(a:Int)(x:O)(h:x.ah=4):false=iQ a x:=by rw[Mx];simp[P0,h]
theorem a3G(a:Int)(x:O)(h:x.ah=6)(b:B2 x):iQ a x=(iQ a (x.V.getD 0 zE)||iQ a (x.V.getD 1 zE)):=by
 rw[Mx];simp only[P0,h];rw[US a x 0 (by have:=b.len;omega),US a x 1 (by have:=b.len;omega)];rfl
theorem a3H(a:Int)(x:O)(h:x.ah=7)(b:B2 x):iQ a x=(iQ a (x.V.getD 0 zE)&&iQ a (x.V.getD 1 zE)):=by
 rw[Mx];simp only[P0,h];rw[US a x 0 (by have:=b.len;omega),US a x 1 (by have:=b.len;omega)];rfl
theorem a3I(a:Int)(x:O)(h:x.ah=8):true=iQ a x:=by rw[Mx];simp[P0,h]
theorem a3J(a:Int)(x:O)(h4:¬ x.ah=4)(h6:¬ x.ah=6)(h7:¬ x.ah=7)(h8:¬ x.ah=8):gE a x=iQ a x:=by rw[Mx];simp[P0,h4,h6,h7,h8]
noncomputable def QV(x:O)(fs:List (List O->List O))(out:List O):List O :=
 if x.ah=1 then out else if x.ah=6 then fs.getD 1 id (fs.getD 0 id out) else if out.any (λ y=>fN y x)=true then out else out++[x]
noncomputable def fL(x:O)(out:List O):List O:=BK QV x out
theorem QW(x:O)(out:List O):fL x out=QV x (og QV x.V) out:=congrFun (qc _ x) out
theorem a0Y(x:O)(out:List O)(h:x.ah=1):fL x out=out:=by rw[QW];simp[QV,h]
theorem a0Z(x:O)(out:List O)(h:x.ah=6)(b:B2 x):fL x out=fL (x.V.getD 1 zE) (fL (x.V.getD 0 zE) out):=by
 rw[QW];simp only[QV,h]
 rw[jD QV id zE x.V 0 (by have:=b.len;omega),jD QV id zE x.V 1 (by have:=b.len;omega)];rfl
theorem a1b(x:O)(out:List O)(h1:¬ x.ah=1)(h6:¬ x.ah=6)(ha:out.any (λ y=>fN y x)=true):fL x out=out:=by
 rw[QW,QV,a5J h1,a5J h6,a5T ha]
theorem a1a(x:O)(out:List O)(h1:¬ x.ah=1)(h6:¬ x.ah=6)(ha:out.any (λ y=>fN y x)=false):fL x out=out++[x]:=by
 rw[QW,QV,a5J h1,a5J h6,a5J (by rw[ha];decide)]
def j9(xs:List O):Nat:=cW ar xs+xs.length
def I7(xs:List O):Prop:=∀ y∈xs,aL y=true
theorem Ie{α:Type}(f:α->Nat):∀ xs ys:List α,cW f (xs++ys)=cW f xs+cW f ys
 | [],ys=>by simp[cW]
 | x::xs,ys=>by simp only[a7g,cW,Ie f xs ys];omega
theorem F7:∀ (N:Nat) (x:O),cv x<N->aL x=true->∀ out,I7 out->I7 (fL x out)/\j9 (fL x out)<=j9 out+ar x+1
 | 0,x,h,_=>by omega
 | N+1,x,hN,h=>by
  intro out ho
  by_cases h1:x.ah=1
  .rw[a0Y x out h1];exact⟨ho,by omega⟩
  by_cases h6:x.ah=6
  .have b:=gM x h (.inl h6)
   rw[a0Z x out h6 b]
   obtain⟨a1,a2⟩:=F7 N (x.V.getD 0 zE) (by have:=b.l0;omega) b.g0 out ho
   obtain⟨c1,c2⟩:=F7 N (x.V.getD 1 zE) (by have:=b.l1;omega) b.g1 _ a1
   exact⟨c1,by have:=b.nd;omega⟩
  rcases a6j (out.any (λ y=>fN y x)) with e|e
  .rw[a1b x out h1 h6 e];exact⟨ho,by omega⟩
  .rw[a1a x out h1 h6 e]
   refine⟨λ y hy=>?_,?_⟩
   .rcases a5G.1 hy with q|q
    .exact ho y q
    .rw[a6t] at q;rw[q];exact h
   .simp only[j9,Ie,cW,a5U,a5O,a6a];omega
def V8(y x:O):Bool:=Op.bytesLess (bA y) (bA x)
def mU(x:O):List O->List O
 | []=>[x]
 | y::ys=>if V8 y x=true then y::mU x ys else x::y::ys
theorem Nd(x:O):∀ (ys:List O) (k:Nat),k<=ys.length->(∀ j y,j<k->ys[j]?=some y->V8 y x=true)->(∀ y,ys[k]?=some y->V8 y x=false)->mU x ys=ys.take k++x::ys.drop k
 | [],0,_,_,_=>rfl
 | y::ys,0,_,_,h=>by
  have:=h y rfl
  rw[mU,a5J (by rw[this];decide)];rfl
 | y::ys,k+1,hk,h1,h2=>by
  have h0:=h1 0 y (by omega) rfl
  have ih:=Nd x ys k (by simpa using hk) (λ j z hj e=>h1 (j+1) z (by omega) e) (λ z e=>h2 z e)
  rw[mU,a5T h0,ih];rfl
 | [],k+1,hk,_,_=>by simp at hk
theorem Sn(x:O):∀ ys y,y∈mU x ys↔y=x\/y∈ys
 | [],y=>by simp[mU]
 | z::zs,y=>by
  rw[mU]
  split
  .simp only[a5P,Sn x zs y]
   constructor
   .rintro (h|h|h)
    .exact .inr (.inl h)
    .exact .inl h
    .exact .inr (.inr h)
   .rintro (h|h|h)
    .exact .inr (.inl h)
    .exact .inl h
    .exact .inr (.inr h)
  .simp only[a5P]
theorem So(x:O):∀ ys,j9 (mU x ys)=j9 ys+ar x+1
 | []=>by simp[mU,j9,cW]
 | z::zs=>by
  have ih:=So x zs
  rw[mU]
  split
  .simp only[j9,cW,a5O] at ih ⊢;omega
  .simp only[j9,cW,a5O];omega
def F9(xs:List O):List O:=xs.foldl (λ out x=>mU x out) []
def Q1(xs:List O)(k:Nat):List O:=F9 (xs.take k)
theorem Wq(xs:List O)(k:Nat)(x:O)(h:xs[k]?=some x):Q1 xs (k+1)=mU x (Q1 xs k):=by
 have e:xs.take (k+1)=xs.take k++[x]:=by rw[List.take_add_one,h];rfl
 simp only[Q1,F9,e,a7X,a7k,a8W]
theorem Q2:∀ (xs acc:List O),(∀ y,y∈xs.foldl (λ out x=>mU x out) acc↔y∈xs\/y∈acc)/\j9 (xs.foldl (λ out x=>mU x out) acc)=j9 xs+j9 acc/\(xs.foldl (λ out x=>mU x out) acc).length=xs.length+acc.length
 | [],acc=>by simp[j9,cW]
 | x::xs,acc=>by
  obtain⟨h1,h2,h3⟩:=Q2 xs (mU x acc)
  have ht:=So x acc
  have hl:∀ ys:List O,(mU x ys).length=ys.length+1:=by
   intro ys
   induction ys with
   | nil=>rfl
   | cons y ys ih=>rw[mU];split<;>simp[ih]
  refine⟨λ y=>?_,?_,?_⟩
  .rw[a7k,h1,Sn,a5P]
   constructor
   .rintro (h|h|h)
    .exact .inl (.inr h)
    .exact .inl (.inl h)
    .exact .inr h
   .rintro ((h|h)|h)
    .exact .inr (.inl h)
    .exact .inl h
    .exact .inr (.inr h)
  .rw[a7k,h2,ht]
   simp only[j9,cW,a5O];omega
  .rw[a7k,h3,hl,a5O];omega
def vn:List O->O
 | []=>O.mk 1 0 []
 | x::xs=>xs.foldl (λ o y=>O.mk 6 0 [o,y]) x
noncomputable def S1(a b:O):O:=vn (F9 (fL b (fL a [])))
theorem Ss:∀ (xs:List O) (o:O),aL o=true->I7 xs->aL (xs.foldl (λ o y=>O.mk 6 0 [o,y]) o)=true/\ar (xs.foldl (λ o y=>O.mk 6 0 [o,y]) o)=ar o+j9 xs
 | [],o,h,_=>⟨h,by simp[j9,cW]⟩
 | x::xs,o,h,hx=>by
  obtain⟨h1,h2⟩:=Ss xs (O.mk 6 0 [o,x]) (jU o x 6 h (hx x (by simp)) (.inl rfl)) (λ y hy=>hx y (by simp[hy]))
  refine⟨h1,?_⟩
  rw[a7k,h2,nI]
  simp only[j9,cW,a5O];omega
structure WH(a b r:O):Prop where
 g:aL r=true
 n:ar r<=ar a+ar b+1
theorem a1f(a b:O)(h1:aL a=true)(h2:aL b=true):I7 (F9 (fL b (fL a [])))/\j9 (F9 (fL b (fL a [])))<=ar a+ar b+2:=by
 obtain⟨a1,a2⟩:=F7 _ a (a6c _) h1 [] (λ y hy=>by cases hy)
 obtain⟨b1,b2⟩:=F7 _ b (a6c _) h2 _ a1
 obtain⟨c1,c2,_⟩:=Q2 (fL b (fL a [])) []
 have e0:j9 []=0:=rfl
 refine⟨λ y hy=>?_,?_⟩
 .rcases (c1 y).1 hy with q|q
  .exact b1 y q
  .cases q
 .unfold F9;omega
theorem a2K(a b:O)(h1:aL a=true)(h2:aL b=true):WH a b (S1 a b):=by
 obtain⟨g,t⟩:=a1f a b h1 h2
 unfold S1
 generalize F9 (fL b (fL a []))=L at g t
 match L with
 | []=>exact⟨Fu,by show ar (O.mk 1 0 [])<=_;rw[Ct];omega⟩
 | x::xs =>
  obtain⟨q1,q2⟩:=Ss xs x (g x (by simp)) (λ y hy=>g y (by simp[hy]))
  refine⟨q1,?_⟩
  show ar (xs.foldl _ x)<=_
  rw[q2]
  simp only[j9,cW,a5O] at t ⊢;omega
def Om(x:O)(fs:List (O->O))(b:O):O :=
 if x.ah=1\/b.ah=1 then O.mk 1 0 [] else if x.ah=2 then b else if b.ah=2 then x else if x.ah=7 then fs.getD 0 id (fs.getD 1 id b) else O.mk 7 0 [x,b]
def rS(x b:O):O:=BK Om x b
theorem Mw(x b:O):rS x b=Om x (og Om x.V) b:=congrFun (qc _ x) b
theorem RD(x b:O)(h:x.ah=1\/b.ah=1):rS x b=O.mk 1 0 []:=by rw[Mw,Om,a5T h]
theorem RE(x b:O)(h:¬ (x.ah=1\/b.ah=1))(h2:x.ah=2):rS x b=b:=by rw[Mw,Om,a5J h,a5T h2]
theorem RF(x b:O)(h:¬ (x.ah=1\/b.ah=1))(h2:¬ x.ah=2)(h3:b.ah=2):rS x b=x:=by rw[Mw,Om,a5J h,a5J h2,a5T h3]
theorem RG(x b:O)(h:¬ (x.ah=1\/b.ah=1))(h2:¬ x.ah=2)(h3:¬ b.ah=2)(h7:x.ah=7)(g:B2 x):rS x b=rS (x.V.getD 0 zE) (rS (x.V.getD 1 zE) b):=by
 rw[Mw,Om,a5J h,a5J h2,a5J h3,a5T h7]
 rw[jD Om id zE x.V 0 (by have:=g.len;omega),jD Om id zE x.V 1 (by have:=g.len;omega)];rfl
theorem RH(x b:O)(h:¬ (x.ah=1\/b.ah=1))(h2:¬ x.ah=2)(h3:¬ b.ah=2)(h7:¬ x.ah=7):rS x b=O.mk 7 0 [x,b]:=by rw[Mw,Om,a5J h,a5J h2,a5J h3,a5J h7]
theorem PX:∀ (N:Nat) (x:O),cv x<N->aL x=true->∀ b,aL b=true->WH x b (rS x b)
 | 0,x,h,_=>by omega
 | N+1,x,hN,h=>by
  intro b hb
  have hx:=FO x
  have TT:=FO b
  by_cases h1:x.ah=1\/b.ah=1
  .rw[RD x b h1];exact⟨Fu,by rw[Ct];omega⟩
  by_cases h2:x.ah=2
  .rw[RE x b h1 h2];exact⟨hb,by omega⟩
  by_cases h3:b.ah=2
  .rw[RF x b h1 h2 h3];exact⟨h,by omega⟩
  by_cases h7:x.ah=7
  .have g:=gM x h (.inr h7)
   rw[RG x b h1 h2 h3 h7 g]
   have r:=PX N (x.V.getD 1 zE) (by have:=g.l1;omega) g.g1 b hb
   have q:=PX N (x.V.getD 0 zE) (by have:=g.l0;omega) g.g0 _ r.g
   exact⟨q.g,by have:=q.n;have:=r.n;have:=g.nd;omega⟩
  .rw[RH x b h1 h2 h3 h7];exact⟨jU x b 7 h hb (.inr rfl),by rw[nI];omega⟩
def JO(a:O):O:=if bG a=true then O.mk 2 0 [] else if a.ah=8 then a else O.mk 8 0 [a]
theorem a2J(a:O)(h:aL a=true):aL (JO a)=true/\ar (JO a)<=ar a+1:=by
 have:=FO a
 unfold JO
 split
 .exact⟨O5,by rw[Ct];omega⟩
 .split
  .exact⟨h,by omega⟩
  .exact⟨TO a h,by rw[SB];omega⟩
noncomputable def Wu(x:O)(ys:List O):O :=
 if x.ah=6 then S1 (ys.getD 0 x) (ys.getD 1 x) else if x.ah=7 then rS (ys.getD 0 x) (ys.getD 1 x) else if x.ah=8 then JO (ys.getD 0 x) else x
noncomputable def j0(x:O):O:=BK Wu x
theorem S5(x:O)(i:Nat)(h:i<x.V.length):(og Wu x.V).getD i x=j0 (x.V.getD i zE):=jD _ _ _ _ i h
theorem a1g(x:O)(h:x.ah=6)(b:B2 x):j0 x=S1 (j0 (x.V.getD 0 zE)) (j0 (x.V.getD 1 zE)):=by
 rw[j0,qc];simp only[Wu,h];rw[S5 x 0 (by have:=b.len;omega),S5 x 1 (by have:=b.len;omega)];rfl
theorem a1h(x:O)(h:x.ah=7)(b:B2 x):j0 x=rS (j0 (x.V.getD 0 zE)) (j0 (x.V.getD 1 zE)):=by
 rw[j0,qc];simp only[Wu,h];rw[S5 x 0 (by have:=b.len;omega),S5 x 1 (by have:=b.len;omega)];rfl
theorem a1i(x:O)(h:x.ah=8)(b:B1 x):j0 x=JO (j0 (x.V.getD 0 zE)):=by
 rw[j0,qc];simp only[Wu,h];rw[S5 x 0 (by have:=b.len;omega)];rfl
theorem a1j(x:O)(h6:¬ x.ah=6)(h7:¬ x.ah=7)(h8:¬ x.ah=8):j0 x=x:=by
 rw[j0,qc];simp[Wu,h6,h7,h8]
structure a0k(x r:O):Prop where
 g:aL r=true
 n:ar r<=ar x
theorem JQ:∀ (N:Nat) (x:O),cv x<N->aL x=true->a0k x (j0 x)
 | 0,x,h,_=>by omega
 | N+1,x,hN,h=>by
  by_cases h6:x.ah=6
  .have b:=gM x h (.inl h6)
   rw[a1g x h6 b]
   have p:=JQ N (x.V.getD 0 zE) (by have:=b.l0;omega) b.g0
   have q:=JQ N (x.V.getD 1 zE) (by have:=b.l1;omega) b.g1
   have r:=a2K _ _ p.g q.g
   exact⟨r.g,by have:=r.n;have:=p.n;have:=q.n;have:=b.nd;omega⟩
  by_cases h7:x.ah=7
  .have b:=gM x h (.inr h7)
   rw[a1h x h7 b]
   have p:=JQ N (x.V.getD 0 zE) (by have:=b.l0;omega) b.g0
   have q:=JQ N (x.V.getD 1 zE) (by have:=b.l1;omega) b.g1
   have r:=PX _ _ (a6c _) p.g _ q.g
   exact⟨r.g,by have:=r.n;have:=p.n;have:=q.n;have:=b.nd;omega⟩
  by_cases h8:x.ah=8
  .have b:=yc x h (.inr h8)
   rw[a1i x h8 b]
   have p:=JQ N (x.V.getD 0 zE) (by have:=b.l0;omega) b.g0
   have r:=a2J _ p.g
   exact⟨r.1,by have:=r.2;have:=p.n;have:=b.nd;omega⟩
  .rw[a1j x h6 h7 h8];exact⟨h,a6b _⟩
theorem UA(x:O)(h:aL x=true):a0k x (j0 x):=JQ _ x (a6c _) h
theorem dtT(x b:O)(h:aL x=true)(hb:aL b=true):WH x b (rS x b):=PX _ x (a6c _) h b hb
theorem yL(x:O)(h:ar x<=9000):dI x<=1048576:=by have:=Px x;omega
theorem a2P(x:O)(h:aL x=true)(hn:ar x<=9000):(bA x).length<=1000000:=by have:=tD _ x (a6c _) h;omega
end
end Go.Proofs.YtnehkikdlnmebaaGreatDoor

set_option maxRecDepth 4000
set_option maxHeartbeats 4000000
namespace Go.Proofs.YtnehkikdlnmebaaGreatDoor
noncomputable section
def gj:bb:=⟨vG,[],⟨(none,[⟨(.st .expr),O.mk 2 0 []⟩])⟩⟩
def Cl :Nat->aX:=λ _ => .none
theorem LD :cU (bo []) (aF kL) (Cl ) 0 (bC (bo []) kL λ r=>bH r [⟨(.st .expr),O.mk 2 0 []⟩]) (aO kL []) =
 ((O.mk (2:Int) (0:Int) [])=(O.mk 2 0 [])):=by kernel_rfl
theorem Lq(hE:aQ []):bb.Good gj:=by
 refine⟨aG Al rfl (by decide),?_⟩
 show True->bD prog vG [] (·=[⟨(.st .expr),O.mk 2 0 []⟩])
 intro  _
 refine bu (wr:=[]) (cl:=[]) (ro:=[]) hE Al GM (Cl ) ?_
 rewrite [LD ]
 refine ?_
 all_goals try and_intros
 all_goals first|rfl|trivial|omega|(simp only[a5M,a5N,aV,ag,cq,iW,jQ,cE] at *;omega)|(simp[aV,ag] at *;omega)|grind
theorem wz:bb.Good gj:=Lq trivial
def fg:bb:=⟨pF,[],⟨(none,[⟨(.st .expr),O.mk 1 0 []⟩])⟩⟩
def AJ :Nat->aX:=λ _ => .none
theorem J8 :cU (bo []) (aF jq) (AJ ) 0 (bC (bo []) jq λ r=>bH r [⟨(.st .expr),O.mk 1 0 []⟩]) (aO jq []) =
 ((O.mk (1:Int) (0:Int) [])=(O.mk 1 0 [])):=by kernel_rfl
theorem JF(hE:aQ []):bb.Good fg:=by
 refine⟨aG xP rfl (by decide),?_⟩
 show True->bD prog pF [] (·=[⟨(.st .expr),O.mk 1 0 []⟩])
 intro  _
 refine bu (wr:=[]) (cl:=[]) (ro:=[]) hE xP E8 (AJ ) ?_
 rewrite [J8 ]
 refine ?_
 all_goals try and_intros
 all_goals first|rfl|trivial|omega|(simp only[a5M,a5N,aV,ag,cq,iW,jQ,cE] at *;omega)|(simp[aV,ag] at *;omega)|grind
theorem pK:bb.Good fg:=JF trivial
def ff:bb:=⟨jt,[.v (.int .i64), .v (.st .expr), .v (.st .expr)],λ (k:Int) (a:O) (b:O)=>⟨(none,[⟨(.st .expr),O.mk k 0 [a,b]⟩])⟩⟩
def AF(k:Int)(a:O)(b:O):Nat->aX:=λ _ => .none
theorem J4(k:Int)(a:O)(b:O):cU (bo [] [] [] [4,5]) (aF ef) (AF k a b) 0 (bC (bo [] [] [] [4,5]) ef λ r=>bH r [⟨(.st .expr),O.mk k 0 [a,b]⟩]) (aO ef [.val ⟨(.int .i64),k⟩, .val ⟨(.st .expr),a⟩, .val ⟨(.st .expr),b⟩]) =
 ((O.mk k (0:Int) ([a,b]))=(O.mk k 0 [a,b])):=by kernel_rfl
theorem JB(hE:aQ []):bb.Good ff:=by
 refine⟨aG nX rfl (by decide),?_⟩
 show ∀ (k:Int) (a:O) (b:O),True->bD prog jt [.val ⟨(.int .i64),k⟩, .val ⟨(.st .expr),a⟩, .val ⟨(.st .expr),b⟩] (·=[⟨(.st .expr),O.mk k 0 [a,b]⟩])
 intro k a b _
 refine bu (wr:=[]) (cl:=[]) (ro:=[4,5]) hE nX uR (AF k a b) ?_
 rewrite [J4 k a b]
 refine ?_
 all_goals try and_intros
 all_goals first|rfl|trivial|omega|(simp only[a5M,a5N,aV,ag,cq,iW,jQ,cE] at *;omega)|(simp[aV,ag] at *;omega)|grind
theorem pJ:bb.Good ff:=JB trivial
def jL(n:Nat):bb:=⟨ov,[.r (.st .expr), .v (.int .i64)],λ (x:O) (atom:Int)=>⟨(some (cv x<n/\aL x=true/\0<=atom/\atom<=4096),[⟨.bool,iQ atom x⟩])⟩⟩
def fT:bb:=⟨ov,[.r (.st .expr), .v (.int .i64)],λ (x:O) (atom:Int)=>⟨(some (aL x=true/\0<=atom/\atom<=4096),[⟨.bool,iQ atom x⟩])⟩⟩
def yH(x:O)(atom:Int):Nat->aX:=λ _ => .none
abbrev vm(n:Nat)(x:O)(atom:Int):Prop:=(x.V.length<=140737488355328 ->
 (aV (1:Int) x.V.length/\((cv (x.V.getD 1 zE)<n/\aL (x.V.getD 1 zE)=true/\0<=atom/\atom<=4096)/\(iQ atom (x.V.getD 1 zE))=(iQ atom x))))
theorem IC(n:Nat)(x:O)(atom:Int):cU (bo [jL n,pq]) (aF iB) (yH x atom) 0 (bC (bo [jL n,pq]) iB λ r=>bH r [⟨.bool,iQ atom x⟩]) (aO iB [.ref ⟨(.st .expr),x⟩, .val ⟨(.int .i64),atom⟩]) =
 ((ag x.ah ->
 (((decide (x.ah=(4:Int)))=true ->
 false=(iQ atom x))/\((decide (x.ah=(4:Int)))=false ->
 (((decide (x.ah=(6:Int)))=true ->
 (x.V.length<=140737488355328 ->
 (aV (0:Int) x.V.length/\((cv (x.V.getD 0 zE)<n/\aL (x.V.getD 0 zE)=true/\0<=atom/\atom<=4096)/\(((iQ atom (x.V.getD 0 zE))=false ->
 (vm n x atom))/\((iQ atom (x.V.getD 0 zE))=(!false) ->
 true=(iQ atom x)))))))/\((decide (x.ah=(6:Int)))=false ->
 (((decide (x.ah=(7:Int)))=true ->
 (x.V.length<=140737488355328 ->
 (aV (0:Int) x.V.length/\((cv (x.V.getD 0 zE)<n/\aL (x.V.getD 0 zE)=true/\0<=atom/\atom<=4096)/\(((iQ atom (x.V.getD 0 zE))=true ->
 (vm n x atom))/\((iQ atom (x.V.getD 0 zE))=(!true) ->
 false=(iQ atom x)))))))/\((decide (x.ah=(7:Int)))=false ->
 (((decide (x.ah=(8:Int)))=true ->
 true=(iQ atom x))/\((decide (x.ah=(8:Int)))=false ->
 ((oH x=true/\0<=atom/\atom<=4096)/\(gE atom x)=(iQ atom x)))))))))))):=by kernel_rfl
theorem HT(n:Nat)(hE:aQ [jL n,pq]):bb.Good (jL (n+1)):=by
 refine⟨aG mS rfl (by decide),?_⟩
 show ∀ (x:O) (atom:Int),(cv x<n+1/\aL x=true/\0<=atom/\atom<=4096)->bD prog ov [.ref ⟨(.st .expr),x⟩, .val ⟨(.int .i64),atom⟩] (·=[⟨.bool,iQ atom x⟩])
 intro x atom hp
 refine bu (wr:=[]) (cl:=[]) (ro:=[]) hE mS DB (yH x atom) ?_
 rewrite [IC n x atom]
 obtain⟨hm,hg,h0,h1⟩:=hp
 refine λ a0=>⟨λ a1=>?_,λ a1=>⟨λ a2=>λ a3=>⟨?_,⟨?_,⟨λ a4=>λ a5=>⟨?_,⟨?_,?_⟩⟩,λ a4=>?_⟩⟩⟩,λ a2=>⟨λ a3=>λ a4=>⟨?_,⟨?_,⟨λ a5=>λ a6=>⟨?_,⟨?_,?_⟩⟩,λ a5=>?_⟩⟩⟩,λ a3=>⟨λ a4=>?_,λ a4=>⟨?_,?_⟩⟩⟩⟩⟩
 all_goals try and_intros
 all_goals first|rfl|trivial|omega|((try simp only[a5M,a5N,aV,Bool.true_or,a7E,Bool.false_or,a8e,Bool.or_true,a7q] at *);first|rfl|omega|exact a3F atom x (by omega)|exact a3I atom x (by omega)|exact a3J atom x (by omega) (by omega) (by omega) (by omega)|exact Zg x hg (by have:=RV x hg;omega)|(have b:=gM x hg (by omega);first|(have:=b.len;omega)|exact b.g0|exact b.g1|(have:=b.l0;omega)|(have:=b.l1;omega)|(rw[a3G atom x (by omega) b];simp_all;done)|(rw[a3H atom x (by omega) b];simp_all;done)))
theorem Rn :∀ n,aQ [jL n]
 | 0=>⟨⟨aG mS rfl (by decide),λ _ _ h=>absurd h.1 (a6D _)⟩,trivial⟩
 | n+1=>by
  have ih:=Rn  n
  exact⟨HT n ⟨ih.1,Fo,trivial⟩,trivial⟩
theorem uh :bb.Good fT :=
 ⟨aG mS rfl (by decide),λ x atom hp=>(Rn  (cv x+1)).1.2 x atom (⟨a6c _,hp⟩)⟩
def ld(n:Nat):bb:=⟨pA,[.r (.st .expr)],λ (x:O)=>⟨(some (cv x<n/\ar x<=1048576),[⟨(.int .i64),(ar x:Int)⟩])⟩⟩
def ph:bb:=⟨pA,[.r (.st .expr)],λ (x:O)=>⟨(some (ar x<=1048576),[⟨(.int .i64),(ar x:Int)⟩])⟩⟩
def Az(x:O):Nat->aX:=(λ zb=>if Nat.beq zb 0 then .mk (Nat) (λ k=>k<=x.V.length) (λ k=>x.V.length - k) [] [1] (λ k=>[(4, .aS ⟨(.int .i64),((k:Int):Int)⟩),(3, .aS ⟨(.int .i64),((1+cW ar (x.V.take k):Int):Int)⟩)]) [0,2,3,4,5,6,7,8,9,10,11,12,13,14,15,16,17,18,19,20,21,22,23] (λ k=>[]) [] [] (λ k=>λ _ => .none) else .none)
theorem JZ(n:Nat)(x:O):cU (bo [ld n]) (aF jh) (Az x) 0 (bC (bo [ld n]) jh λ r=>bH r [⟨(.int .i64),(ar x:Int)⟩]) (aO jh [.ref ⟨(.st .expr),x⟩]) =
 (((∃ k1:Nat,(k1<=x.V.length/\((x=x/\((0:Int)=(0:Int)/\((1:Int)=(1+cW ar (x.V.take k1):Int)/\((0:Int)=(k1:Int)/\True))))/\True)))/\(∀ k1:Nat,(k1<=x.V.length ->
 (x.V.length<=140737488355328 ->
 (ag ((x.V.length:Int)) ->
 (((decide ((k1:Int)<((x.V.length:Int))))=true ->
 (x.V.length<=140737488355328 ->
 (aV (k1:Int) x.V.length/\((cv (x.V.getD k1 zE)<n/\ar (x.V.getD k1 zE)<=1048576)/\(ag ((ar (x.V.getD k1 zE):Int)) ->
 (ag ((1+cW ar (x.V.take k1):Int)+((ar (x.V.getD k1 zE):Int)))/\(ag ((k1:Int)+(1:Int))/\(∃ k2:Nat,(k2<=x.V.length/\(x.V.length - k2<x.V.length - k1/\((x=x/\((0:Int)=(0:Int)/\(((1+cW ar (x.V.take k1):Int)+((ar (x.V.getD k1 zE):Int)))=(1+cW ar (x.V.take k2):Int)/\(((k1:Int)+(1:Int))=(k2:Int)/\True))))/\True)))))))))))/\((decide ((k1:Int)<((x.V.length:Int))))=false ->
 (1+cW ar (x.V.take k1):Int)=(ar x:Int))))))))):=by kernel_rfl
theorem Jw(n:Nat)(hE:aQ [ld n]):bb.Good (ld (n+1)):=by
 refine⟨aG nT rfl (by decide),?_⟩
 show ∀ (x:O),(cv x<n+1/\ar x<=1048576)->bD prog pA [.ref ⟨(.st .expr),x⟩] (·=[⟨(.int .i64),(ar x:Int)⟩])
 intro x hp
 refine bu (wr:=[]) (cl:=[]) (ro:=[]) hE nT E0 (Az x) ?_
 rewrite [JZ n x]
 rw[nH x] at hp
 have f0:=lA x
 have f1:=JP ar x.V
 refine⟨⟨0,⟨?_,⟨⟨rfl,⟨rfl,⟨?_,⟨?_,trivial⟩⟩⟩⟩,trivial⟩⟩⟩,λ k1 a0=>have WR:=sD ar zE x.V k1;have a0l:=gT ar x.V k1;have a0m:=gT ar x.V (k1+1);have a0n:=yV ar x.V k1;have a0o:=cR zE x.V k1;λ a1=>λ a2=>⟨λ a3=>λ a4=>⟨?_,⟨?_,λ a5=>⟨?_,⟨?_,⟨k1+1,⟨?_,⟨?_,⟨⟨rfl,⟨rfl,⟨?_,⟨?_,trivial⟩⟩⟩⟩,trivial⟩⟩⟩⟩⟩⟩⟩⟩,λ a3=>?_⟩⟩
 all_goals try and_intros
 all_goals try rw[nH x]
 all_goals first|rfl|trivial|omega|(simp only[a5M,a5N,aV,ag,cq,iW,jQ,cE] at *;omega)|(simp[aV,ag] at *;omega)|grind
theorem L5 :∀ n,aQ [ld n]
 | 0=>⟨⟨aG nT rfl (by decide),λ _ h=>absurd h.1 (a6D _)⟩,trivial⟩
 | n+1=>by
  have ih:=L5  n
  exact⟨Jw n ⟨ih.1,trivial⟩,trivial⟩
theorem Fl :bb.Good ph :=
 ⟨aG nT rfl (by decide),λ x hp=>(L5  (cv x+1)).1.2 x (⟨a6c _,hp⟩)⟩
def mg(n:Nat):bb:=⟨rp,[.r (.st .expr), .r (.st .expr)],λ (x:O) (b:O)=>⟨(some (cv x<n/\aL x=true/\aL b=true/\ar x+ar b<=4000),[⟨(.st .expr),rS x b⟩])⟩⟩
def ri:bb:=⟨rp,[.r (.st .expr), .r (.st .expr)],λ (x:O) (b:O)=>⟨(some (aL x=true/\aL b=true/\ar x+ar b<=4000),[⟨(.st .expr),rS x b⟩])⟩⟩
def Ck(x:O)(b:O):Nat->aX:=λ _ => .none
abbrev yw(n:Nat)(x:O)(b:O):Prop:=(ag x.ah ->
 (((decide (x.ah=(2:Int)))=true ->
 (dI b<=1048576/\(aC b)=(rS x b)))/\((decide (x.ah=(2:Int)))=false ->
 (ag b.ah ->
 (((decide (b.ah=(2:Int)))=true ->
 (dI x<=1048576/\(aC x)=(rS x b)))/\((decide (b.ah=(2:Int)))=false ->
 (ag x.ah ->
 (((decide (x.ah=(7:Int)))=true ->
 (x.V.length<=140737488355328 ->
 (aV (1:Int) x.V.length/\((cv (x.V.getD 1 zE)<n/\aL (x.V.getD 1 zE)=true/\aL b=true/\ar (x.V.getD 1 zE)+ar b<=4000)/\(x.V.length<=140737488355328 ->
 (aV (0:Int) x.V.length/\((cv (x.V.getD 0 zE)<n/\aL (x.V.getD 0 zE)=true/\aL (aC (rS (x.V.getD 1 zE) b))=true/\ar (x.V.getD 0 zE)+ar (aC (rS (x.V.getD 1 zE) b))<=4000)/\(aC (rS (x.V.getD 0 zE) (aC (rS (x.V.getD 1 zE) b))))=(rS x b))))))))/\((decide (x.ah=(7:Int)))=false ->
 (dI x<=1048576/\(dI b<=1048576/\(aC (O.mk (7:Int) 0 [x,b]))=(rS x b))))))))))))
theorem LC(n:Nat)(x:O)(b:O):cU (bo [mg n,cO,fg,ff]) (aF kK) (Ck x b) 0 (bC (bo [mg n,cO,fg,ff]) kK λ r=>bH r [⟨(.st .expr),rS x b⟩]) (aO kK [.ref ⟨(.st .expr),x⟩, .ref ⟨(.st .expr),b⟩]) =
 ((ag x.ah ->
 (((decide (x.ah=(1:Int)))=false ->
 (ag b.ah ->
 (((decide (b.ah=(1:Int)))=true ->
 (aC (O.mk 1 0 []))=(rS x b))/\((decide (b.ah=(1:Int)))=false ->
 (yw n x b)))))/\((decide (x.ah=(1:Int)))=(!false) ->
 ((true=true ->
 (aC (O.mk 1 0 []))=(rS x b))/\(true=false ->
 (yw n x b))))))):=by kernel_rfl
theorem Lp(n:Nat)(hE:aQ [mg n,cO,fg,ff]):bb.Good (mg (n+1)):=by
 refine⟨aG pc rfl (by decide),?_⟩
 show ∀ (x:O) (b:O),(cv x<n+1/\aL x=true/\aL b=true/\ar x+ar b<=4000)->bD prog rp [.ref ⟨(.st .expr),x⟩, .ref ⟨(.st .expr),b⟩] (·=[⟨(.st .expr),rS x b⟩])
 intro x b hp
 refine bu (wr:=[]) (cl:=[]) (ro:=[]) hE pc GL (Ck x b) ?_
 rewrite [LC n x b]
 obtain⟨hm,hg,hb,hn⟩:=hp
 refine λ a0=>⟨λ a1=>λ a2=>⟨λ a3=>?_,λ a3=>λ a4=>⟨λ a5=>⟨?_,?_⟩,λ a5=>λ a6=>⟨λ a7=>⟨?_,?_⟩,λ a7=>λ a8=>⟨λ a9=>λ dt=>⟨?_,⟨?_,λ dP=>⟨?_,⟨?_,?_⟩⟩⟩⟩,λ a9=>⟨?_,⟨?_,?_⟩⟩⟩⟩⟩⟩,λ a1=>⟨λ a2=>?_,λ a2=>λ a3=>⟨λ a4=>⟨?_,?_⟩,λ a4=>λ a5=>⟨λ a6=>⟨?_,?_⟩,λ a6=>λ a7=>⟨λ a8=>λ a9=>⟨?_,⟨?_,λ dt=>⟨?_,⟨?_,?_⟩⟩⟩⟩,λ a8=>⟨?_,⟨?_,?_⟩⟩⟩⟩⟩⟩⟩
 all_goals try and_intros
 all_goals try simp only[O.eta,bE] at *
 all_goals (try simp only[a5Z,a6g,a5M,a5N,aV,O.eta] at *);first|rfl|trivial|omega|exact yL _ (by omega)|exact (RD x b (by omega)).symm|exact (RE x b (by omega) (by omega)).symm|exact (RF x b (by omega) (by omega) (by omega)).symm|exact (RH x b (by omega) (by omega) (by omega) (by omega)).symm|with_reducible assumption|(have g:=gM x hg (by omega);first|(have:=g.len;omega)|exact g.g0|exact g.g1|(have:=g.l0;omega)|(have:=g.l1;omega)|exact (dtT _ b g.g1 hb).g|(have:=g.nd;omega)|(have:=g.nd;have:=(dtT _ b g.g1 hb).n;omega)|exact (RG x b (by omega) (by omega) (by omega) (by omega) g).symm)|exact congrArg O.ah (RD x b (by omega)).symm|exact congrArg O.ah (RE x b (by omega) (by omega)).symm|exact congrArg O.ah (RF x b (by omega) (by omega) (by omega)).symm|exact congrArg O.ah (RH x b (by omega) (by omega) (by omega) (by omega)).symm|exact congrArg O.ah (RG x b (by omega) (by omega) (by omega) (by omega) (gM x hg (by omega))).symm|exact congrArg O.bc (RD x b (by omega)).symm|exact congrArg O.bc (RE x b (by omega) (by omega)).symm|exact congrArg O.bc (RF x b (by omega) (by omega) (by omega)).symm|exact congrArg O.bc (RH x b (by omega) (by omega) (by omega) (by omega)).symm|exact congrArg O.bc (RG x b (by omega) (by omega) (by omega) (by omega) (gM x hg (by omega))).symm|exact congrArg O.V (RD x b (by omega)).symm|exact congrArg O.V (RE x b (by omega) (by omega)).symm|exact congrArg O.V (RF x b (by omega) (by omega) (by omega)).symm|exact congrArg O.V (RH x b (by omega) (by omega) (by omega) (by omega)).symm|exact congrArg O.V (RG x b (by omega) (by omega) (by omega) (by omega) (gM x hg (by omega))).symm
theorem OM :∀ n,aQ [mg n]
 | 0=>⟨⟨aG pc rfl (by decide),λ _ _ h=>absurd h.1 (a6D _)⟩,trivial⟩
 | n+1=>by
  have ih:=OM  n
  exact⟨Lp n ⟨ih.1,jF,pK,pJ,trivial⟩,trivial⟩
theorem Hg :bb.Good ri :=
 ⟨aG pc rfl (by decide),λ x b hp=>(OM  (cv x+1)).1.2 x b (⟨a6c _,hp⟩)⟩
def mc:bb:=⟨tY,[.r (.st .expr)],λ (x:O)=>⟨(some (aL x=true/\ar x<=4000),[⟨(.st .expr),JO x⟩])⟩⟩
def AG(x:O):Nat->aX:=λ _ => .none
theorem J5(x:O):cU (bo [dO,cO,gj]) (aF jm) (AG x) 0 (bC (bo [dO,cO,gj]) jm λ r=>bH r [⟨(.st .expr),JO x⟩]) (aO jm [.ref ⟨(.st .expr),x⟩]) =
 ((((bG x)=true ->
 (aC (O.mk 2 0 []))=(JO x))/\((bG x)=false ->
 (ag x.ah ->
 (((decide (x.ah=(8:Int)))=true ->
 (dI x<=1048576/\(aC x)=(JO x)))/\((decide (x.ah=(8:Int)))=false ->
 (dI x<=1048576/\(O.mk (8:Int) (0:Int) ([x]))=(JO x)))))))):=by kernel_rfl
theorem JC(hE:aQ [dO,cO,gj]):bb.Good mc:=by
 refine⟨aG xO rfl (by decide),?_⟩
 show ∀ (x:O),(aL x=true/\ar x<=4000)->bD prog tY [.ref ⟨(.st .expr),x⟩] (·=[⟨(.st .expr),JO x⟩])
 intro x hp
 refine bu (wr:=[]) (cl:=[]) (ro:=[]) hE xO E5 (AG x) ?_
 rewrite [J5 x]
 obtain⟨hg,hn⟩:=hp
 refine⟨λ a0=>?_,λ a0=>λ a1=>⟨λ a2=>⟨?_,?_⟩,λ a2=>⟨?_,?_⟩⟩⟩
 all_goals try and_intros
 all_goals try simp only[O.eta,bE] at *
 all_goals (try simp only[decide_eq_true_eq,decide_eq_false_iff_not,aV,O.eta] at *);first|rfl|trivial|omega|exact yL _ (by omega)|(unfold JO;first|(rw[if_pos (by with_reducible assumption)];done)|(rw[if_neg (by simp_all),if_pos (by with_reducible assumption)];done)|(rw[if_neg (by simp_all),if_neg (by with_reducible assumption)];done))
theorem Fp:bb.Good mc:=JC ⟨qe,jF,wz,trivial⟩
end
end Go.Proofs.YtnehkikdlnmebaaGreatDoor

set_option maxRecDepth 4000
set_option maxHeartbeats 4000000
namespace Go.Proofs.YtnehkikdlnmebaaGreatDoor
noncomputable section
open Go.RowKit Go.Proofs
theorem Yv{w0 w:World}{S:Nat->Prop}(hS:oE w0 S)(hb:Below w0.heap.size w0 w):oE w S :=
 ⟨λ b h=>a5Q (hS.1 b h) hb.size,hS.2.mono (λ _ h=>h) λ b h=>hb.block b (hS.1 b h)⟩
theorem Yn{w0 w:World}{S:Nat->Prop}(hS:oE w0 S)(hb:Below w0.heap.size w0 w){d:D}{cs:List Value}(r:Rd w0 S d cs):Rd w S d cs:=Rd.aM (λ _ h=>h) (λ b h=>hb.block b (hS.1 b h)) _ r
theorem xQ{B:Nat}{w w':World}(h:bX (λ _=>False) w w')(hB:B<=w.heap.size):Below B w w':=⟨h.os,h.tape,h.output,h.size,λ k hk=>h.block k (by omega) id⟩
theorem Ux{w0 w:World}{S:Nat->Prop}(hS:oE w0 S)(hb:Below w0.heap.size w0 w)(x y:O)(b o b' o':Nat)(cx cy:List Value)(h1:b<w.heap.size)(h2:bP w b o cx)(rx:Rd w0 S x.aK cx)
  (ye:b'<w.heap.size) (I8:bP w b' o' cy) (ry:Rd w0 S y.aK cy) :
  Calls prog mh #[.pointer (some ⟨b,o,none⟩), .pointer (some ⟨b',o',none⟩)] w λ e w'=>e = .returned (.bool (fN x y))/\bX (λ _=>False) w w':=by
 refine (u6.2 x y trivial w _ [_,_] (Yv hS hb) ⟨⟨b,o,cx,rfl,h1,h2,Yn hS hb rx⟩,⟨b',o',cy,rfl,ye,I8,Yn hS hb ry⟩,trivial⟩).mono ?_
 rintro e w' ⟨v,S',res,rfl,rfl,iR,_,_,hr⟩
 have hr:[v]=[.bool (fN x y)]:=hr
 simp only[a5L,a5R] at hr
 subst hr
 exact⟨rfl,iR⟩
structure Bv(q:Nat)(v v':Value)(w w':World):Prop where
 os:w'.os=w.os
 tape:w'.tape=w.tape
 output:w'.output=w.output
 size:w.heap.size<=w'.heap.size
 block:∀ k,k<w.heap.size->k≠q->v.ownBlock≠some k->w'.heap[k]?=w.heap[k]?
 own:∀ k,v'.ownBlock=some k->v.ownBlock=some k\/w.heap.size<=k
theorem Bv.trans{q:Nat}{v v' v'':Value}{w w' w'':World}(h:Bv q v v' w w')(g:Bv q v' v'' w' w''):Bv q v v'' w w'':=by
 refine⟨g.os.trans h.os,g.tape.trans h.tape,g.output.trans h.output,a7T h.size g.size,λ k h1 h2 h3=>?_,λ k hk=>?_⟩
 .rw[g.block k (a5Q h1 h.size) h2 λ e=>?_,h.block k h1 h2 h3]
  rcases h.own k e with q|q
  .exact h3 q
  .omega
 .rcases g.own k hk with q|q
  .exact h.own k q
  .exact .inr (a7T h.size q)
theorem Bv.below{q B:Nat}{v v':Value}{w w':World}(h:Bv q v v' w w')(hB:B<=w.heap.size)(hq:B<=q)(hv:∀ k,v.ownBlock=some k->B<=k):Below B w w' :=
 ⟨h.os,h.tape,h.output,h.size,λ k hk=>h.block k (by omega) (by omega) λ e=>by have:=hv k e;omega⟩
theorem Bv.same{q:Nat}{v:Value}{w w':World}(h:bX (λ _=>False) w w'):Bv q v v w w':=⟨h.os,h.tape,h.output,h.size,λ k hk _ _=>h.block k hk id,λ k e => .inl e⟩
structure Dk(w0:World)(S:Nat->Prop)(q:Nat)(w:World)(v:Value)(ys:List O)(L:List Value):Prop where
 ft:Below w0.heap.size w0 w
 q0:w0.heap.size<=q
 var:w.heap[q]?=some (.cells #[v] 26 (0,0))
 own:w.ownsRow w0.heap.size 28 3 v ys.length L
 rd:dA w0 S (ys.map O.aK) L
 ne:v.ownBlock≠some q
 nn:v ≠ .slice none 0 0
theorem Dk.lt{w0:World}{S:Nat->Prop}{q:Nat}{w:World}{v:Value}{ys:List O}{L:List Value}(h:Dk w0 S q w v ys L):q<w.heap.size:=cH h.var
theorem Dk.form{w0:World}{S:Nat->Prop}{q:Nat}{w:World}{v:Value}{ys:List O}{L:List Value}(h:Dk w0 S q w v ys L):∃ g cap cur,v = .slice (some ⟨g,0,none⟩) ys.length cap/\w0.heap.size<=g/\g≠q/\w.heap[g]?=some (.cells cur 28 (0,0))/\ys.length<=cap/\cap<=maxLen/\cur.toList.take (ys.length * 3)=L:=by
 rcases h.own.2 with ⟨e,_⟩|⟨g,cap,cur,rfl,h1,h2,h3,h4,h5,h6⟩
 .exact absurd e h.nn
 .exact⟨g,cap,cur,rfl,h1,λ e=>h.ne (by rw[e];rfl),h2,h3,h4,h6⟩
theorem Dk.aM{w0:World}{S:Nat->Prop}{q:Nat}{w w':World}{v:Value}{ys:List O}{L:List Value}(h:Dk w0 S q w v ys L)(hk:bX (λ _=>False) w w'):Dk w0 S q w' v ys L :=
 ⟨h.ft.trans (xQ hk h.ft.size),h.q0,(hk.block q h.lt id).trans h.var,h.own.kept (row:=none) ⟨hk.os,hk.tape,hk.output,hk.size,λ k h1 _=>hk.block k h1 id⟩ (by cases hv:v.ownBlock<;>simp),h.rd,h.ne,h.nn⟩
theorem MA(ys:List O):∀ d∈ys.map O.aK,d.size=3:=λ d hd=>by
 obtain⟨y,_,rfl⟩:=a5K.1 hd
 cases y;rfl
theorem H4{w0:World}{S:Nat->Prop}{ys:List O}{L:List Value}{w:World}{g:Nat}{cur:Array Value}(hg:w.heap[g]?=some (.cells cur 28 (0,0)))(ht:cur.toList.take (ys.length * 3)=L)(hr:dA w0 S (ys.map O.aK) L)
  (k:Nat) (y:O) (hy:ys[k]?=some y):∃ c0 c1 c2,bP w g (k * 3) [c0,c1,c2]/\Rd w0 S y.aK [c0,c1,c2]:=by
 have hk:k<ys.length:=(a5W.1 hy).1
 have r:=dA.at_ (n:=3) _ hr (MA ys) k y.aK (by simp[hy])
 have hl:=dA.length (n:=3) _ hr (MA ys)
 rw[a6B] at hl
 have h3:((L.drop (k * 3)).take 3).length=3:=by rw[a6R,a6S];omega
 match hm:(L.drop (k * 3)).take 3,h3 with
 | [c0,c1,c2],_ =>
  rw[hm] at r
  refine⟨c0,c1,c2,λ j v hj=>?_,r⟩
  rw[<-hm] at hj
  have hj3:j<3:=by have:=(a5W.1 hj).1;omega
  rw[a9n hj3,a7y,<-ht,a9n (by omega)] at hj
  rw[cell_of_row w g (k * 3+j) cur 28 (0,0) hg]
  simpa using hj
theorem Nq{w0:World}{S:Nat->Prop}{q:Nat}{w:World}{v:Value}{ys:List O}{L:List Value}(h:Dk w0 S q w v ys L):w.cell? ⟨q,0,none⟩=some v:=by simp[World.cell?,h.var]
theorem xY{w0 w:World}(hb:Below w0.heap.size w0 w){b o:Nat}{cs:List Value}(h:bP w0 b o cs)(h1:b<w0.heap.size):bP w b o cs:=h.aM (hb.block b h1)
abbrev OK(w0:World)(S:Nat->Prop)(x:O)(b o q:Nat)(v:Value)(ys:List O)(w:World):Prop :=
 Calls prog 94 #[.pointer (some ⟨b,o,none⟩), .pointer (some ⟨q,0,none⟩)] w λ e w'=>e = .returned (.tuple #[])/\∃ v' L',Dk w0 S q w' v' (fL x ys) L'/\Bv q v v' w w'
def kN:Value->Nat
 | .int _ k=>k.toNat
 | _=>0
set_option maxRecDepth 100000 in
theorem a4J(w0:World)(S:Nat->Prop)(x:O)(h1:x.ah=1)(b o q:Nat)(v:Value)(ys:List O)(L:List Value)(w:World)(hl:Dk w0 S q w v ys L)(hc:w.cell? ⟨b,o,none⟩=some (.int .i64 1)):OK w0 S x b o q v ys w:=by
 go_enter Tryz.func94,Tryz.ntmps94
 go_wp2
 (try simp only[Exit.inBlock,Exit.then])
 refine a9o (a9p rfl _ _ _) rfl ?_
 rw[a0Y x ys h1]
 exact⟨rfl,v,L,hl,Bv.same (bX.refl _ w)⟩
set_option maxRecDepth 100000 in
theorem a4K(w0:World)(S:Nat->Prop)(x:O)(h6:x.ah=6)(b2:B2 x)(b o q kb ko cap:Nat)(v:Value)(ys:List O)(w:World)(c0:w.cell? ⟨b,o,none⟩=some (.int .i64 6))
  (c2:∀ w',(∃ v',Bv q v v' w w')->w'.cell? ⟨b,o+2,none⟩=some (.slice (some ⟨kb,ko,none⟩) 2 cap))
  (i0:OK w0 S (x.V.getD 0 zE) kb ko q v ys w)
  (i1:∀ w' v' L',Dk w0 S q w' v' (fL (x.V.getD 0 zE) ys) L'->Bv q v v' w w'->OK w0 S (x.V.getD 1 zE) kb (ko+3) q v' (fL (x.V.getD 0 zE) ys) w'):OK w0 S x b o q v ys w:=by
 have c2':=c2 w ⟨v,Bv.same (bX.refl _ w)⟩
 go_enter Tryz.func94,Tryz.ntmps94
 go_wp2_with (go_at_call 94;refine i0.mono ?_)
 rintro e w1 ⟨he,v1,L1,l1,f1⟩;subst he
 have a5u:=c2 w1 ⟨v1,f1⟩
 go_wp2_with (go_at_call 94;refine (i1 w1 v1 L1 l1 f1).mono ?_)
 rintro e w2 ⟨he,v2,L2,l2,f2⟩;subst he
 go_wp2
 (try simp only[Exit.inBlock,Exit.then])
 refine a9o (a9p rfl _ _ _) rfl ?_
 rw[a0Z x ys h6 b2]
 exact⟨rfl,v2,L2,l2,f1.trans f2⟩
theorem a4G(L:List Value)(z0 z1 z2 a b c:Value)(n:Nat)(h:L.length=n):(((L++[z0,z1,z2]).set n a).set (n+1) b).set (n+2) c=L++[a,b,c]:=by
 subst h
 rw[a8n _ _ (by omega),a8n _ _ (by omega),a8n _ _ (by omega)]
 simp
theorem YH{w0 w wr w2 W:World}{S:Nat->Prop}{q g gg EJ G7:Nat}{x:O}{ys:List O}{L:List Value}{a b c:Value}{cur3:Array Value}{o1:Obj}(lr:Dk w0 S q wr (.slice (some ⟨g,0,none⟩) ys.length EJ) ys L)
  (mY:bX (λ _=>False) w wr) (hqw:q<w.heap.size) (hgw:g<w.heap.size) (eL:(wr.alloc o1).grownBy w2 (some g)) (Qc:some g=some gg\/gg=wr.heap.size+1) (a0K:gg<w2.heap.size) (Zh:gg≠q)
  (s3:w2.heap[gg]?=some (.cells cur3 28 (0,0))) (s4:cur3.size=G7 * 3) (s5:ys.length+1<=G7) (s6:G7<=maxLen) (s7:w0.heap.size<=gg) (s8:cur3.toList.take ((ys.length+1) * 3)=L++[.int .i64 0, .int .i64 0, .slice none 0 0])
  (rx:Rd w0 S x.aK [a,b,c]) (k1:W.os=w2.os) (k2:W.tape=w2.tape) (k3:W.output=w2.output) (k4:W.heap.size=w2.heap.size) (k5:∀ k,k≠q->k≠gg->W.heap[k]?=w2.heap[k]?)
  (k6:W.heap[q]?=some (.cells #[.slice (some ⟨gg,0,none⟩) (ys.length+1) G7] 26 (0,0)))
  (k7:W.heap[gg]?=some (.cells (((cur3.setIfInBounds (ys.length * 3) a).setIfInBounds (ys.length * 3+1) b).setIfInBounds (ys.length * 3+2) c) 28 (0,0))) :
  Dk w0 S q W (.slice (some ⟨gg,0,none⟩) (ys.length+1) G7) (ys++[x]) (L++[a,b,c])/\Bv q (.slice (some ⟨g,0,none⟩) ys.length EJ) (.slice (some ⟨gg,0,none⟩) (ys.length+1) G7) w W:=by
 have Xd:L.length=ys.length * 3:=lr.own.1
 have hg0:w0.heap.size<=g:=(lr.own.lt g rfl).1
 have sz:(wr.alloc o1).heap.size=wr.heap.size+1:=by simp
 have dS:∀ k,k<wr.heap.size->k≠q->k≠g->W.heap[k]?=wr.heap[k]?:=λ k h1 h2 h3=>by
  rw[k5 k h2 (λ e=>by rcases Qc with r|r<;>first|omega|(cases r;exact h3 e)),eL.block k (by omega) (λ e=>h3 (by cases e;rfl)),a7F _ _ _ h1]
 have fr:Bv q (.slice (some ⟨g,0,none⟩) ys.length EJ) (.slice (some ⟨gg,0,none⟩) (ys.length+1) G7) w W:=by
  refine⟨k1.trans (eL.os.trans mY.os),k2.trans (eL.tape.trans mY.tape),k3.trans (eL.output.trans mY.output),by have:=eL.size;have:=mY.size;omega,λ k h1 h2 h3=>?_,λ k hk=>?_⟩
  .have hk:k<wr.heap.size:=a5Q h1 mY.size
   rw[dS k hk h2 (λ e=>h3 (by rw[e];rfl)),mY.block k h1 id]
  .simp only[Value.ownBlock,a5E] at hk ⊢
   subst hk
   rcases Qc with e|e
   .cases e;exact .inl rfl
   .exact .inr (by have:=mY.size;omega)
 refine⟨⟨?_,lr.q0,k6,⟨?_, .inr ⟨gg,G7,_,?_,s7,k7,by simpa using s5,s6,by simpa using s4,?_⟩⟩,?_,λ e=>Zh (by simpa [Value.ownBlock] using e),by simp⟩,fr⟩
 .refine lr.ft.trans ⟨k1.trans eL.os,k2.trans eL.tape,k3.trans eL.output,by have:=eL.size;omega,λ k hk=>dS k ?_ ?_ ?_⟩
  .have:=lr.ft.size;omega
  .have:=lr.q0;omega
  .omega
 .simp[Xd];omega
 .simp
 .simp only[Array.toList_setIfInBounds,List.take_set,a5U,a5O,a6a,a6X,s8]
  exact a4G L _ _ _ a b c _ Xd
 .rw[a7l]
  exact dA.append _ _ lr.rd ⟨_,[],by simp,rx,rfl⟩
theorem U9:(Tryz.prog.info? 28).map (λ i=>(i.zero,i.size,i.bytes))=some (some (.agg #[.int .i64 0, .int .i64 0, .slice none 0 0]),3,40):=by kernel_rfl
theorem NM{w:World}{base e n g cap:Nat}{L:List Value}{c0 c1 c2:Value}(h:w.ownsRow base e 3 (.slice (some ⟨g,0,none⟩) (n+1) cap) (n+1) (L++[c0,c1,c2]))(hl:L.length=n * 3) :
  (w.cell? ⟨g,n * 3,none⟩=some c0/\w.cell? ⟨g,n * 3+1,none⟩=some c1/\w.cell? ⟨g,n * 3+2,none⟩=some c2)/\∃ cur,w.heap[g]?=some (.cells cur e (0,0))/\cur.size=cap * 3/\n+1<=cap/\cap<=maxLen/\base<=g/\cur.toList.take ((n+1) * 3)=L++[c0,c1,c2]:=by
 have hc:=h.cells (g:=g) rfl
 refine⟨⟨?_,?_,?_⟩,?_⟩
 .have:=hc (n * 3) c0 (by rw[a6V (by omega),hl];simp)
  simpa [Addr.add_lit] using this
 .have:=hc (n * 3+1) c1 (by rw[a6V (by omega),hl];simp)
  simpa [Addr.add_lit] using this
 .have:=hc (n * 3+2) c2 (by rw[a6V (by omega),hl];simp)
  simpa [Addr.add_lit] using this
 .rcases h.2 with ⟨e,_⟩|⟨g',Rv,cur,e,h1,h2,h3,h4,h5,h6⟩
  .cases e
  .cases e
   exact⟨cur,h2,h5,h3,h4,h1,h6⟩
theorem RT{w:World}{g e j:Nat}{cur:Array Value}(h:w.heap[g]?=some (.cells cur e (0,0))):w.frozen? ⟨g,j,none⟩=false:=by simp[World.frozen?,h]
set_option maxRecDepth 100000 in
theorem a4L(w0:World)(S:Nat->Prop)(hS:oE w0 S)(x:O)(hg:aL x=true)(n1:¬ x.ah=1)(n6:¬ x.ah=6)(b o q:Nat)(cs:List Value)(v:Value)(ys:List O)(L:List Value)(w:World)(hl:Dk w0 S q w v ys L)
  (hb:b<w0.heap.size) (hc:bP w0 b o cs) (hr:Rd w0 S x.aK cs) (hn:ys.length<=8000):OK w0 S x b o q v ys w:=by
 obtain⟨a,cap,rfl,_⟩:=yN hr
 have BU:b<w.heap.size:=a5Q hb hl.ft.size
 have d0:w.cell? ⟨b,o,none⟩=some (.int .i64 x.ah):=xY hl.ft hc hb 0 _ rfl
 obtain⟨g,EJ,cur,rfl,hg0,hgq,BZ,hgc,ZA,hgt⟩:=hl.form
 have hv:=Nq hl
 have kb1:(x.ah == 1)=false:=by simpa using n1
 have kb6:(x.ah == 6)=false:=by simpa using n6
 go_enter Tryz.func94,Tryz.ntmps94
 go_wp2
 go_loopw [4] (λ i wr=>∃ k:Nat,i = .int .i64 k/\k<=ys.length/\bX (λ _=>False) w wr/\∀ j y,j<k->ys[j]?=some y->fN y x=false) (λ i wr=>ys.length - kN i)
 .exact⟨0,rfl,a6N _,bX.refl _ w,λ j y h=>absurd h (a6D _)⟩
 obtain⟨k,rfl,hk,mY,dU⟩:=hrel
 have lr:=hl.aM mY
 have M9:=Nq lr
 have Zt:b<wr.heap.size:=a5Q BU mY.size
 have a0I:wr.heap[g]?=some (.cells cur 28 (0,0)):=(mY.block g (cH BZ) id).trans BZ
 by_cases bF:k<ys.length
 .obtain⟨y,hy⟩:∃ y,ys[k]?=some y:=⟨_,a5V bF⟩
  obtain⟨e0,e1,e2,ce,re⟩:=H4 a0I hgt hl.rd k y hy
  go_wp2_with (go_at_call 33;refine (Ux hS lr.ft y x g (k * 3) b o _ _ (cH a0I) ce re Zt (xY lr.ft hc hb) hr).mono ?_)
  rintro e w1 ⟨he,h1⟩;subst he
  go_wp2
  .rename_i he
   (try simp only[Exit.inBlock,Exit.then])
   refine a9o (a9p rfl _ _ _) rfl ?_
   have ha:ys.any (λ z=>fN z x)=true:=List.any_eq_true.2 ⟨y,a6F hy,he⟩
   rw[a1b x ys n1 n6 ha]
   exact⟨rfl,_,L,lr.aM h1,Bv.same (mY.trans h1 λ _ _ h=>h)⟩
  .rename_i he
   refine⟨⟨k+1,by first|rfl|simp,bF,mY.trans h1 λ _ _ h=>h,λ j z hj hz=>?_⟩,?_⟩
   .rcases a6w j k with q|q
    .exact dU j z q hz
    .have:j=k:=by omega
     subst this
     rw[hy] at hz
     cases hz
     simpa using he
   .simp only[kN];omega
 .have ha:ys.any (λ z=>fN z x)=false:=by
   rw[a7i]
   intro z hz
   obtain⟨j,hj,e⟩:=a7p hz
   have:=dU j z (by omega) (by rw[a5V hj,e])
   rw[this];decide
  have hek:k=ys.length:=by omega
  subst hek
  clear dU bF hk
  have cb:=xY lr.ft hc hb
  have r0:wr.cell? ⟨b,o,none⟩=some (.int .i64 x.ah):=cb 0 _ rfl
  have r1:wr.cell? ⟨b,o+1,none⟩=some (.int .i64 x.bc):=cb 1 _ rfl
  have r2:wr.cell? ⟨b,o+2,none⟩=some (.slice a x.V.length cap):=cb 2 _ rfl
  have r3:wr.cell? ⟨q,0,none⟩=some (.slice (some ⟨g,0,none⟩) ys.length EJ):=by simp[World.cell?,lr.var]
  have gq:g≠q:=hgq
  obtain⟨i0,R8,Si,Sj,Sk⟩:=info_parts U9
  have hlq:=lr.lt
  have eM:=lr.own
  have Xd:L.length=ys.length * 3:=eM.1
  have bi0:(0:Int)<=(ys.length:Int):=by omega
  have bi1:(ys.length:Int)<(ys.length:Int)+1:=by omega
  have bi2:(ys.length:Int)<((ys.length+1:Nat):Int):=by omega
  have bq:b≠q:=by have:=lr.q0;omega
  have qb:q≠b:=a9Q bq
  have bg:b≠g:=by omega
  have aq:some q≠(Value.slice (some ⟨g,0,none⟩) ys.length EJ).ownBlock:=λ e=>hgq (by simpa [Value.ownBlock] using e.symm)
  have ab:some b≠(Value.slice (some ⟨g,0,none⟩) ys.length EJ).ownBlock:=λ e=>by
   have:b=g:=by simpa [Value.ownBlock] using e
   omega
  go_wp2_with fail
  go_region_law
   ((
    refine step_append_lies _ (by rfl) _ _ _ (by rfl) w0.heap.size 28 i0 _ 3 40 Tryz.underlying26 R8 Si Sj Sk rfl (by omega) _ ys.length L (by rfl) ((eM.alloc _).drew)
      ⟨wr.heap.size,0,none⟩ 1 1 [.int .i64 0, .int .i64 0, .slice none 0 0] (by rfl) (by rfl) (a9K (cs := #[.int .i64 0, .int .i64 0, .slice none 0 0]) (t:=28) (fr:=(0,0)) (a7f wr _)) (by simp[Value.oneCell'])
      (by omega) (by simp[maxLen];omega) (by omega) (by simp;have:=lr.ft.size;omega) (wr.heap.size+1) (by simp) ?_;intro gg G7 w2 XH eL Qc a0K
    have Zh:gg≠q:=by
     rcases Qc with e|e
     .exact λ h=>aq (by rw[<-h,e])
     .omega
    have gb2:gg≠b:=by
     rcases Qc with e|e
     .exact λ h=>ab (by rw[<-h,e])
     .omega
    obtain⟨⟨s0,s1,s2⟩,cur3,s3,s4,s5,s6,s7,s8⟩:=NM XH Xd
    have z0:=RT (j:=ys.length * 3) s3
    have z1:=RT (j:=ys.length * 3+1) s3
    have z2:=RT (j:=ys.length * 3+2) s3
    have vh:w2.heap[q]?=some (.cells #[.slice (some ⟨g,0,none⟩) ys.length EJ] 26 (0,0)):=(eL.block q (by simp;omega) aq).trans ((show _=wr.heap[q]? from a7F wr _ q hlq).trans lr.var)
    have fq2:=RT (j:=0) vh
    have vq:w2.cell? ⟨q,0,none⟩=some (.slice (some ⟨g,0,none⟩) ys.length EJ):=by simp[World.cell?,vh]))
  all_goals
   (try simp only[Exit.inBlock,Exit.then])
   refine bodyPost_end (a9p rfl _ _ _) rfl ?_
   rw[a1a x ys n1 n6 ha]
   obtain⟨⟨s0,s1,s2⟩,cur3,s3,s4,s5,s6,s7,s8⟩:=NM XH Xd
   have vh:w2.heap[q]?=some (.cells #[.slice (some ⟨g,0,none⟩) ys.length EJ] 26 (0,0)):=(eL.block q (by simp;omega) aq).trans ((show _=wr.heap[q]? from a7F wr _ q hlq).trans lr.var)
   have gq3:q≠gg:=a9Q Zh
   refine⟨rfl,_,_,YH (cur3:=cur3) lr mY hl.lt (cH BZ) ⟨eL.os,eL.tape,eL.output,eL.size,eL.block⟩ Qc a0K Zh s3 s4 s5 s6 s7 s8 hr rfl rfl rfl (by simp) (λ k e1 e2=>?_) ?_ ?_⟩
   .repeat rw[a7t _ _ _ _ (by assumption)]
   .first
     | (rw[a7c _ _ _ _ _ _ (by (repeat rw[a7t _ _ _ _ (by assumption)]);exact vh)];rfl)
     | (
       repeat rw[a7t _ _ _ _ (by assumption)]
       rw[a7c _ _ _ _ _ _ vh];rfl)
   .first
     | (
       rw[a7t _ _ _ _ (by assumption)]
       exact a7c _ _ _ _ _ _ (a7c _ _ _ _ _ _ (a7c _ _ _ _ _ _ s3)))
     | exact a7c _ _ _ _ _ _ (a7c _ _ _ _ _ _ (a7c _ _ _ _ _ _ ((a7t _ _ _ _ (by assumption)).trans s3)))
theorem Dh(w0:World)(S:Nat->Prop)(hS:oE w0 S):∀ (N:Nat) (x:O),cv x<N->aL x=true->∀ (b o q:Nat) (cs:List Value) (v:Value) (ys:List O) (L:List Value) (w:World),Dk w0 S q w v ys L->b<w0.heap.size->bP w0 b o cs->Rd w0 S x.aK cs ->
  I7 ys->j9 ys+ar x<=8000->OK w0 S x b o q v ys w
 | 0,x,h,_=>by omega
 | N+1,x,hN,hg=>by
  intro b o q cs v ys L w hl hb hc hr hgl hn
  by_cases h1:x.ah=1
  .obtain⟨a,cap,rfl,_⟩:=yN hr
   exact a4J w0 S x h1 b o q v ys L w hl (by rw[<-h1];exact xY hl.ft hc hb 0 _ rfl)
  by_cases h6:x.ah=6
  .have b2:=gM x hg (.inl h6)
   obtain⟨a,cap,rfl,hk⟩:=yN hr
   obtain⟨kb,ko,rfl,Zn,jH⟩:∃ kb ko,a=some ⟨kb,ko,none⟩/\S kb/\dr w0 S (x.V.map O.aK) kb ko:=by
    rcases hk with hk|hk
    .have:=b2.len;rw[hk] at this;cases this
    .obtain⟨kb,ko,e1,e2,e3⟩:=hk;exact⟨kb,ko,e1,e2,e3⟩
   obtain⟨c0,c1,c2,r0,q0⟩:=QN jH 0 (by have:=b2.len;omega)
   obtain⟨d0,d1,d2,r1,q1⟩:=QN jH 1 (by have:=b2.len;omega)
   have a3Y:∀ w',(∃ v',Bv q v v' w w')->Below w0.heap.size w0 w':=λ w' ⟨v',f⟩=>hl.ft.trans (f.below hl.ft.size hl.q0 λ k hk=>(hl.own.lt k hk).1)
   obtain⟨g1,t1⟩:=F7 _ (x.V.getD 0 zE) (a6c _) b2.g0 ys hgl
   have nd:=b2.nd
   refine a4K w0 S x h6 b2 b o q kb ko cap v ys w (by rw[<-h6];exact xY hl.ft hc hb 0 _ rfl) (λ w' Ua=>by have:=xY (a3Y w' Ua) hc hb 2 _ rfl;rw[b2.len] at this;exact this)
    (Dh w0 S hS N _ (by have:=b2.l0;omega) b2.g0 kb ko q _ v ys L w hl (hS.1 kb Zn) (by simpa using q0) r0 hgl (by omega)) λ w' v' L' l' f' =>
    Dh w0 S hS N _ (by have:=b2.l1;omega) b2.g1 kb (ko+3) q _ v' _ L' w' l' (hS.1 kb Zn) (by simpa using q1) r1 g1 (by omega)
  .exact a4L w0 S hS x hg h1 h6 b o q cs v ys L w hl hb hc hr (by have:j9 ys=cW ar ys+ys.length:=rfl;omega)
theorem UB{w0 w:World}{S:Nat->Prop}(hS:oE w0 S)(hb:Below w0.heap.size w0 w)(x:O)(hg:aL x=true)(hl:(bA x).length<=1000000)(b o:Nat)(cx:List Value)(h1:b<w.heap.size)(h2:bP w b o cx)(rx:Rd w0 S x.aK cx) :
  Calls prog mi #[.pointer (some ⟨b,o,none⟩)] w λ e w'=>e = .returned (.string ⟨(bA x).toArray⟩)/\bX (λ _=>False) w w':=by
 refine (u7.2 x ⟨hg,hl⟩ w _ [_] (Yv hS hb) ⟨⟨b,o,cx,rfl,h1,h2,Yn hS hb rx⟩,trivial⟩).mono ?_
 rintro e w' ⟨v,S',res,rfl,rfl,iR,_,_,hr⟩
 obtain⟨s,hs,sT,_⟩:=(show ∃ s:ByteArray,[v]=[.string s]/\s.data.toList=bA x/\s.size<=140737488355328 from hr)
 simp only[a5L,a5R] at hs
 subst hs
 refine⟨?_,iR⟩
 rw[<-sT]
def strs(ys:List O):List Value:=ys.map λ y => .string ⟨(bA y).toArray⟩
theorem Wt(ys:List O)(k:Nat)(y:O)(h:ys[k]?=some y):(strs ys)[k]?=some (.string ⟨(bA y).toArray⟩):=by simp[strs,h]
theorem SW(xs:List O)(k:Nat)(h:k<=xs.length):(Q1 xs k).length=k:=by
 have:=(Q2 (xs.take k) []).2.2
 unfold Q1 F9
 rw[this,a6R,a6a];omega
theorem BQ{w w':World}(h:Below w.heap.size w w'):w.grownBy w' none:=⟨h.os,h.tape,h.output,h.size,λ k h1 _=>h.block k h1⟩
theorem KI{w:World}{B e sz g n c k:Nat}{xs:List Value}(h:w.ownsRow B e sz (.slice (some ⟨g,0,none⟩) n c) n xs)(hk:k<=n):w.ownsRow B e sz (.slice (some ⟨g,0,none⟩) k c) k (xs.take (k * sz)):=by
 obtain⟨h1,h2⟩:=h
 have hm:=a7A sz hk
 refine⟨by rw[a6R];omega,?_⟩
 rcases h2 with ⟨q,_⟩|⟨g',c',cur,q,q1,q2,q3,q4,q5,q6⟩
 .cases q
 .cases q
  exact .inr ⟨g,c,cur,rfl,q1,q2,by omega,q4,q5,by rw[<-q6,List.take_take,a9s hm]⟩
structure SrR(w0:World)(S:Nat->Prop)(B:Nat)(w wr:World)(ys:List O)(gt ct go co:Nat)(Lo:List Value):Prop where
 ft:Below B w wr
 t:wr.ownsRow B 9 1 (.slice (some ⟨gt,0,none⟩) ys.length ct) ys.length (strs ys)
 o:wr.ownsRow B 28 3 (.slice (some ⟨go,0,none⟩) ys.length co) ys.length Lo
 rd:dA w0 S (ys.map O.aK) Lo
 ne:gt≠go
theorem a2m:(Tryz.prog.info? 9).map (λ i=>(i.zero,i.size,i.bytes))=some (some (.string ⟨#[]⟩),1,16):=by kernel_rfl
theorem NP{w:World}{S:Nat->Prop}:∀ (ds es:List D) {l:List Value},dA w S (ds++es) l->∃ l1 l2,l=l1++l2/\dA w S ds l1/\dA w S es l2
 | [],es,l,h=>⟨[],l,rfl,rfl,h⟩
 | d::ds,es,l,h=>by
  obtain⟨c,r,rfl,h1,h2⟩:=h
  obtain⟨l1,l2,rfl,h3,h4⟩:=NP ds es h2
  exact⟨c++l1,l2,by simp,⟨c,l1,rfl,h1,h3⟩,h4⟩
theorem Yo{w0:World}{S:Nat->Prop}{ys:List O}{Lo:List Value}{x:O}{c0 c1 c2:Value}{k:Nat}(h:dA w0 S (ys.map O.aK) Lo)(hx:Rd w0 S x.aK [c0,c1,c2])(hk:k<=ys.length) :
  dA w0 S ((ys.take k++x::ys.drop k).map O.aK) (Lo.take (k * 3)++[c0,c1,c2]++Lo.drop (k * 3)):=by
 have e:ys.map O.aK=(ys.take k).map O.aK++(ys.drop k).map O.aK:=by rw[<-a7l,a7b]
 rw[e] at h
 obtain⟨l1,l2,rfl,h1,h2⟩:=NP _ _ h
 have hl:=dA.length (n:=3) _ h1 (MA _)
 rw[a6B,a6R,a9s hk] at hl
 rw[List.take_left' hl,List.drop_left' hl,a7l,a6n,a6u]
 exact dA.append _ _ h1 ⟨[c0,c1,c2],l2,rfl,hx,h2⟩
theorem AS{P:Program}{w:World}{ops:Array Oper}{o:Oper}{a:Act}{K:Act->World->Prop}{Q:Exit->Act->World->Prop}{E:Prop}(hgd:o.guard=none)(s x:Operand)(t:TypeId)
  (ho:o.op = .call { callee := .builtin .append,args := #[s,x],argTypes := #[t,t] })
  (base:Nat) (e:TypeId) (i:TypeInfo) (z:Value) (size bytes:Nat) (ht:P.underlying t=some (.slice e)) (hi:P.info? e=some i) (hz:i.zero=some z)
  (B5:i.size=size) (hby:i.bytes=bytes) (Qs:z.cells.size=size) (cz:0<size)
  (v:Value) (n:Nat) (xs:List Value) (hs:a.eval s=v) (eM:w.ownsRow base e size v n xs)
  (ad:Addr) (m c:Nat) (news:List Value) (hx:a.eval x = .slice (some ad) m c) (hl:news.length=m * size) (FC:∀ j u,news[j]?=some u->w.cell? (ad.add j)=some u) (h1:∀ u∈news,u.oneCell'=true)
  (h63:n+m<=maxLen) (Zu:(n+m) * bytes<=140737488355328) (Qe:base<=w.heap.size)
  (h:∀ v' w',w'.ownsRow base e size v' (n+m) (xs++news)->w.grownBy w' v.ownBlock->(v'.ownBlock=v.ownBlock\/v'.ownBlock=some w.heap.size)->K (a.put o.dst v') w') :
  if Region.wanted o (yielded ops a.tmps)=true then Oper.wp P o a w K Q else E:=by
 have hw:Region.wanted o (yielded ops a.tmps)=true:=by simp[Region.wanted,hgd]
 rw[a5T hw]
 obtain⟨v',w',hr,h2,h3,h4,h5⟩:=a9f (P:=P) w base t o.type e i z size bytes ht hi hz B5 hby Qs cz v n xs eM ad m c news hl FC h1 h63 Zu Qe
 unfold Oper.wp execOp
 simp only[ho,resolve,invoke,builtin,a6d,a6e,a5S,List.map_toArray,a6n,a7C,hs,hx,hr]
 exact h v' w' h2 h3 h5
set_option maxRecDepth 100000 in
theorem QY(
           w0:World) (S:Nat->Prop) (hS:oE w0 S) (xs:List O) (hx:I7 xs) (hn:j9 xs<=9000) (w:World) (hb:Below w0.heap.size w0 w) (g cap:Nat) (hgw:g<w.heap.size)
  (hc:∀ k y,xs[k]?=some y->∃ c0 c1 c2,bP w g (k * 3) [c0,c1,c2]/\Rd w0 S y.aK [c0,c1,c2]) :
  Calls prog 95 #[.slice (some ⟨g,0,none⟩) xs.length cap] w λ e w'=>∃ g' c' L',e = .returned (.slice (some ⟨g',0,none⟩) xs.length c')/\w'.ownsRow w.heap.size 28 3 (.slice (some ⟨g',0,none⟩) xs.length c') xs.length L'/\dA w0 S ((F9 xs).map O.aK) L'/\Below w.heap.size w w':=by
 have hlen:xs.length<=9000:=by have:j9 xs=cW ar xs+xs.length:=rfl;omega
 have B0:Below w.heap.size w ((w.alloc (.cells #[] 9)).alloc (.cells #[] 28)):=((a7J _ w).alloc (a6b _) _).alloc (by simp) _
 have T0:((w.alloc (.cells #[] 9)).alloc (.cells #[] 28)).ownsRow w.heap.size 9 1 (.slice (some ⟨w.heap.size,0,none⟩) 0 0) 0 []:=(a7G w #[] 0 (a6b _) (a6N _) (by simp)).alloc _
 have O0:((w.alloc (.cells #[] 9)).alloc (.cells #[] 28)).ownsRow w.heap.size 28 3 (.slice (some ⟨w.heap.size+1,0,none⟩) 0 0) 0 []:=by
  have:=a7G (base:=w.heap.size) (e:=28) (size:=3) (w.alloc (.cells #[] 9)) #[] 0 (by simp) (a6N _) (by simp)
  simpa using this
 go_enter Tryz.func95,Tryz.ntmps95
 go_wp2
 go_loopw [3,4,5] (λ vt vo i wr=>∃ (k gt ct go co:Nat) (Lo:List Value),i = .int .i64 k/\k<=xs.length/\vt = .slice (some ⟨gt,0,none⟩) k ct/\vo = .slice (some ⟨go,0,none⟩) k co/\SrR w0 S w.heap.size w wr (Q1 xs k) gt ct go co Lo) (λ vt vo i wr=>xs.length - kN i)
 .exact⟨0,_,_,_,_,[],rfl,a6N _,rfl,rfl,⟨B0,T0,O0,rfl,by simp⟩⟩
 obtain⟨i,gt,ct,go,co,Lo,rfl,hi,rfl,rfl,hR⟩:=hrel
 clear B0 T0 O0
 by_cases bF:i<xs.length
 .obtain⟨x,Jf⟩:∃ x,xs[i]?=some x:=⟨_,a5V bF⟩
  have hgx:aL x=true:=hx x (a6F Jf)
  obtain⟨c0,c1,c2,hcx,hrx⟩:=hc i x Jf
  have Hz:=SW xs i hi
  have Ov:ar x<=9000:=by
   have:ar x<=cW ar xs:=by
    obtain⟨a,b,rfl⟩:=a9P (a6F Jf)
    rw[Ie];simp[cW];omega
   have:j9 xs=cW ar xs+xs.length:=rfl
   omega
  have Zt:Below w0.heap.size w0 wr:=hb.trans (hR.ft.mono hb.size)
  have BZ:g<wr.heap.size:=a5Q hgw hR.ft.size
  have MU:bP wr g (i * 3) [c0,c1,c2]:=hcx.aM (hR.ft.block g hgw)
  have a4u:=Wq xs i x Jf
  generalize hY:Q1 xs i=ys at *
  go_wp2_with (go_at_call 31;refine (UB hS Zt x hgx (a2P x hgx Ov) g (i * 3) _ BZ MU hrx).mono ?_)
  rintro e w1 ⟨he,ux⟩;subst he
  have b1:Below w.heap.size w w1:=hR.ft.trans (xQ ux hR.ft.size)
  have gk:wr.grownBy w1 none:=⟨ux.os,ux.tape,ux.output,ux.size,λ k h1 _=>ux.block k h1 id⟩
  have t1:=hR.t.kept gk (.inr (by simp[Value.ownBlock]))
  have o1:=hR.o.kept gk (.inr (by simp[Value.ownBlock]))
  have Na:bP w1 g (i * 3) [c0,c1,c2]:=MU.aM (ux.block g BZ id)
  have dU:=hR.ne
  have oL:=hR.rd
  rw[Hz] at t1 o1
  clear hR ux gk MU BZ Zt
  have tc:=t1.cells (g:=gt) rfl
  obtain⟨i9,h9,Zi,Zj,Zk⟩:=info_parts a2m
  obtain⟨i0,R8,Si,Sj,Sk⟩:=info_parts U9
  have kt:i<=ct:=by
   rcases t1.2 with ⟨e,_⟩|⟨_,_,_,e,_,_,e1,_⟩
   .cases e
   .cases e;exact e1
  have ko:i<=co:=by
   rcases o1.2 with ⟨e,_⟩|⟨_,_,_,e,_,_,e1,_⟩
   .cases e
   .cases e;exact e1
  have oc:=o1.cells (g:=go) rfl
  have hLo:Lo.length=i * 3:=o1.1
  have cp:(strs ys).length=i:=by rw[strs,a6B,Hz]
  have hB1:=b1.size
  go_upto_block 2 with fail
  go_cut [7] (λ s7 wx=>wx=w1/\∃ k:Nat,s7 = .int .i64 k/\k<=i/\mU x ys=ys.take k++x::ys.drop k)
  case first =>
   go_wp2
   go_loopw [7] (λ a wr'=>wr'=w1/\∃ k:Nat,a = .int .i64 k/\k<=i/\∀ j y,j<k->ys[j]?=some y->V8 y x=true) (λ a wr'=>i - kN a)
   .exact⟨rfl,0,rfl,a6N _,λ j y h=>absurd h (a6D _)⟩
   obtain⟨rfl,k,rfl,hk,Xz⟩:=hrel
   by_cases FB:k<i
   .obtain⟨y,hy⟩:∃ y,ys[k]?=some y:=⟨_,a5V (by omega)⟩
    have ck:wr.cell? ⟨gt,k,none⟩=some (.string ⟨(bA y).toArray⟩):=by
     have:=tc k _ (Wt ys k y hy)
     simpa [Addr.add_lit] using this
    have Kw:Op.bytesLess (bA y) (bA x)=V8 y x:=rfl
    cases hL:V8 y x
    .rw[hL] at Kw
     go_wp2
     go_meet
     refine⟨rfl,k,rfl,hk,Nd x ys k (by omega) Xz λ z hz=>?_⟩
     rw[hy] at hz;cases hz;exact hL
    .rw[hL] at Kw
     go_wp2
     refine⟨⟨trivial,k+1,by simp,by omega,λ j z hj hz=>?_⟩,?_⟩
     .rcases a6w j k with q|q
      .exact Xz j z q hz
      .have:j=k:=by omega
       subst this
       rw[hy] at hz;cases hz;exact hL
     .simp only[kN];omega
   .go_wp2
    go_meet
    refine⟨rfl,k,rfl,hk,Nd x ys k (by omega) Xz λ z hz=>?_⟩
    have:=(a5W.1 hz).1
    omega
  case rest =>
   obtain⟨rfl,k,rfl,hk,Xu⟩:=hcut
   obtain⟨w1,rfl⟩:∃ w1,w1=wc:=⟨_,rfl⟩
   have b1:Below w.heap.size w w1:=by assumption
   go_upto_region 10 with fail
   go_cut [8] (λ s8 wx=>∃ g8 c8,s8 = .slice (some ⟨g8,0,none⟩) (i - k) c8/\wx.ownsRow w1.heap.size 9 1 (.slice (some ⟨g8,0,none⟩) (i - k) c8) (i - k) ((strs ys).drop k)/\Below w1.heap.size w1 wx)
   case first =>
    have hd:((strs ys).drop k).length=(i - k) * 1:=by rw[a6S,cp,a9t]
    have vg:∀ u∈(strs ys).drop k,u.oneCell'=true:=λ u hu=>by
     obtain⟨y,_,rfl⟩:=a5K.1 (a8y hu)
     rfl
    by_cases hck:ct=k
    .subst hck
     go_wp2_with (at_builtin;refine a8H _ rfl _ _ 56 rfl w1.heap.size 9 i9 _ 1 16 Tryz.underlying56 h9 Zi Zj Zk rfl (by decide) _ _ _ rfl (a7G w1 #[] 0 (a6b _) (a6N _) (by simp)) ⟨gt,0,none⟩ 0 0 [] rfl rfl (λ j u hj=>by simp at hj) (λ u hu=>by simp at hu) (by simp[maxLen]) (by omega) (by simp) ?_)
     intro v' w2 eM eL nm
     go_wp2
     go_meet
     try simp only[a6X,a6C] at eM
     have e1:i - ct=0:=by omega
     have e2:(strs ys).drop ct=[]:=a7v (by omega)
     rw[e1,e2]
     rcases eM.2 with ⟨e,_⟩|⟨g8,c8,a3x,e,q1,q2,q3,q4,q5,q6⟩
     .exact absurd e nm
     .subst e
      exact⟨g8,c8,rfl,eM,((a7J _ w1).alloc (a6b _) _).grown eL (by simp) (by intro k hk;simp[Value.ownBlock] at hk;omega)⟩
    .go_wp2_with (at_builtin;refine a8H _ rfl _ _ 56 rfl w1.heap.size 9 i9 _ 1 16 Tryz.underlying56 h9 Zi Zj Zk rfl (by decide) _ _ _ rfl (a7G w1 #[] 0 (a6b _) (a6N _) (by simp)) ⟨gt,k,none⟩ (i - k) (ct - k) ((strs ys).drop k) rfl hd ?qb vg (by simp[maxLen];omega) (by omega) (by simp) ?_)
     case qb =>
      intro j u hj
      rw[a7y] at hj
      have:=tc _ _ hj
      rw[a7j]
      rw[a7j] at this
      simpa using Lib.cell?_alloc_some _ this
     .intro v' w2 eM eL nm
      go_wp2
      go_meet
      try simp only[a6X,a6C] at eM
      rcases eM.2 with ⟨e,_⟩|⟨g8,c8,a3x,e,q1,q2,q3,q4,q5,q6⟩
      .exact absurd e nm
      .subst e
       exact⟨g8,c8,rfl,eM,((a7J _ w1).alloc (a6b _) _).grown eL (by simp) (by intro k hk;simp[Value.ownBlock] at hk;omega)⟩
   case rest =>
    obtain⟨g8,c8,hs8,a0T,Km⟩:=hcut
    have A8:Aside (_=Value.slice (some ⟨g8,0,none⟩) (i - k) c8):=hs8
    clear hs8
    obtain⟨w2,rfl⟩:∃ w2,w2=wc:=⟨_,rfl⟩
    have t2:=t1.kept (BQ Km) (.inr (by simp[Value.ownBlock]))
    have o2:=o1.kept (BQ Km) (.inr (by simp[Value.ownBlock]))
    have hx2:bP w2 g (i * 3) [c0,c1,c2]:=Na.aM (Km.block g (by omega))
    have n8:=(a0T.lt g8 rfl)
    have oc:=o2.cells (g:=go) rfl
    go_upto_region 11 with fail
    go_cut [9] (λ s9 wx=>∃ g9 c9,s9 = .slice (some ⟨g9,0,none⟩) (i - k) c9/\wx.ownsRow w2.heap.size 28 3 (.slice (some ⟨g9,0,none⟩) (i - k) c9) (i - k) (Lo.drop (k * 3))/\Below w2.heap.size w2 wx)
    case first =>
     have hd:(Lo.drop (k * 3)).length=(i - k) * 3:=by rw[a6S,hLo,Nat.sub_mul]
     have vg:∀ u∈Lo.drop (k * 3),u.oneCell'=true:=λ u hu=>dA.mz (τ := .st .expr) oL u (a8y hu)
     by_cases hck:co=k
     .subst hck
      go_wp2_with (at_builtin;refine a8H _ rfl _ _ 26 rfl w2.heap.size 28 i0 _ 3 40 Tryz.underlying26 R8 Si Sj Sk rfl (by decide) _ _ _ rfl (a7G w2 #[] 0 (a6b _) (a6N _) (by simp)) ⟨go,0,none⟩ 0 0 [] rfl rfl (λ j u hj=>by simp at hj) (λ u hu=>by simp at hu) (by simp[maxLen]) (by omega) (by simp) ?_)
      intro v' w3 eM eL nm
      go_wp2
      go_meet
      try simp only[a6X,a6C] at eM
      have e1:i - co=0:=by omega
      have e2:Lo.drop (co * 3)=[]:=a7v (by omega)
      rw[e1,e2]
      rcases eM.2 with ⟨e,_⟩|⟨g9,c9,a3y,e,q1,q2,q3,q4,q5,q6⟩
      .exact absurd e nm
      .subst e
       exact⟨g9,c9,rfl,eM,((a7J _ w2).alloc (a6b _) _).grown eL (by simp) (by intro k hk;simp[Value.ownBlock] at hk;omega)⟩
     .go_wp2_with (at_builtin;refine a8H _ rfl _ _ 26 rfl w2.heap.size 28 i0 _ 3 40 Tryz.underlying26 R8 Si Sj Sk rfl (by decide) _ _ _ rfl (a7G w2 #[] 0 (a6b _) (a6N _) (by simp)) ⟨go,k * 3,none⟩ (i - k) (co - k) (Lo.drop (k * 3)) rfl hd ?qb vg (by simp[maxLen];omega) (by omega) (by simp) ?_)
      case qb =>
       intro j u hj
       rw[a7y] at hj
       have:=oc _ _ hj
       rw[a7j]
       rw[a7j] at this
       simpa using Lib.cell?_alloc_some _ this
      .intro v' w3 eM eL nm
       go_wp2
       go_meet
       try simp only[a6X,a6C] at eM
       rcases eM.2 with ⟨e,_⟩|⟨g9,c9,a3y,e,q1,q2,q3,q4,q5,q6⟩
       .exact absurd e nm
       .subst e
        exact⟨g9,c9,rfl,eM,((a7J _ w2).alloc (a6b _) _).grown eL (by simp) (by intro k hk;simp[Value.ownBlock] at hk;omega)⟩
    case rest =>
     obtain⟨g9,c9,hs9,a0U,Mi⟩:=hcut
     have A9:Aside (_=Value.slice (some ⟨g9,0,none⟩) (i - k) c9):=hs9
     clear hs9
     obtain⟨w3,rfl⟩:∃ w3,w3=wc:=⟨_,rfl⟩
     have t3:=t2.kept (BQ Mi) (.inr (by simp[Value.ownBlock]))
     have o3:=o2.kept (BQ Mi) (.inr (by simp[Value.ownBlock]))
     have Yb:=a0T.kept (BQ Mi) (.inr (by simp[Value.ownBlock]))
     have hx3:bP w3 g (i * 3) [c0,c1,c2]:=hx2.aM (Mi.block g (by have:=Km.size;omega))
     have n9:=(a0U.lt g9 rfl)
     obtain rfl:=A8.out
     obtain rfl:=A9.out
     clear A8 A9
     have s2:=Km.size
     have s3:=Mi.size
     have q8:=Yb.cells (g:=g8) rfl
     have h8:g8<w3.heap.size:=by omega
     have ng8:g8≠gt:=by
      have:=(t1.lt gt rfl).2
      omega
     have E12:Aside ((strs ys).take k ++ .string ⟨(bA x).toArray⟩::(strs ys).drop k=strs (mU x ys)):=show _=_ by
      rw[Xu];simp[strs,List.map_take,List.map_drop]
     have a0j:Aside (mU x ys=ys.take k++x::ys.drop k):=Xu
     clear Xu
     go_upto_region 12 with fail
     go_cut [3] (λ s3 wx=>∃ g3 c3,s3 = .slice (some ⟨g3,0,none⟩) (i+1) c3/\wx.ownsRow w.heap.size 9 1 (.slice (some ⟨g3,0,none⟩) (i+1) c3) (i+1) (strs (mU x ys))/\w3.grownBy wx (some gt)/\(g3=gt\/w3.heap.size<=g3))
     case first =>
      have pt:=(KI t3 hk).alloc (.cells #[.string ⟨(bA x).toArray⟩] 9)
      go_wp2_with (at_builtin;refine a9E _ rfl _ _ 56 rfl w.heap.size 9 i9 _ 1 16 Tryz.underlying56 h9 Zi Zj Zk rfl (by decide) _ k _ rfl pt ⟨w3.heap.size,0,none⟩ 1 1 [.string ⟨(bA x).toArray⟩] rfl rfl (cell_one_new _ _ _) (by simp[Value.oneCell']) (by simp[maxLen];omega) (by omega) (by simp;omega) ?_)
      intro v51 w4 a2h C5 a5h a3U
      have a2s:=(Yb.alloc (.cells #[.string ⟨(bA x).toArray⟩] 9)).kept C5 (.inr (by simp[Value.ownBlock];omega))
      have ZR:=C5.size
      go_wp2_with (at_builtin;refine a9E _ rfl _ _ 56 rfl w.heap.size 9 i9 _ 1 16 Tryz.underlying56 h9 Zi Zj Zk rfl (by decide) v51 (k+1) _ rfl a2h ⟨g8,0,none⟩ (i - k) c8 ((strs ys).drop k) rfl (by rw[a6S,cp,a9t]) (a2s.cells (g:=g8) rfl) (λ u hu=>?_) (by simp[maxLen];omega) (by omega) (by simp at ZR;omega) ?_)
      .obtain⟨y,_,rfl⟩:=a5K.1 (a8y hu)
       rfl
      .intro v53 w5 M1 Hq a5i a3V
       go_wp2
       go_meet
       have hi1:k+1+(i - k)=i+1:=by omega
       rw[hi1,E12.out] at M1
       rcases M1.2 with ⟨e,_⟩|⟨g3,c3,cur3,e,q1,q2,q3,q4,q5,q6⟩
       .have:=M1.1
        rw[e] at M1
        simp at *
       .subst e
        have a1:∀ j,v51.ownBlock=some j->j=gt\/j=w3.heap.size+1:=λ j hj=>by
         rcases a3U with h|h
         .rw[h] at hj;left;simpa [Value.ownBlock] using hj.symm
         .rw[h] at hj;right;simpa using hj.symm
        refine⟨g3,c3,rfl,M1,⟨Hq.os.trans C5.os,Hq.tape.trans C5.tape,Hq.output.trans C5.output,by have:=Hq.size;simp at ZR;omega,λ j h1 h2=>?_⟩,?_⟩
        .rw[Hq.block j (by simp at ZR;omega) λ e=>?_,C5.block j (by simp;omega) h2]
         .exact a7F _ _ _ h1
         .rcases a1 j e.symm with h|h
          .exact h2 (congrArg some h)
          .omega
        .rcases a3V with h|h
         .rcases a1 g3 (h.symm.trans rfl) with h|h
          .exact .inl h
          .exact .inr (by omega)
         .right
          have:g3=w4.heap.size:=by simpa [Value.ownBlock] using h
          simp at ZR;omega
     case rest =>
      obtain⟨g3,c3,rfl,t4,RW,hg3⟩:=hcut
      obtain⟨w4,rfl⟩:∃ w4,w4=wc:=⟨_,rfl⟩
      have ngo:go≠gt:=a9Q dU
      have o4:=o3.kept RW (.inr (by simp[Value.ownBlock];exact ngo))
      have ng9:g9≠gt:=by have:=(t1.lt gt rfl).2;omega
      have Yc:=a0U.kept RW (.inr (by simp[Value.ownBlock];exact ng9))
      have a4i:=(t1.lt gt rfl).1
      have hx4:bP w4 g (i * 3) [c0,c1,c2]:=hx3.aM (RW.block g (by omega) λ e=>by cases e;omega)
      have q9:=Yc.cells (g:=g9) rfl
      have E34:Aside ((ys.take k).map O.aK++x.aK::(ys.drop k).map O.aK=(mU x ys).map O.aK):=show _=_ by
       rw[a0j.out];simp
      have hgl:g<w4.heap.size:=by have:=RW.size;omega
      have r0:w4.cell? ⟨g,i * 3,none⟩=some c0:=hx4 0 _ rfl
      have r1:w4.cell? ⟨g,i * 3+1,none⟩=some c1:=hx4 1 _ rfl
      have r2:w4.cell? ⟨g,i * 3+2,none⟩=some c2:=hx4 2 _ rfl
      have bi0:(0:Int)<=(i:Int):=by omega
      have bi1:(i:Int)<(xs.length:Int):=by omega
      have bk0:(0:Int)<=(k:Int):=by omega
      have bk1:(k:Int)<=(co:Int):=by omega
      have a2f:∀ u∈[c0,c1,c2],u.oneCell'=true:=dA.mz (τ := .st .expr) (xs:=[x]) (S:=S) (w:=w0) ⟨[c0,c1,c2],[],rfl,hrx,rfl⟩
      have a2g:∀ u∈Lo.drop (k * 3),u.oneCell'=true:=λ u hu=>dA.mz (τ := .st .expr) oL u (a8y hu)
      go_wp2_with fail
      have Zf:some g≠some go:=λ e=>by cases e;have:=(o1.lt g rfl).1;omega
      have po:=((KI o4 hk).alloc (.cells #[c0,c1,c2] 28)).drew
      have a5D:g9≠go:=by have:=(o1.lt go rfl).2;have:=Km.size;omega
      go_region_held3 (λ w'=>w'.cell? ⟨g,i * 3,none⟩=some c0/\w'.cell? ⟨g,i * 3+1,none⟩=some c1/\w'.cell? ⟨g,i * 3+2,none⟩=some c2)
       (first
        | go_keep
        | (
          go_split_ands
          refine⟨?_,?_,?_⟩
          ·(rw[C6.cell_far _ (by simp at *;omega) gg6];assumption)
          ·(rw[C6.cell_far _ (by simp at *;omega) gg6];assumption)
          ·(rw[C6.cell_far _ (by simp at *;omega) gg6];assumption))
        | (
          go_split_ands
          refine⟨?_,?_,?_⟩
          ·(rw[ke.cell_far _ (by simp;omega) Zf];assumption)
          ·(rw[ke.cell_far _ (by simp;omega) Zf];assumption)
          ·(rw[ke.cell_far _ (by simp;omega) Zf];assumption)))
       ((first
         | (
           refine AS (by rfl) _ _ _ (by rfl) w.heap.size 28 i0 _ 3 40 Tryz.underlying26 R8 Si Sj Sk rfl (by omega) _ k _ (by rfl) po ⟨w4.heap.size,0,none⟩ 1 1 [c0,c1,c2] (by rfl) (by rfl) (a9K (cs := #[c0,c1,c2]) (t:=28) (fr:=(0,0)) (a7f w4 _)) a2f (by simp[maxLen];omega) (by omega) (by simp;have:=RW.size;omega) ?_
           intro YR w6 a2i ke Xm
           have a6:∀ j,YR.ownBlock=some j->j=go\/j=w4.heap.size+1:=λ j hj=>by
            rcases Xm with h|h
            .rw[h] at hj;left;simpa [Value.ownBlock] using hj.symm
            .rw[h] at hj;right;simpa using hj.symm
           have gg6:some g≠YR.ownBlock:=λ e=>by
            rcases a6 g e.symm with h|h
            .exact Zf (congrArg some h)
            .omega
           have hw6:w4.heap.size+1<=w6.heap.size:=by simpa using ke.size
           have a2t:w6.ownsRow w2.heap.size 28 3 (Value.slice (some ⟨g9,0,none⟩) (i - k) c9) (i - k) (Lo.drop (k * 3)):=((Yc.alloc (.cells #[c0,c1,c2] 28)).drew).kept ke (.inr (by simp[Value.ownBlock];omega))
           have q96:=a2t.cells (g:=g9) rfl)
         | (
           refine AS (by rfl) _ _ _ (by rfl) w.heap.size 28 i0 _ 3 40 Tryz.underlying26 R8 Si Sj Sk rfl (by omega) YR (k+1) _ (by rfl) a2i ⟨g9,0,none⟩ (i - k) c9 (Lo.drop (k * 3)) (by rfl) (by rw[a6S,hLo,Nat.sub_mul]) q96 a2g (by simp[maxLen];omega) (by omega) (by have:=RW.size;omega) ?_
           intro v64 w7 XI C6 a3W)))
      go_wp2
      have hz4:=RW.size
      have hz6:w4.heap.size+1<=w6.heap.size:=by simpa using ke.size
      have hz7:=C6.size
      have hc7:v64.ownBlock=some go\/v64.ownBlock=some (w4.heap.size+1)\/v64.ownBlock=some w6.heap.size:=by
       rcases a3W with h|h
       .rcases Xm with h'|h'
        .exact .inl (h.trans (h'.trans rfl))
        .exact .inr (.inl (h.trans (by simpa using h')))
       .exact .inr (.inr h)
      have hc6:YR.ownBlock=some go\/YR.ownBlock=some (w4.heap.size+1):=by
       rcases Xm with h'|h'
       .exact .inl (h'.trans rfl)
       .exact .inr (by simpa using h')
      have a5z:=o1.lt go rfl
      have a5y:=(t4.lt g3 rfl)
      have a3L:g3≠go:=by rcases hg3 with h|h<;>omega
      have hik:k+1+(i - k)=i+1:=by omega
      have XJ:w7.ownsRow w.heap.size 28 3 v64 (i+1) (Lo.take (k * 3)++[c0,c1,c2]++Lo.drop (k * 3)):=by
       rw[hik] at XI
       simpa using XI
      have u1:=b1.size
      have u2:=Km.size
      have u3:=Mi.size
      have u5:w.heap.size<=gt:=a4i
      have hB:Below w.heap.size w w7:=by
       have h1:Below w.heap.size w w4:=(b1.trans ((Km.mono hB1).trans (Mi.mono (by omega)))).grown RW (by omega) (by intro j e;cases e;omega)
       exact ((h1.alloc (by omega) _).grown ⟨ke.os,ke.tape,ke.output,ke.size,ke.block⟩ (by simp;omega) (λ j e=>by have e':go=j:=a6Z e;omega)).grown C6 (by omega) (by
        intro j e
        rcases hc6 with h|h
        .have:go=j:=a6Z (h.symm.trans e)
         omega
        .have:w4.heap.size+1=j:=a6Z (h.symm.trans e)
         omega)
      have t7:=((t4.alloc (.cells #[c0,c1,c2] 28)).kept ⟨ke.os,ke.tape,ke.output,ke.size,ke.block⟩ (.inr (by simp[Value.ownBlock];omega))).kept C6 (.inr (by
       intro e
       rcases hc6 with h|h
       .rw[h] at e;exact a3L (by simpa [Value.ownBlock] using e)
       .rw[h] at e
        have:g3=w4.heap.size+1:=by simpa [Value.ownBlock] using e
        omega))
      rcases XJ.2 with ⟨_,e⟩|⟨g10,c10,a5f,e,q1,q2,q3,q4,q5,q6⟩
      .omega
      .subst e
       have Xv:=a0j.out
       have il:(mU x ys).length=i+1:=by rw[Xv];simp;omega
       refine⟨⟨i+1,g3,c3,g10,c10,Lo.take (k * 3)++[c0,c1,c2]++Lo.drop (k * 3),by simp,by omega,by first|rfl|simp,by first|rfl|simp,?_⟩,?_⟩
       .rw[a4u]
        refine⟨hB,by rw[il];exact t7,by rw[il];exact XJ,?_,?_⟩
        .rw[Xv];exact Yo oL hrx (by omega)
        .rcases hc7 with h|h|h
         .have:g10=go:=by simpa [Value.ownBlock] using h
          omega
         .have:g10=w4.heap.size+1:=by simpa [Value.ownBlock] using h
          omega
         .have:g10=w6.heap.size:=by simpa [Value.ownBlock] using h
          omega
       .simp only[kN];omega
 .have oj:i=xs.length:=by omega
  subst oj
  have hl:=SW xs _ hi
  have yl:Q1 xs xs.length=F9 xs:=by unfold Q1;rw[List.take_length]
  have ZL:=hR.o
  have VZ:=hR.rd
  have hrb:=hR.ft
  rw[hl] at ZL
  rw[yl] at VZ
  clear hR
  go_wp2
  go_ret
  exact⟨go,co,Lo,rfl,ZL,VZ,hrb⟩
def Sx(w0:World)(S Z:Nat->Prop)(w:World):Nat->Prop:=λ b=>S b\/(w0.heap.size<=b/\b<w.heap.size/\¬ Z b)
theorem Q5{w0 w:World}{S:Nat->Prop}(Z:Nat->Prop)(hS:oE w0 S)(hb:Below w0.heap.size w0 w):oE w (Sx w0 S Z w) :=
 ⟨λ b h=>h.elim (λ h=>a5Q (hS.1 b h) hb.size) (λ h=>h.2.1),hS.2.mono (λ _ h => .inl h) λ b h=>hb.block b (hS.1 b h)⟩
theorem CJ{w0 w w':World}{S Z Z':Nat->Prop}(hS:oE w0 S)(hb:Below w0.heap.size w0 w)(hz:w.heap.size<=w'.heap.size)(Zo:∀ b,Z b->w0.heap.size<=b)(hk:∀ b,b<w.heap.size->¬ Z b->w'.heap[b]?=w.heap[b]?)(hZ:∀ b,b<w.heap.size->Z' b->Z b){d:D}{cs:List Value}(r:Rd w (Sx w0 S Z w) d cs):Rd w' (Sx w0 S Z' w') d cs :=
 Rd.aM (λ b h=>h.imp id λ h=>⟨h.1,a5Q h.2.1 hz,λ q=>h.2.2 (hZ b h.2.1 q)⟩) (λ b h=>by
  rcases h with h|h
  .have:=hS.1 b h
   exact hk b (a5Q this hb.size) λ q=>by have:=Zo b q;omega
  .exact hk b h.2.1 h.2.2) _ r
theorem YI{w0 w w':World}{S Z:Nat->Prop}(hS:oE w0 S)(hb:Below w0.heap.size w0 w)(hk:bX (λ _=>False) w w'){d:D}{cs:List Value}(r:Rd w (Sx w0 S Z w) d cs):Rd w' (Sx w0 S Z w') d cs :=
 Rd.aM (λ b h=>h.imp id λ h=>⟨h.1,a5Q h.2.1 hk.size,h.2.2⟩) (λ b h=>hk.block b ((Q5 Z hS hb).1 b h) id) _ r
theorem YJ{w0 w:World}{S:Nat->Prop}(Z:Nat->Prop)(hS:oE w0 S)(hb:Below w0.heap.size w0 w){d:D}{cs:List Value}(r:Rd w0 S d cs):Rd w (Sx w0 S Z w) d cs :=
 Rd.aM (λ b h => .inl h) (λ b h=>hb.block b (hS.1 b h)) _ r
theorem Q6{w0 w w':World}{S S' Z:Nat->Prop}(hS:oE w0 S)(hb:Below w0.heap.size w0 w)(hZ:∀ b,Z b->b<w.heap.size)(hk:bX (λ _=>False) w w')(h1:∀ b,b<w.heap.size->(S' b↔Sx w0 S Z w b))(h2:∀ b,S' b->b<w'.heap.size){d:D}{cs:List Value}(r:Rd w' S' d cs):Rd w' (Sx w0 S Z w') d cs :=
 Rd.aM (λ b h=>by
  rcases a6w b w.heap.size with q|q
  .exact ((h1 b q).1 h).imp id λ h=>⟨h.1,by have:=hk.size;omega,h.2.2⟩
  .exact .inr ⟨by have:=hb.size;omega,h2 b h,λ z=>by have:=hZ b z;omega⟩) (λ _ _=>rfl) _ r
theorem WM{w:World}{S:Nat->Prop}{x:O}{cs:List Value}(h:Rd w S x.aK cs):∃ (k n:Int) (a:Option Addr) (l c:Nat),cs=[.int .i64 k, .int .i64 n, .slice a l c]:=by
 obtain⟨a,cap,rfl,_⟩:=yN h
 exact⟨_,_,_,_,_,rfl⟩
theorem NL{w0 w:World}{S Z:Nat->Prop}(hS:oE w0 S)(hb:Below w0.heap.size w0 w)(hZ:∀ b,Z b->b<w.heap.size)(x:O)(hx:dI x<=1048576)(b o:Nat)(cx:List Value)(h1:b<w.heap.size)(h2:bP w b o cx)(rx:Rd w (Sx w0 S Z w) x.aK cx) :
  Calls prog nF #[.pointer (some ⟨b,o,none⟩)] w λ e w'=>∃ (k' n':Int) (a':Option Addr) (l' c':Nat),e = .returned (.agg #[.int .i64 k', .int .i64 n', .slice a' l' c'])/\bX (λ _=>False) w w'/\Rd w' (Sx w0 S Z w') x.aK [.int .i64 k', .int .i64 n', .slice a' l' c']:=by
 refine (jF.2 x hx w _ [_] (Q5 Z hS hb) ⟨⟨b,o,cx,rfl,h1,h2,rx⟩,trivial⟩).mono ?_
 rintro e w' ⟨v,S',res,rfl,rfl,iR,ye,I8,hr⟩
 obtain⟨cs,rfl,DT⟩:=(show ∃ cs,v = .agg cs.toArray/\Rd w' S' x.aK cs from hr)
 obtain⟨_,_,_,_,_,rfl⟩:=WM DT
 exact⟨_,_,_,_,_,rfl,iR,Q6 hS hb hZ iR ye I8 DT⟩
theorem SH{w0 w:World}{S Z:Nat->Prop}(hS:oE w0 S)(hb:Below w0.heap.size w0 w)(hZ:∀ b,Z b->b<w.heap.size)(x y:O)(a0 a1 a2 b0 b1 b2:Value)(rx:Rd w (Sx w0 S Z w) x.aK [a0,a1,a2])(ry:Rd w (Sx w0 S Z w) y.aK [b0,b1,b2]) :
  Calls prog jt #[.int .i64 6, .agg #[a0,a1,a2], .agg #[b0,b1,b2]] w λ e w'=>∃ (k' n':Int) (a':Option Addr) (l' c':Nat),e = .returned (.agg #[.int .i64 k', .int .i64 n', .slice a' l' c'])/\bX (λ _=>False) w w'/\Rd w' (Sx w0 S Z w') (O.mk 6 0 [x,y]).aK [.int .i64 k', .int .i64 n', .slice a' l' c']:=by
 refine (pJ.2 (6:Int) x y trivial w _ [_,_,_] (Q5 Z hS hb) ⟨⟨rfl,by decide,by decide⟩,⟨[a0,a1,a2],rfl,rx⟩,⟨[b0,b1,b2],rfl,ry⟩,trivial⟩).mono ?_
 rintro e w' ⟨v,S',res,rfl,rfl,iR,ye,I8,hr⟩
 obtain⟨cs,rfl,DT⟩:=(show ∃ cs,v = .agg cs.toArray/\Rd w' S' (O.mk 6 0 [x,y]).aK cs from hr)
 obtain⟨_,_,_,_,_,rfl⟩:=WM DT
 exact⟨_,_,_,_,_,rfl,iR,Q6 hS hb hZ iR ye I8 DT⟩
theorem Tb{w0 w:World}{S Z:Nat->Prop}(hS:oE w0 S)(hb:Below w0.heap.size w0 w)(hZ:∀ b,Z b->b<w.heap.size) :
  Calls prog pF #[] w λ e w'=>∃ (k' n':Int) (a':Option Addr) (l' c':Nat),e = .returned (.agg #[.int .i64 k', .int .i64 n', .slice a' l' c'])/\bX (λ _=>False) w w'/\Rd w' (Sx w0 S Z w') (O.mk 1 0 []).aK [.int .i64 k', .int .i64 n', .slice a' l' c']:=by
 refine (pK.2 trivial w _ [] (Q5 Z hS hb) trivial).mono ?_
 rintro e w' ⟨v,S',res,rfl,rfl,iR,ye,I8,hr⟩
 obtain⟨cs,rfl,DT⟩:=(show ∃ cs,v = .agg cs.toArray/\Rd w' S' (O.mk 1 0 []).aK cs from hr)
 obtain⟨_,_,_,_,_,rfl⟩:=WM DT
 exact⟨_,_,_,_,_,rfl,iR,Q6 hS hb hZ iR ye I8 DT⟩
theorem Tt{w:World}{b t:Nat}{u0 u1 u2:Value}(h:w.heap[b]?=some (.cells #[u0,u1,u2] t (0,0))):(w.cell? ⟨b,0,none⟩=some u0/\w.cell? ⟨b,1,none⟩=some u1/\w.cell? ⟨b,2,none⟩=some u2)/\w.frozen? ⟨b,0,none⟩=false/\w.frozen? ⟨b,1,none⟩=false/\w.frozen? ⟨b,2,none⟩=false :=
 ⟨⟨by simp[World.cell?,h],by simp[World.cell?,h],by simp[World.cell?,h]⟩,RT h,RT h,RT h⟩
theorem Vp{w:World}{b t:Nat}{u0 u1 u2:Value}(c0 c1 c2:Value)(h:w.heap[b]?=some (.cells #[u0,u1,u2] t (0,0))):(((w.setCell ⟨b,0,none⟩ c0).setCell ⟨b,1,none⟩ c1).setCell ⟨b,2,none⟩ c2).heap[b]?=some (.cells #[c0,c1,c2] t (0,0)) /\
  ∀ k,k≠b->(((w.setCell ⟨b,0,none⟩ c0).setCell ⟨b,1,none⟩ c1).setCell ⟨b,2,none⟩ c2).heap[k]?=w.heap[k]? :=
 ⟨a7c _ _ _ _ _ _ (a7c _ _ _ _ _ _ (a7c _ _ _ _ _ _ h)),λ k hk=>by rw[a7t _ _ _ _ hk,a7t _ _ _ _ hk,a7t _ _ _ _ hk]⟩
theorem Ic{a:Act}{w:World}{b:Nat}{cs:List Value}{t:TypeId}(h4:a.tmps.getD 4 undef = .pointer (some ⟨b,0,none⟩))(hb:w.heap[b]?=some (.cells cs.toArray t (0,0)))(hl:cs.length=3)(hd:a.defers=[])
  {R:Ending->World->Prop} (hR:R (.returned (.agg cs.toArray)) w):bodyPost prog Tryz.f81 R .ret a w:=by
 refine a9o ?_ hd hR
 have cS:(Instr.loadAt 28 (.pointer (some ⟨b,0,none⟩))).run prog w = .ok (.agg cs.toArray) w:=nL (IZ (l:=[]) (wr:=[]) (cl:=[]) (ro:=[]) trivial) (T:=28) (τ := .st .expr) rfl (λ j v hj=>by simp[World.cell?,hb,hj]) hl
 simp only[Instr.loadAt,Instr.sureAddr,a6d,a6e,a5S] at cS
 rw[xd,a8a]
 simp only[a6d,a9u,Tryz.f81,a8m,List.mapM_nil,qq,h4,asAddr,a6e,a5S,cS]
 rfl
theorem Sp(L:List O)(z:O)(h:0<L.length):vn (L++[z])=O.mk 6 0 [vn L,z]:=by
 match L,h with
 | x::xs,_=>simp[vn,a7X]
theorem Sq(ZS:List O)(k:Nat)(z:O)(h1:1<=k)(hz:ZS[k]?=some z):vn (ZS.take (k+1))=O.mk 6 0 [vn (ZS.take k),z]:=by
 have:=(a5W.1 hz).1
 rw[List.take_add_one,hz]
 exact Sp _ z (by rw[a6R];omega)
theorem Xa(ZS:List O)(N:Nat)(hN:N<=9000)(h:j9 ZS<=N)(k:Nat)(z:O)(hz:ZS[k]?=some z):dI z<=1048576:=by
 have:ar z<=cW ar ZS:=by
  obtain⟨a,b,rfl⟩:=a9P (a6F hz)
  rw[Ie];simp[cW];omega
 have:j9 ZS=cW ar ZS+ZS.length:=rfl
 exact yL z (by omega)
set_option maxRecDepth 100000 in
theorem Qw(w:World)(S:Nat->Prop)(hS:oE w S)(x y:O)(hx:aL x=true)(hy:aL y=true)(hn:ar x+ar y<=7000)(bx ox bY oy:Nat)(cx cy:List Value)(Ja:bx<w.heap.size)(hcx:bP w bx ox cx)(rx:Rd w S x.aK cx)
  (hby:bY<w.heap.size) (hcy:bP w bY oy cy) (ry:Rd w S y.aK cy) :
  Calls prog vH #[.pointer (some ⟨bx,ox,none⟩), .pointer (some ⟨bY,oy,none⟩)] w λ e w'=>∃ cs,e = .returned (.agg cs.toArray)/\Rd w' (Sx w S (λ _=>False) w') (S1 x y).aK cs/\bX (λ _=>False) w w':=by
 have l0:Dk w S (w.heap.size+1+1) (((w.alloc (.cells #[.int .i64 0, .int .i64 0, .slice none 0 0] 28)).alloc (.cells #[] 28)).alloc (.cells #[.slice (some ⟨w.heap.size+1,0,none⟩) 0 0] 26)) (.slice (some ⟨w.heap.size+1,0,none⟩) 0 0) [] []:=by
  refine⟨(((a7J _ w).alloc (a6b _) _).alloc (by simp) _).alloc (by simp;omega) _,by omega,?_,?_,rfl,by simp[Value.ownBlock],by simp⟩
  .have:=a7f ((w.alloc (.cells #[.int .i64 0, .int .i64 0, .slice none 0 0] 28)).alloc (.cells #[] 28)) (.cells #[.slice (some ⟨w.heap.size+1,0,none⟩) 0 0] 26)
   simpa using this
  .have:=(a7G (base:=w.heap.size) (e:=28) (size:=3) (w.alloc (.cells #[.int .i64 0, .int .i64 0, .slice none 0 0] 28)) #[] 0 (by simp) (a6N _) (by simp)).alloc (.cells #[.slice (some ⟨w.heap.size+1,0,none⟩) 0 0] 26)
   simpa using this
 have z0:(((w.alloc (.cells #[.int .i64 0, .int .i64 0, .slice none 0 0] 28)).alloc (.cells #[] 28)).alloc (.cells #[.slice (some ⟨w.heap.size+1,0,none⟩) 0 0] 26)).heap[w.heap.size]?=some (.cells #[.int .i64 0, .int .i64 0, .slice none 0 0] 28 (0,0)):=by
  rw[a7F _ _ _ (by simp;omega),a7F _ _ _ (by simp)];exact a7f w _
 have tx:=F7 _ x (a6c _) hx [] (λ y hy=>by cases hy)
 have t0:j9 []=0:=rfl
 go_enter Tryz.func81,Tryz.ntmps81
 go_wp2_with (go_at_call 94;refine (Dh w S hS _ x (a6c _) hx bx ox _ cx _ [] [] _ l0 Ja hcx rx (λ y hy=>by cases hy) (by omega)).mono ?_)
 rintro e w1 ⟨he,v1,L1,l1,f1⟩;subst he
 have z1:w1.heap[w.heap.size]?=some (.cells #[.int .i64 0, .int .i64 0, .slice none 0 0] 28 (0,0)):=(f1.block _ (by simp;omega) (by omega) (by simp[Value.ownBlock])).trans z0
 have n1:v1.ownBlock≠some w.heap.size:=λ e=>by
  rcases f1.own _ e with h|h
  .simp[Value.ownBlock] at h
  .simp at h;omega
 go_wp2_with (go_at_call 94;refine (Dh w S hS _ y (a6c _) hy bY oy _ cy v1 _ L1 _ l1 hby hcy ry tx.1 (by omega)).mono ?_)
 rintro e w2 ⟨he,v2,L2,l2,f2⟩;subst he
 have s1:=f1.size
 have z2:w2.heap[w.heap.size]?=some (.cells #[.int .i64 0, .int .i64 0, .slice none 0 0] 28 (0,0)):=(f2.block _ (cH z1) (by omega) n1).trans z1
 have ty:=F7 _ y (a6c _) hy _ tx.1
 obtain⟨g,cap,cur,rfl,q1,q2,q3,q4,q5,q6⟩:=l2.form
 have vq:=Nq l2
 go_wp2_with (go_at_call 95;refine (QY w S hS (fL y (fL x [])) ty.1 (by omega) w2 l2.ft g cap (cH q3) (λ k z hz=>H4 q3 q6 l2.rd k z hz)).mono ?_)
 rintro e w3 ⟨g3,c3,L3,he,a0R,rd3,b3⟩;subst he
 have s2:=f2.size
 have sb3:=b3.size
 have sl:=cH z2
 have lq2:=l2.lt
 have b3w:Below w.heap.size w w3:=l2.ft.trans (b3.mono (by omega))
 have z3:=(b3.block _ sl).trans z2
 have vq3:=(b3.block _ lq2).trans l2.var
 have vc3:w3.cell? ⟨w.heap.size+1+1,0,none⟩=some (.slice (some ⟨g,0,none⟩) (fL y (fL x [])).length cap):=by simp[World.cell?,vq3]
 have vf3:=RT (j:=0) vq3
 have a5w:=a0R.lt g3 rfl
 have ngq:g3≠w.heap.size+1+1:=by omega
 have ngr:g3≠w.heap.size:=by omega
 have heq:∀ k,k≠w.heap.size+1+1->(w3.setCell ⟨w.heap.size+1+1,0,none⟩ (.slice (some ⟨g3,0,none⟩) (fL y (fL x [])).length c3)).heap[k]?=w3.heap[k]?:=λ k hk=>a7t _ _ _ _ hk
 have vq4:(w3.setCell ⟨w.heap.size+1+1,0,none⟩ (.slice (some ⟨g3,0,none⟩) (fL y (fL x [])).length c3)).heap[w.heap.size+1+1]?=some (.cells #[.slice (some ⟨g3,0,none⟩) (fL y (fL x [])).length c3] 26 (0,0)):=a7c _ _ _ _ _ _ vq3
 have b4:Below w.heap.size w (w3.setCell ⟨w.heap.size+1+1,0,none⟩ (.slice (some ⟨g3,0,none⟩) (fL y (fL x [])).length c3)):=b3w.setCell (by show w.heap.size<=w.heap.size+1+1;omega) _
 have sz4:(w3.setCell ⟨w.heap.size+1+1,0,none⟩ (.slice (some ⟨g3,0,none⟩) (fL y (fL x [])).length c3)).heap.size=w3.heap.size:=by simp
 have vc4:(w3.setCell ⟨w.heap.size+1+1,0,none⟩ (.slice (some ⟨g3,0,none⟩) (fL y (fL x [])).length c3)).cell? ⟨w.heap.size+1+1,0,none⟩=some (.slice (some ⟨g3,0,none⟩) (fL y (fL x [])).length c3):=by simp[World.cell?,vq4]
 have a0S:=a0R.kept (row:=some (w.heap.size+1+1)) (w':=w3.setCell ⟨w.heap.size+1+1,0,none⟩ (.slice (some ⟨g3,0,none⟩) (fL y (fL x [])).length c3)) ⟨rfl,rfl,rfl,by simp,λ k _ h=>heq k λ e=>h (by rw[e])⟩ (.inr (by simp[Value.ownBlock];exact ngq))
 have z4:=(heq w.heap.size (by omega)).trans z3
 have hlen:=(Q2 (fL y (fL x [])) []).2.2
 have hsu:=a1f x y hx hy
 have hsv:S1 x y=vn (F9 (fL y (fL x []))):=rfl
 have hlr:(F9 (fL y (fL x []))).length=(fL y (fL x [])).length:=by rw[show F9 (fL y (fL x []))=_ from rfl] at *;simpa [F9] using hlen
 clear hlen heq
 go_upto_region 5 with fail
 generalize (fL y (fL x [])).length=n at *
 generalize F9 (fL y (fL x []))=ZS at *
 generalize w3.setCell ⟨w.heap.size+1+1,0,none⟩ (.slice (some ⟨g3,0,none⟩) n c3)=w4 at *
 have Zo:∀ b,b=w.heap.size->w.heap.size<=b:=λ b h=>by omega
 have lt4:=cH z4
 by_cases hn0:n=0
 .subst hn0
  have e0:ZS=[]:=a6I hlr
  go_wp2_with (go_at_call 64;refine (Tb (Z:=λ b=>b=w.heap.size) hS b4 (λ b hb=>by have hb:b=w.heap.size:=hb;omega)).mono ?_)
  rintro e w5 ⟨ek,en,ea,em,ec,he,Sa,r5⟩;subst he
  have z5:=(Sa.block _ lt4 id).trans z4
  have b5:=b4.trans (xQ Sa b4.size)
  obtain⟨⟨k0,k1,k2⟩,g0,g1,g2⟩:=Tt z5
  go_wp2
  obtain⟨z6,o6⟩:=Vp (.int .i64 ek) (.int .i64 en) (.slice ea em ec) z5
  refine Ic (cs:=[.int .i64 ek, .int .i64 en, .slice ea em ec]) rfl z6 rfl rfl ?_
  refine⟨[.int .i64 ek, .int .i64 en, .slice ea em ec],rfl,?_,b5.os,b5.tape,b5.output,by simpa using b5.size,λ b hb _=>(o6 b (by omega)).trans (b5.block b hb)⟩
  rw[hsv,e0]
  exact CJ hS b5 (by simp) Zo (λ b _ h=>o6 b h) (λ b _ h=>h.elim) r5
 .have eM:=a0S
  rcases a0S.2 with ⟨e,_⟩|⟨g',c',cur3,e,p1,p2,p3,p4,p5,p6⟩
  .cases e
  cases e
  rw[<-hlr] at p6
  have el:=λ k z hz=>H4 p2 p6 rd3 k z hz
  obtain⟨z,hz⟩:∃ z,ZS[0]?=some z:=⟨_,a5V (by omega)⟩
  obtain⟨a0,a1,a2,hca,hra⟩:=el 0 z hz
  have hga:=cH p2
  have cz:=Xa ZS _ (by omega) hsu.2
  have bi0:(0:Int)<(n:Int):=by omega
  have hn9:n<=8000:=by have:j9 ZS=cW ar ZS+ZS.length:=rfl;omega
  go_wp2_with (go_at_call 39;refine (NL (Z:=λ b=>b=w.heap.size) hS b4 (λ b hb=>by have hb:b=w.heap.size:=hb;omega) z (cz 0 z hz) g3 0 _ hga (by simpa using hca) (YJ _ hS b4 hra)).mono ?_)
  rintro e w5 ⟨ek,en,ea,em,ec,he,Sa,r5⟩;subst he
  have b5:=b4.trans (xQ Sa b4.size)
  have z5:=(Sa.block _ lt4 id).trans z4
  have sz5:=Sa.size
  have vq5:=(Sa.block _ (cH vq4) id).trans vq4
  have p25:=(Sa.block _ hga id).trans p2
  have ha:=a7f w5 (.cells #[.int .i64 0, .int .i64 0, .slice none 0 0] 28)
  obtain⟨⟨k0,k1,k2⟩,g0,g1,g2⟩:=Tt ha
  obtain⟨z6,o6⟩:=Vp (.int .i64 ek) (.int .i64 en) (.slice ea em ec) ha
  go_upto_block 0 with fail
  have b6:Below w.heap.size w (w5.alloc (.cells #[.int .i64 ek, .int .i64 en, .slice ea em ec] 28)):=b5.alloc (by omega) _
  have t6:=a7f w5 (.cells #[.int .i64 ek, .int .i64 en, .slice ea em ec] 28)
  have m6:∀ b,b<w5.heap.size->(w5.alloc (.cells #[.int .i64 ek, .int .i64 en, .slice ea em ec] 28)).heap[b]?=w5.heap[b]?:=λ b hb=>a7F _ _ _ hb
  have lt5:=cH z5
  have lq5:=cH vq5
  have lg5:=cH p25
  have z6r:=(m6 _ lt5).trans z5
  have vq6:=(m6 _ lq5).trans vq5
  have p26:=(m6 _ lg5).trans p25
  have s6:(w5.alloc (.cells #[.int .i64 ek, .int .i64 en, .slice ea em ec] 28)).heap.size=w5.heap.size+1:=by simp
  have r6:Rd (w5.alloc (.cells #[.int .i64 ek, .int .i64 en, .slice ea em ec] 28)) (Sx w S (λ b=>b=w.heap.size\/b=w5.heap.size) (w5.alloc (.cells #[.int .i64 ek, .int .i64 en, .slice ea em ec] 28))) (vn (ZS.take 1)).aK [.int .i64 ek, .int .i64 en, .slice ea em ec]:=by
   have:vn (ZS.take 1)=z:=by
    match ZS,hz with
    | z'::_,hz=>cases hz;rfl
   rw[this]
   exact CJ hS b5 (by omega) Zo (λ b hb _=>m6 b hb) (λ b hb h=>h.elim id λ h=>by omega) r5
  generalize w5.alloc (.cells #[.int .i64 ek, .int .i64 en, .slice ea em ec] 28)=w6 at *
  generalize hT:w5.heap.size=T at *
  have hT0:w.heap.size<=T:=by have:=b5.size;omega
  have nTq:T≠w.heap.size+1+1:=by omega
  have nTg:g3≠T:=by omega
  clear k0 k1 k2 g0 g1 g2 z6 o6 m6 ha
  go_wp2
  go_loopw [7] (λ i wr=>∃ (k:Nat) (k' n':Int) (a':Option Addr) (l' c':Nat),i = .int .i64 k/\1<=k/\k<=n/\w6.grownBy wr (some T)/\wr.heap[T]?=some (.cells #[.int .i64 k', .int .i64 n', .slice a' l' c'] 28 (0,0)) /\
   Rd wr (Sx w S (λ b=>b=w.heap.size\/b=T) wr) (vn (ZS.take k)).aK [.int .i64 k', .int .i64 n', .slice a' l' c']) (λ i wr=>n - kN i)
  .exact⟨1,ek,en,ea,em,ec,rfl,a6b _,by omega,⟨rfl,rfl,rfl,a6b _,λ _ _ _=>rfl⟩,t6,r6⟩
  obtain⟨k,ak,an,aa,al,ac,rfl,ux,hkn,BZ,vj,VZ⟩:=hrel
  have nB:w.heap.size≠T:=by omega
  have br:Below w.heap.size w wr:=b6.grown BZ (by omega) (λ j e=>by have e':T=j:=a6Z e;omega)
  have vqr:=(BZ.block _ (by omega) (λ e=>nTq (a6Z e).symm)).trans vq6
  have vqc:wr.cell? ⟨w.heap.size+1+1,0,none⟩=some (.slice (some ⟨g3,0,none⟩) n c3):=by simp[World.cell?,vqr]
  have pr:=(BZ.block _ (by omega) (λ e=>nTg (a6Z e))).trans p26
  have ltr:=cH vj
  have lqr:=cH vqr
  have szr:=BZ.size
  by_cases Jd:k<n
  .obtain⟨y',Nb⟩:∃ y',ZS[k]?=some y':=⟨_,a5V (by omega)⟩
   obtain⟨d0,d1,d2,hcd,oL⟩:=H4 pr p6 rd3 k y' Nb
   obtain⟨⟨k0,k1,k2⟩,g0,g1,g2⟩:=Tt vj
   have bk0:(0:Int)<=(k:Int):=by omega
   have bk1:(k:Int)<(n:Int):=by omega
   have hj:=Sq ZS k y' ux Nb
   have hZr:∀ b,(b=w.heap.size\/b=T)->b<wr.heap.size:=λ b h=>by rcases h with h|h<;>omega
   have WT:Below w.heap.size w wr.drew:=br.drew
   have a4s:Rd wr.drew (Sx w S (λ b=>b=w.heap.size\/b=T) wr.drew) (vn (ZS.take k)).aK [.int .i64 ak, .int .i64 an, .slice aa al ac] :=
    CJ (w':=wr.drew) (Z:=λ b=>b=w.heap.size\/b=T) (Z':=λ b=>b=w.heap.size\/b=T) hS br (a6b _) (λ b h=>by rcases h with h|h<;>omega) (λ _ _ _=>rfl) (λ _ _ h=>h) VZ
   have a4v:wr.drew.heap[T]?=some (.cells #[.int .i64 ak, .int .i64 an, .slice aa al ac] 28 (0,0)):=vj
   have YS:wr.drew.heap[w.heap.size+1+1]?=some (.cells #[.slice (some ⟨g3,0,none⟩) n c3] 26 (0,0)):=vqr
   have a0C:∀ b,(b=w.heap.size\/b=T)->b<wr.drew.heap.size:=hZr
   have prd:g3<wr.drew.heap.size:=cH pr
   have a4c:bP wr.drew g3 (k * 3) [d0,d1,d2]:=hcd
   go_wp2_with fail
   go_region_with
    (first
     | (
       go_at_call 39
       refine (NL (w:=wr.drew) (Z:=λ b=>b=w.heap.size\/b=T) hS WT a0C y' (cz k y' Nb) g3 (k * 3) _ prd a4c (YJ _ hS WT oL)).mono ?_
       rintro e w7 ⟨fk,fn,fa,fm,fc,he,K7,r7⟩
       subst he
       have b7:=WT.trans (xQ K7 WT.size)
       have t7:=(K7.block _ ltr id).trans a4v
       obtain⟨⟨u0,u1,u2⟩,v0,v1,v2⟩:=Tt t7
       have vq7:w7.cell? ⟨w.heap.size+1+1,0,none⟩=some (.slice (some ⟨g3,0,none⟩) n c3):=by simp[World.cell?,(K7.block _ lqr id).trans YS]
       have rr7:=YI hS WT K7 a4s
       have hZ7:∀ b,(b=w.heap.size\/b=T)->b<w7.heap.size:=λ b h=>a5Q (a0C b h) K7.size)
     | (
       go_at_call 60
       refine (SH (w:=w7) (Z:=λ b=>b=w.heap.size\/b=T) hS b7 hZ7 _ y' _ _ _ _ _ _ rr7 r7).mono ?_
       rintro e w8 ⟨hk,uy,ha',hm,Jb,he,Sb,r8⟩
       subst he
       have t8:=(Sb.block _ (cH t7) id).trans t7
       obtain⟨⟨x0,x1,x2⟩,y0,y1,y2⟩:=Tt t8
       have vq8:w8.cell? ⟨w.heap.size+1+1,0,none⟩=some (.slice (some ⟨g3,0,none⟩) n c3):=by simp[World.cell?,(Sb.block _ (cH ((K7.block _ lqr id).trans YS)) id).trans ((K7.block _ lqr id).trans YS)]))
   all_goals
    go_wp2
    obtain⟨z9,o9⟩:=Vp (.int .i64 hk) (.int .i64 uy) (.slice ha' hm Jb) t8
    have b8:=b7.trans (xQ Sb b7.size)
    have s7:wr.heap.size<=w7.heap.size:=K7.size
    have s8:=Sb.size
    refine⟨⟨k+1,hk,uy,ha',hm,Jb,by simp,by omega,by omega,⟨Sb.os.trans (K7.os.trans BZ.os),Sb.tape.trans (K7.tape.trans BZ.tape),Sb.output.trans (K7.output.trans BZ.output),by simp;omega,λ j hj dU=>?_⟩,z9,?_⟩,?_⟩
    .exact (o9 j (λ e=>dU (by rw[e]))).trans ((Sb.block j (by omega) id).trans ((K7.block j (by show j<wr.heap.size;omega) id).trans (BZ.block j hj dU)))
    .rw[hj]
     exact CJ (Z:=λ b=>b=w.heap.size\/b=T) hS b8 (by simp) (λ b h=>by rcases h with h|h<;>omega) (λ b _ hb=>o9 b λ e=>hb (.inr e)) (λ _ _ h=>h) r8
    .simp only[kN];omega
  .have a4k:k=n:=by omega
   subst a4k
   have zr:=(BZ.block _ (by omega) (λ e=>nB (a6Z e))).trans z6r
   obtain⟨⟨k0,k1,k2⟩,g0,g1,g2⟩:=Tt vj
   obtain⟨⟨x0,x1,x2⟩,y0,y1,y2⟩:=Tt zr
   obtain⟨z9,o9⟩:=Vp (.int .i64 ak) (.int .i64 an) (.slice aa al ac) zr
   go_wp2
   refine Ic (cs:=[.int .i64 ak, .int .i64 an, .slice aa al ac]) rfl z9 rfl rfl ?_
   refine⟨[.int .i64 ak, .int .i64 an, .slice aa al ac],rfl,?_,br.os,br.tape,br.output,by simpa using br.size,λ b hb _=>(o9 b (by omega)).trans (br.block b hb)⟩
   rw[hsv]
   rw[show ZS.take k=ZS from by rw[<-hlr,a8g]] at VZ
   exact CJ (Z:=λ b=>b=w.heap.size\/b=T) hS br (by simp) (λ b h=>by rcases h with h|h<;>omega) (λ b _ hb=>o9 b λ e=>hb (.inl e)) (λ b _ h=>h.elim) VZ
def rj:bb:=⟨vH,[.r (.st .expr), .r (.st .expr)],λ (x:O) (b:O)=>⟨(some (aL x=true/\aL b=true/\ar x+ar b<=7000),[⟨(.st .expr),S1 x b⟩])⟩⟩
theorem Hh:bb.Good rj:=by
 refine⟨aG KU rfl (by decide),?_⟩
 intro x y hp w S cF hS ha
 match cF,ha with
 | [v1,v2],ha =>
  obtain⟨⟨bx,ox,cx,rfl,h1,h2,rx⟩,⟨b',oy,cy,rfl,ye,I8,ry⟩,_⟩:=ha
  refine (Qw w S hS x y hp.1 hp.2.1 hp.2.2 bx ox b' oy cx cy h1 h2 rx ye I8 ry).mono ?_
  rintro e w' ⟨cs,rfl,hr,hk⟩
  exact⟨_,Sx w S (λ _=>False) w',_,rfl,rfl,hk,λ b hb=>⟨λ h=>h.elim id λ h=>by omega, .inl⟩,λ b h=>h.elim (λ h=>a5Q (hS.1 b h) hk.size) λ h=>h.2.1,⟨cs,rfl,hr⟩⟩
end
end Go.Proofs.YtnehkikdlnmebaaGreatDoor

set_option maxRecDepth 4000
set_option maxHeartbeats 4000000
namespace Go.Proofs.YtnehkikdlnmebaaGreatDoor
noncomputable section
def ln(n:Nat):bb:=⟨pE,[.r (.st .expr)],λ (x:O)=>⟨(some (cv x<n/\aL x=true/\ar x<=3000),[⟨(.st .expr),j0 x⟩])⟩⟩
def px:bb:=⟨pE,[.r (.st .expr)],λ (x:O)=>⟨(some (aL x=true/\ar x<=3000),[⟨(.st .expr),j0 x⟩])⟩⟩
def AI(x:O):Nat->aX:=λ _ => .none
abbrev wN(n:Nat)(x:O):Prop:=(x.V.length<=140737488355328 ->
 (aV (0:Int) x.V.length/\((cv (x.V.getD 0 zE)<n/\aL (x.V.getD 0 zE)=true/\ar (x.V.getD 0 zE)<=3000)/\(x.V.length<=140737488355328 ->
 (aV (1:Int) x.V.length/\((cv (x.V.getD 1 zE)<n/\aL (x.V.getD 1 zE)=true/\ar (x.V.getD 1 zE)<=3000)/\(ag x.ah ->
 (((decide (x.ah=(6:Int)))=true ->
 ((aL (aC (j0 (x.V.getD 0 zE)))=true/\aL (aC (j0 (x.V.getD 1 zE)))=true/\ar (aC (j0 (x.V.getD 0 zE)))+ar (aC (j0 (x.V.getD 1 zE)))<=7000)/\(aC (S1 (aC (j0 (x.V.getD 0 zE))) (aC (j0 (x.V.getD 1 zE)))))=(j0 x)))/\((decide (x.ah=(6:Int)))=false ->
 ((aL (aC (j0 (x.V.getD 0 zE)))=true/\aL (aC (j0 (x.V.getD 1 zE)))=true/\ar (aC (j0 (x.V.getD 0 zE)))+ar (aC (j0 (x.V.getD 1 zE)))<=4000)/\(aC (rS (aC (j0 (x.V.getD 0 zE))) (aC (j0 (x.V.getD 1 zE)))))=(j0 x)))))))))))
abbrev wO(n:Nat)(x:O):Prop:=(((decide (x.ah=(8:Int)))=true ->
 (x.V.length<=140737488355328 ->
 (aV (0:Int) x.V.length/\((cv (x.V.getD 0 zE)<n/\aL (x.V.getD 0 zE)=true/\ar (x.V.getD 0 zE)<=3000)/\((aL (aC (j0 (x.V.getD 0 zE)))=true/\ar (aC (j0 (x.V.getD 0 zE)))<=4000)/\(aC (JO (aC (j0 (x.V.getD 0 zE)))))=(j0 x))))))/\((decide (x.ah=(8:Int)))=false ->
 (dI x<=1048576/\(aC x)=(j0 x))))
theorem J7(n:Nat)(x:O):cU (bo [ln n,rj,ri,mc,cO]) (aF jo) (AI x) 0 (bC (bo [ln n,rj,ri,mc,cO]) jo λ r=>bH r [⟨(.st .expr),j0 x⟩]) (aO jo [.ref ⟨(.st .expr),x⟩]) =
 ((ag x.ah ->
 (((decide (x.ah=(6:Int)))=true ->
 (((decide (x.ah=(6:Int)))=true ->
 (wN n x))/\((decide (x.ah=(6:Int)))=false ->
 (wO n x))))/\((decide (x.ah=(6:Int)))=false ->
 (((decide (x.ah=(7:Int)))=true ->
 (wN n x))/\((decide (x.ah=(7:Int)))=false ->
 (wO n x))))))):=by kernel_rfl
theorem JE(n:Nat)(hE:aQ [ln n,rj,ri,mc,cO]):bb.Good (ln (n+1)):=by
 refine⟨aG nZ rfl (by decide),?_⟩
 show ∀ (x:O),(cv x<n+1/\aL x=true/\ar x<=3000)->bD prog pE [.ref ⟨(.st .expr),x⟩] (·=[⟨(.st .expr),j0 x⟩])
 intro x hp
 refine bu (wr:=[]) (cl:=[]) (ro:=[]) hE nZ E7 (AI x) ?_
 rewrite [J7 n x]
 obtain⟨hm,hg,hn⟩:=hp
 refine λ a0=>⟨λ a1=>⟨λ a2=>λ a3=>⟨?_,⟨?_,λ a4=>⟨?_,⟨?_,λ a5=>⟨λ a6=>⟨?_,?_⟩,λ a6=>⟨?_,?_⟩⟩⟩⟩⟩⟩,λ a2=>⟨λ a3=>λ a4=>⟨?_,⟨?_,⟨?_,?_⟩⟩⟩,λ a3=>⟨?_,?_⟩⟩⟩,λ a1=>⟨λ a2=>λ a3=>⟨?_,⟨?_,λ a4=>⟨?_,⟨?_,λ a5=>⟨λ a6=>⟨?_,?_⟩,λ a6=>⟨?_,?_⟩⟩⟩⟩⟩⟩,λ a2=>⟨λ a3=>λ a4=>⟨?_,⟨?_,⟨?_,?_⟩⟩⟩,λ a3=>⟨?_,?_⟩⟩⟩⟩
 all_goals try and_intros
 all_goals try simp only[O.eta,bE] at *
 all_goals (try simp only[a5Z,a6g,a5M,a5N,aV,O.eta] at *);first|rfl|trivial|omega|exact yL _ (by omega)|(have g:=yc x hg (.inr (by omega));first|(have:=g.len;omega)|exact g.g0|(have:=g.l0;omega)|(have:=g.nd;omega)|exact (UA _ g.g0).g|(have:=(UA _ g.g0).n;have:=g.nd;omega)|(rw[a1i x (by omega) g]<;>rfl))|(have g:=gM x hg (by omega);first|(have:=g.len;omega)|exact g.g0|exact g.g1|(have:=g.l0;omega)|(have:=g.l1;omega)|(have:=g.nd;omega)|exact (UA _ g.g0).g|exact (UA _ g.g1).g|(have:=(UA _ g.g0).n;have:=(UA _ g.g1).n;have:=g.nd;omega)|(rw[a1g x (by omega) g]<;>rfl)|(rw[a1h x (by omega) g]<;>rfl))|(rw[a1j x (by omega) (by omega) (by omega)]<;>rfl)
theorem OO :∀ n,aQ [ln n]
 | 0=>⟨⟨aG nZ rfl (by decide),λ _ h=>absurd h.1 (a6D _)⟩,trivial⟩
 | n+1=>by
  have ih:=OO  n
  exact⟨JE n ⟨ih.1,Hh,Hg,Fp,jF,trivial⟩,trivial⟩
theorem Fs :bb.Good px :=
 ⟨aG nZ rfl (by decide),λ x hp=>(OO  (cv x+1)).1.2 x (⟨a6c _,hp⟩)⟩
noncomputable def H9(raw:O):O×Bool:=if 800<ar raw then (raw,false) else (j0 raw,true)
def SQ(x a b:O)(em:Bool):O:=if x.ah=6 then O.mk 6 0 [a,b] else if x.ah=7 then (if em=true then O.mk 6 0 [O.mk 7 0 [a,(x.V.getD 1 zE)],b] else O.mk 7 0 [a,(x.V.getD 1 zE)]) else O.mk 7 0 [a,x]
noncomputable def OE(a c:Int)(x:O)(rs:List (O×Bool)):O×Bool :=
 if x.ah=4 then (if x.bc=c then O.mk 2 0 [] else O.mk 1 0 [],true)
 else if x.ah=6 then (if ((rs.getD 0 (x,false)).2&&(rs.getD 1 (x,false)).2)=true then H9 (SQ x (rs.getD 0 (x,false)).1 (rs.getD 1 (x,false)).1 (iQ a (x.V.getD 0 zE))) else (O.mk 1 0 [],false))
 else if x.ah=7 then (if (rs.getD 0 (x,false)).2=true then (if (iQ a (x.V.getD 0 zE) && !(rs.getD 1 (x,false)).2)=true then (O.mk 7 0 [(rs.getD 0 (x,false)).1,(x.V.getD 1 zE)],false) else H9 (SQ x (rs.getD 0 (x,false)).1 (rs.getD 1 (x,false)).1 (iQ a (x.V.getD 0 zE)))) else (O.mk 1 0 [],false))
 else if x.ah=8 then (if (rs.getD 0 (x,false)).2=true then H9 (SQ x (rs.getD 0 (x,false)).1 (rs.getD 1 (x,false)).1 (iQ a (x.V.getD 0 zE))) else (O.mk 1 0 [],false))
 else (O.mk 1 0 [],true)
noncomputable def bU(a c:Int)(x:O):O×Bool:=BK (OE a c) x
theorem JM(a c:Int)(x:O):bU a c x=OE a c x (og (OE a c) x.V):=qc _ x
theorem SV(a c:Int)(x:O)(i:Nat)(h:i<x.V.length):(og (OE a c) x.V).getD i (x,false)=bU a c (x.V.getD i zE):=jD _ _ _ _ i h
noncomputable def ep(a c:Int)(x:O):O:=if x.ah=8 then O.mk 7 0 [(bU a c (x.V.getD 0 zE)).1,x] else SQ x (bU a c (x.V.getD 0 zE)).1 (bU a c (x.V.getD 1 zE)).1 (iQ a (x.V.getD 0 zE))
theorem Yy(a c:Int)(x:O)(h:x.ah=4)(e:x.bc=c):bU a c x=(O.mk 2 0 [],true):=by rw[JM,OE,a5T h,a5T e]
theorem Yx(a c:Int)(x:O)(h:x.ah=4)(e:¬ x.bc=c):bU a c x=(O.mk 1 0 [],true):=by rw[JM,OE,a5T h,a5J e]
theorem a1c(a c:Int)(x:O)(h:x.ah=6)(g:B2 x):bU a c x=if ((bU a c (x.V.getD 0 zE)).2&&(bU a c (x.V.getD 1 zE)).2)=true then H9 (ep a c x) else (O.mk 1 0 [],false):=by
 rw[JM,OE,a5J (by omega),a5T h,SV a c x 0 (by have:=g.len;omega),SV a c x 1 (by have:=g.len;omega),show ep a c x=_ from a5J (by omega)]
theorem QZ(a c:Int)(x:O)(h:x.ah=6)(g:B2 x)(e:(bU a c (x.V.getD 0 zE)).2=false\/(bU a c (x.V.getD 1 zE)).2=false):bU a c x=(O.mk 1 0 [],false):=by
 rw[a1c a c x h g,a5J]
 rcases e with e|e<;>rw[e]<;>simp
theorem Yz(a c:Int)(x:O)(h:x.ah=6)(g:B2 x)(e:(bU a c (x.V.getD 0 zE)).2=true)(e':(bU a c (x.V.getD 1 zE)).2=true):bU a c x=H9 (ep a c x):=by
 rw[a1c a c x h g,a5T (by rw[e,e'];rfl)]
theorem YA(a c:Int)(x:O)(h:x.ah=7)(g:B2 x):bU a c x=if (bU a c (x.V.getD 0 zE)).2=true then (if (iQ a (x.V.getD 0 zE) && !(bU a c (x.V.getD 1 zE)).2)=true then (O.mk 7 0 [(bU a c (x.V.getD 0 zE)).1,(x.V.getD 1 zE)],false) else H9 (ep a c x)) else (O.mk 1 0 [],false):=by
 rw[JM,OE,a5J (by omega),a5J (by omega),a5T h,SV a c x 0 (by have:=g.len;omega),SV a c x 1 (by have:=g.len;omega),show ep a c x=_ from a5J (by omega)]
theorem YB(a c:Int)(x:O)(h:x.ah=7)(g:B2 x)(e:(bU a c (x.V.getD 0 zE)).2=false):bU a c x=(O.mk 1 0 [],false):=by
 rw[YA a c x h g,a5J (by rw[e];decide)]
theorem YC(a c:Int)(x:O)(h:x.ah=7)(g:B2 x)(e:(bU a c (x.V.getD 0 zE)).2=true)(m:iQ a (x.V.getD 0 zE)=true)(e':(bU a c (x.V.getD 1 zE)).2=false):bU a c x=(O.mk 7 0 [(bU a c (x.V.getD 0 zE)).1,(x.V.getD 1 zE)],false):=by
 rw[YA a c x h g,a5T e,a5T (by rw[m,e'];rfl)]
theorem Q0(a c:Int)(x:O)(h:x.ah=7)(g:B2 x)(e:(bU a c (x.V.getD 0 zE)).2=true)(m:iQ a (x.V.getD 0 zE)=false\/(bU a c (x.V.getD 1 zE)).2=true):bU a c x=H9 (ep a c x):=by
 rw[YA a c x h g,a5T e,a5J]
 rcases m with m|m<;>rw[m]<;>simp
theorem a1d(a c:Int)(x:O)(h:x.ah=8)(g:B1 x):bU a c x=if (bU a c (x.V.getD 0 zE)).2=true then H9 (ep a c x) else (O.mk 1 0 [],false):=by
 rw[JM,OE,a5J (by omega),a5J (by omega),a5J (by omega),a5T h,SV a c x 0 (by have:=g.len;omega),show ep a c x=_ from a5T h,show SQ x _ _ _=O.mk 7 0 [_,x] from (a5J (by omega)).trans (a5J (by omega))]
theorem YD(a c:Int)(x:O)(h:x.ah=8)(g:B1 x)(e:(bU a c (x.V.getD 0 zE)).2=false):bU a c x=(O.mk 1 0 [],false):=by
 rw[a1d a c x h g,a5J (by rw[e];decide)]
theorem YE(a c:Int)(x:O)(h:x.ah=8)(g:B1 x)(e:(bU a c (x.V.getD 0 zE)).2=true):bU a c x=H9 (ep a c x):=by
 rw[a1d a c x h g,a5T e]
theorem a1e(a c:Int)(x:O)(h4:¬ x.ah=4)(h6:¬ x.ah=6)(h7:¬ x.ah=7)(h8:¬ x.ah=8):bU a c x=(O.mk 1 0 [],true):=by
 rw[JM,OE,a5J h4,a5J h6,a5J h7,a5J h8]
theorem Vk(a c:Int)(x:O)(h:x.ah=6):ep a c x=O.mk 6 0 [(bU a c (x.V.getD 0 zE)).1,(bU a c (x.V.getD 1 zE)).1]:=by rw[ep,a5J (by omega),SQ,a5T h]
theorem QU(a c:Int)(x:O)(h:x.ah=7)(m:iQ a (x.V.getD 0 zE)=true):ep a c x=O.mk 6 0 [O.mk 7 0 [(bU a c (x.V.getD 0 zE)).1,(x.V.getD 1 zE)],(bU a c (x.V.getD 1 zE)).1]:=by rw[ep,a5J (by omega),SQ,a5J (by omega),a5T h,a5T m]
theorem QT(a c:Int)(x:O)(h:x.ah=7)(m:iQ a (x.V.getD 0 zE)=false):ep a c x=O.mk 7 0 [(bU a c (x.V.getD 0 zE)).1,(x.V.getD 1 zE)]:=by rw[ep,a5J (by omega),SQ,a5J (by omega),a5T h,a5J (by rw[m];decide)]
theorem Vl(a c:Int)(x:O)(h:x.ah=8):ep a c x=O.mk 7 0 [(bU a c (x.V.getD 0 zE)).1,x]:=by rw[ep,a5T h]
structure Rk(r:O×Bool):Prop where
 g:r.2=true->aL r.1=true
 n:r.2=true->ar r.1<=800
theorem LR(x:O)(h:aL x=true):Rk (H9 x):=by
 unfold H9
 split
 .exact⟨nofun,nofun⟩
 .have:=UA x h
  exact⟨λ _=>this.g,λ _=>by have:=this.n;show ar (j0 x)<=800;omega⟩
structure EO(a c:Int)(x:O):Prop where
 e:bU a c x=H9 (ep a c x)
 g:aL (ep a c x)=true
 n:ar (ep a c x)<=3000
theorem JN(a c:Int):∀ (N:Nat) (x:O),cv x<N->aL x=true->Rk (bU a c x)
 | 0,x,h,_=>by omega
 | N+1,x,hN,h=>by
  have z1:Rk (O.mk 1 0 [],true):=⟨λ _=>Fu,λ _=>by decide⟩
  have zf:∀ y,Rk (y,false):=λ y=>⟨nofun,nofun⟩
  by_cases h4:x.ah=4
  .by_cases e:x.bc=c
   .rw[Yy a c x h4 e];exact⟨λ _=>O5,λ _=>by decide⟩
   .rw[Yx a c x h4 e];exact z1
  by_cases h6:x.ah=6
  .have g:=gM x h (.inl h6)
   have p:=JN a c N (x.V.getD 0 zE) (by have:=g.l0;omega) g.g0
   have q:=JN a c N (x.V.getD 1 zE) (by have:=g.l1;omega) g.g1
   rcases a6j (bU a c (x.V.getD 0 zE)).2 with e|e
   .rcases a6j (bU a c (x.V.getD 1 zE)).2 with e'|e'
    .rw[Yz a c x h6 g e e',Vk a c x h6];exact LR _ (jU _ _ 6 (p.g e) (q.g e') (.inl rfl))
    .rw[QZ a c x h6 g (.inr e')];exact zf _
   .rw[QZ a c x h6 g (.inl e)];exact zf _
  by_cases h7:x.ah=7
  .have g:=gM x h (.inr h7)
   have p:=JN a c N (x.V.getD 0 zE) (by have:=g.l0;omega) g.g0
   have q:=JN a c N (x.V.getD 1 zE) (by have:=g.l1;omega) g.g1
   rcases a6j (bU a c (x.V.getD 0 zE)).2 with e|e
   .have b:=jU _ _ 7 (p.g e) g.g1 (.inr rfl)
    rcases a6j (iQ a (x.V.getD 0 zE)) with m|m
    .rcases a6j (bU a c (x.V.getD 1 zE)).2 with e'|e'
     .rw[Q0 a c x h7 g e (.inr e'),QU a c x h7 m];exact LR _ (jU _ _ 6 b (q.g e') (.inl rfl))
     .rw[YC a c x h7 g e m e'];exact zf _
    .rw[Q0 a c x h7 g e (.inl m),QT a c x h7 m];exact LR _ b
   .rw[YB a c x h7 g e];exact zf _
  by_cases h8:x.ah=8
  .have g:=yc x h (.inr h8)
   have p:=JN a c N (x.V.getD 0 zE) (by have:=g.l0;omega) g.g0
   rcases a6j (bU a c (x.V.getD 0 zE)).2 with e|e
   .rw[YE a c x h8 g e,Vl a c x h8];exact LR _ (jU _ _ 7 (p.g e) h (.inr rfl))
   .rw[YD a c x h8 g e];exact zf _
  .rw[a1e a c x h4 h6 h7 h8];exact z1
theorem Wp(a c:Int)(x:O)(h:aL x=true):Rk (bU a c x):=JN a c _ x (a6c _) h
theorem a2F(a c:Int)(x:O)(hg:aL x=true)(hn:ar x<=1000)(h:x.ah=6)(e:(bU a c (x.V.getD 0 zE)).2=true)(e':(bU a c (x.V.getD 1 zE)).2=true):EO a c x:=by
 have g:=gM x hg (.inl h)
 have p:=Wp a c _ g.g0
 have q:=Wp a c _ g.g1
 refine⟨Yz a c x h g e e',?_,?_⟩
 .rw[Vk a c x h];exact jU _ _ 6 (p.g e) (q.g e') (.inl rfl)
 .rw[Vk a c x h,nI];have:=p.n e;have:=q.n e';omega
theorem Yw(a c:Int)(x:O)(hg:aL x=true)(hn:ar x<=1000)(h:x.ah=7)(e:(bU a c (x.V.getD 0 zE)).2=true)(m:iQ a (x.V.getD 0 zE)=false\/(iQ a (x.V.getD 0 zE)=true/\(bU a c (x.V.getD 1 zE)).2=true)):EO a c x:=by
 have g:=gM x hg (.inr h)
 have p:=Wp a c _ g.g0
 have q:=Wp a c _ g.g1
 have b:=jU _ _ 7 (p.g e) g.g1 (.inr rfl)
 have nd:=g.nd
 have n0:=p.n e
 rcases m with m|⟨m,e'⟩
 .refine⟨Q0 a c x h g e (.inl m),?_,?_⟩
  .rw[QT a c x h m];exact b
  .rw[QT a c x h m,nI];omega
 .refine⟨Q0 a c x h g e (.inr e'),?_,?_⟩
  .rw[QU a c x h m];exact jU _ _ 6 b (q.g e') (.inl rfl)
  .rw[QU a c x h m,nI,nI];have:=q.n e';omega
theorem a2G(a c:Int)(x:O)(hg:aL x=true)(hn:ar x<=1000)(h:x.ah=8)(e:(bU a c (x.V.getD 0 zE)).2=true):EO a c x:=by
 have g:=yc x hg (.inr h)
 have p:=Wp a c _ g.g0
 refine⟨YE a c x h g e,?_,?_⟩
 .rw[Vl a c x h];exact jU _ _ 7 (p.g e) hg (.inr rfl)
 .rw[Vl a c x h,nI];have:=p.n e;omega
theorem a2I(a c:Int)(x:O)(j:EO a c x)(h:800<ar (ep a c x)):bU a c x=(ep a c x,false):=by rw[j.e,H9,a5T h]
theorem a2H(a c:Int)(x:O)(j:EO a c x)(h:¬ 800<ar (ep a c x)):bU a c x=(j0 (ep a c x),true):=by rw[j.e,H9,a5J h]
def ll(n:Nat):bb:=⟨pD,[.r (.st .expr), .v (.int .i64), .v (.int .i64)],λ (x:O) (atom:Int) (act:Int)=>⟨(some (cv x<n/\aL x=true/\ar x<=1000/\0<=atom/\atom<=4096),[⟨(.st .expr),(bU atom act x).1⟩,⟨.bool,(bU atom act x).2⟩])⟩⟩
def pw:bb:=⟨pD,[.r (.st .expr), .v (.int .i64), .v (.int .i64)],λ (x:O) (atom:Int) (act:Int)=>⟨(some (aL x=true/\ar x<=1000/\0<=atom/\atom<=4096),[⟨(.st .expr),(bU atom act x).1⟩,⟨.bool,(bU atom act x).2⟩])⟩⟩
def AH(x:O)(atom:Int)(act:Int):Nat->aX:=(λ zb=>if Nat.beq zb 100029 then .mk (Unit) (λ u=>EO atom act x) (λ u=>0) [] [0,1,2,3,4,5,9,10,11,12,13,14,15,16,17,18,19,20,21,22,23,24,25,26,27,28,29,30,31,32,33,34,35,36,37,38,39,40,41,42,43,44,45,46,47,48,49,50,51,52,53,54,55,56,57,58,59,60,61,62,63,64,65,66,67,68,69,70,71,72,73,74,75,76,77,78,79,80,81,82,83,84,85,86,87,88,89,90,91,92,93,94,95,96,97,98,99,100,101,102,103,104,105,106,107,108,109,110,111,112,113,114,115,116,117,118,119,120,121,122,123,124,125,126,127,128,129,130,131,132,133,134,135,136,137] (λ u=>[]) [6,7,138,139,140,141] (λ u=>[(8, .box [.aS ⟨(.int .i64),((ep atom act x).ah:Int)⟩, .aS ⟨(.int .i64),((ep atom act x).bc:Int)⟩, .aS ⟨(.slice (.st .expr)),((ep atom act x).V:List O)⟩])]) [] [] (λ u=>λ _ => .none) else .none)
abbrev wL(x:O)(atom:Int)(act:Int):Prop:=(∃ u1:Unit,(EO atom act x/\((True/\(True/\True))/\(((O.mk (6:Int) 0 [(aC ((bU atom act (x.V.getD 0 zE)).1)),(aC ((bU atom act (x.V.getD 1 zE)).1))]).ah=((ep atom act x).ah)/\((O.mk (6:Int) 0 [(aC ((bU atom act (x.V.getD 0 zE)).1)),(aC ((bU atom act (x.V.getD 1 zE)).1))]).bc=((ep atom act x).bc)/\((O.mk (6:Int) 0 [(aC ((bU atom act (x.V.getD 0 zE)).1)),(aC ((bU atom act (x.V.getD 1 zE)).1))]).V=((ep atom act x).V)/\True)))/\(((0:Int)=(0:Int)/\((0:Int)=(0:Int)/\(True/\True)))/\True)))))
abbrev wM(x:O)(atom:Int)(act:Int):Prop:=((!((bU atom act (x.V.getD 0 zE)).2))=true ->
 ((aC (O.mk 1 0 []))=((bU atom act x).1)/\false=((bU atom act x).2)))
theorem J6(n:Nat)(x:O)(atom:Int)(act:Int):cU (bo [ll n,fg,gj,ff,fT,ph,px]) (aF jn) (AH x atom act) 0 (bC (bo [ll n,fg,gj,ff,fT,ph,px]) jn λ r=>bH r [⟨(.st .expr),(bU atom act x).1⟩,⟨.bool,(bU atom act x).2⟩]) (aO jn [.ref ⟨(.st .expr),x⟩, .val ⟨(.int .i64),atom⟩, .val ⟨(.int .i64),act⟩]) =
 (((ag x.ah ->
 (((decide (x.ah=(4:Int)))=true ->
 (ag x.bc ->
 (((decide (x.bc=act))=true ->
 ((aC (O.mk 2 0 []))=((bU atom act x).1)/\true=((bU atom act x).2)))/\((decide (x.bc=act))=false ->
 ((aC (O.mk 1 0 []))=((bU atom act x).1)/\true=((bU atom act x).2))))))/\((decide (x.ah=(4:Int)))=false ->
 (((decide (x.ah=(6:Int)))=true ->
 (x.V.length<=140737488355328 ->
 (aV (0:Int) x.V.length/\((cv (x.V.getD 0 zE)<n/\aL (x.V.getD 0 zE)=true/\ar (x.V.getD 0 zE)<=1000/\0<=atom/\atom<=4096)/\(x.V.length<=140737488355328 ->
 (aV (1:Int) x.V.length/\((cv (x.V.getD 1 zE)<n/\aL (x.V.getD 1 zE)=true/\ar (x.V.getD 1 zE)<=1000/\0<=atom/\atom<=4096)/\(((!((bU atom act (x.V.getD 0 zE)).2))=false ->
 (((!((bU atom act (x.V.getD 1 zE)).2))=true ->
 ((aC (O.mk 1 0 []))=((bU atom act x).1)/\false=((bU atom act x).2)))/\((!((bU atom act (x.V.getD 1 zE)).2))=false ->
 (wL x atom act))))/\((!((bU atom act (x.V.getD 0 zE)).2))=(!false) ->
 ((true=true ->
 ((aC (O.mk 1 0 []))=((bU atom act x).1)/\false=((bU atom act x).2)))/\(true=false ->
 (wL x atom act))))))))))))/\((decide (x.ah=(6:Int)))=false ->
 (((decide (x.ah=(7:Int)))=true ->
 (x.V.length<=140737488355328 ->
 (aV (0:Int) x.V.length/\((cv (x.V.getD 0 zE)<n/\aL (x.V.getD 0 zE)=true/\ar (x.V.getD 0 zE)<=1000/\0<=atom/\atom<=4096)/\((wM x atom act)/\((!((bU atom act (x.V.getD 0 zE)).2))=false ->
 (aV (1:Int) x.V.length/\(x.V.length<=140737488355328 ->
 (x.V.length<=140737488355328 ->
 (aV (0:Int) x.V.length/\((aL (x.V.getD 0 zE)=true/\0<=atom/\atom<=4096)/\(((iQ atom (x.V.getD 0 zE))=true ->
 (x.V.length<=140737488355328 ->
 (aV (1:Int) x.V.length/\((cv (x.V.getD 1 zE)<n/\aL (x.V.getD 1 zE)=true/\ar (x.V.getD 1 zE)<=1000/\0<=atom/\atom<=4096)/\(((!((bU atom act (x.V.getD 1 zE)).2))=true ->
 ((aC (O.mk (7:Int) 0 [(aC ((bU atom act (x.V.getD 0 zE)).1)),(x.V.getD 1 zE)]))=((bU atom act x).1)/\false=((bU atom act x).2)))/\((!((bU atom act (x.V.getD 1 zE)).2))=false ->
 (∃ u1:Unit,(EO atom act x/\((True/\(True/\True))/\(((O.mk (6:Int) 0 [(aC (O.mk (7:Int) 0 [(aC ((bU atom act (x.V.getD 0 zE)).1)),(x.V.getD 1 zE)])),(aC ((bU atom act (x.V.getD 1 zE)).1))]).ah=((ep atom act x).ah)/\((O.mk (6:Int) 0 [(aC (O.mk (7:Int) 0 [(aC ((bU atom act (x.V.getD 0 zE)).1)),(x.V.getD 1 zE)])),(aC ((bU atom act (x.V.getD 1 zE)).1))]).bc=((ep atom act x).bc)/\((O.mk (6:Int) 0 [(aC (O.mk (7:Int) 0 [(aC ((bU atom act (x.V.getD 0 zE)).1)),(x.V.getD 1 zE)])),(aC ((bU atom act (x.V.getD 1 zE)).1))]).V=((ep atom act x).V)/\True)))/\(((0:Int)=(0:Int)/\((0:Int)=(0:Int)/\(True/\True)))/\True)))))))))))/\((iQ atom (x.V.getD 0 zE))=false ->
 (∃ u1:Unit,(EO atom act x/\((True/\(True/\True))/\(((O.mk (7:Int) 0 [(aC ((bU atom act (x.V.getD 0 zE)).1)),(x.V.getD 1 zE)]).ah=((ep atom act x).ah)/\((O.mk (7:Int) 0 [(aC ((bU atom act (x.V.getD 0 zE)).1)),(x.V.getD 1 zE)]).bc=((ep atom act x).bc)/\((O.mk (7:Int) 0 [(aC ((bU atom act (x.V.getD 0 zE)).1)),(x.V.getD 1 zE)]).V=((ep atom act x).V)/\True)))/\(((0:Int)=(0:Int)/\((0:Int)=(0:Int)/\(True/\True)))/\True))))))))))))))))))/\((decide (x.ah=(7:Int)))=false ->
 (((decide (x.ah=(8:Int)))=true ->
 (x.V.length<=140737488355328 ->
 (aV (0:Int) x.V.length/\((cv (x.V.getD 0 zE)<n/\aL (x.V.getD 0 zE)=true/\ar (x.V.getD 0 zE)<=1000/\0<=atom/\atom<=4096)/\((wM x atom act)/\((!((bU atom act (x.V.getD 0 zE)).2))=false ->
 (∃ u1:Unit,(EO atom act x/\((True/\(True/\True))/\(((O.mk (7:Int) 0 [(aC ((bU atom act (x.V.getD 0 zE)).1)),x]).ah=((ep atom act x).ah)/\((O.mk (7:Int) 0 [(aC ((bU atom act (x.V.getD 0 zE)).1)),x]).bc=((ep atom act x).bc)/\((O.mk (7:Int) 0 [(aC ((bU atom act (x.V.getD 0 zE)).1)),x]).V=((ep atom act x).V)/\True)))/\(((0:Int)=(0:Int)/\((0:Int)=(0:Int)/\(True/\True)))/\True)))))))))))/\((decide (x.ah=(8:Int)))=false ->
 ((aC (O.mk 1 0 []))=((bU atom act x).1)/\true=((bU atom act x).2)))))))))))/\(∀ u1:Unit,(EO atom act x ->
 (ar (O.mk ((ep atom act x).ah) ((ep atom act x).bc) ((ep atom act x).V))<=1048576/\(ag ((ar (O.mk ((ep atom act x).ah) ((ep atom act x).bc) ((ep atom act x).V)):Int)) ->
 (((decide ((800:Int)<((ar (O.mk ((ep atom act x).ah) ((ep atom act x).bc) ((ep atom act x).V)):Int))))=true ->
 ((O.mk ((ep atom act x).ah) ((ep atom act x).bc) ((ep atom act x).V))=((bU atom act x).1)/\false=((bU atom act x).2)))/\((decide ((800:Int)<((ar (O.mk ((ep atom act x).ah) ((ep atom act x).bc) ((ep atom act x).V)):Int))))=false ->
 ((aL (O.mk ((ep atom act x).ah) ((ep atom act x).bc) ((ep atom act x).V))=true/\ar (O.mk ((ep atom act x).ah) ((ep atom act x).bc) ((ep atom act x).V))<=3000)/\((aC (j0 (O.mk ((ep atom act x).ah) ((ep atom act x).bc) ((ep atom act x).V))))=((bU atom act x).1)/\true=((bU atom act x).2))))))))))):=by kernel_rfl
theorem JD(n:Nat)(hE:aQ [ll n,fg,gj,ff,fT,ph,px]):bb.Good (ll (n+1)):=by
 refine⟨aG nY rfl (by decide),?_⟩
 show ∀ (x:O) (atom:Int) (act:Int),(cv x<n+1/\aL x=true/\ar x<=1000/\0<=atom/\atom<=4096)->bD prog pD [.ref ⟨(.st .expr),x⟩, .val ⟨(.int .i64),atom⟩, .val ⟨(.int .i64),act⟩] (·=[⟨(.st .expr),(bU atom act x).1⟩,⟨.bool,(bU atom act x).2⟩])
 intro x atom act hp
 refine bu (wr:=[]) (cl:=[]) (ro:=[]) hE nY E6 (AH x atom act) ?_
 rewrite [J6 n x atom act]
 obtain⟨hm,hg,hn,h0,h1⟩:=hp
 refine⟨λ a0=>⟨λ a1=>λ a2=>⟨λ a3=>⟨?_,?_⟩,λ a3=>⟨?_,?_⟩⟩,λ a1=>⟨λ a2=>λ a3=>⟨?_,⟨?_,λ a4=>⟨?_,⟨?_,⟨λ a5=>⟨λ a6=>⟨?_,?_⟩,λ a6=>⟨(),⟨?_,⟨⟨trivial,⟨trivial,trivial⟩⟩,⟨⟨?_,⟨?_,⟨?_,trivial⟩⟩⟩,⟨⟨rfl,⟨rfl,⟨trivial,trivial⟩⟩⟩,trivial⟩⟩⟩⟩⟩⟩,λ a5=>⟨λ a6=>⟨?_,?_⟩,λ a6=>⟨(),⟨?_,⟨⟨trivial,⟨trivial,trivial⟩⟩,⟨⟨?_,⟨?_,⟨?_,trivial⟩⟩⟩,⟨⟨rfl,⟨rfl,⟨trivial,trivial⟩⟩⟩,trivial⟩⟩⟩⟩⟩⟩⟩⟩⟩⟩⟩,λ a2=>⟨λ a3=>λ a4=>⟨?_,⟨?_,⟨λ a5=>⟨?_,?_⟩,λ a5=>⟨?_,λ a6=>λ a7=>⟨?_,⟨?_,⟨λ a8=>λ a9=>⟨?_,⟨?_,⟨λ dt=>⟨?_,?_⟩,λ dt=>⟨(),⟨?_,⟨⟨trivial,⟨trivial,trivial⟩⟩,⟨⟨?_,⟨?_,⟨?_,trivial⟩⟩⟩,⟨⟨rfl,⟨rfl,⟨trivial,trivial⟩⟩⟩,trivial⟩⟩⟩⟩⟩⟩⟩⟩,λ a8=>⟨(),⟨?_,⟨⟨trivial,⟨trivial,trivial⟩⟩,⟨⟨?_,⟨?_,⟨?_,trivial⟩⟩⟩,⟨⟨rfl,⟨rfl,⟨trivial,trivial⟩⟩⟩,trivial⟩⟩⟩⟩⟩⟩⟩⟩⟩⟩⟩⟩,λ a3=>⟨λ a4=>λ a5=>⟨?_,⟨?_,⟨λ a6=>⟨?_,?_⟩,λ a6=>⟨(),⟨?_,⟨⟨trivial,⟨trivial,trivial⟩⟩,⟨⟨?_,⟨?_,⟨?_,trivial⟩⟩⟩,⟨⟨rfl,⟨rfl,⟨trivial,trivial⟩⟩⟩,trivial⟩⟩⟩⟩⟩⟩⟩⟩,λ a4=>⟨?_,?_⟩⟩⟩⟩⟩,λ u1=>λ a0=>⟨?_,λ a1=>⟨λ a2=>⟨?_,?_⟩,λ a2=>⟨?_,⟨?_,?_⟩⟩⟩⟩⟩
 all_goals try and_intros
 all_goals try simp only[O.eta,bE] at *
 all_goals (try simp only[a5Z,a6g,a6k,a7m,a5M,a5N,aV,O.eta] at *);first|rfl|trivial|omega|with_reducible assumption|(rw[Yy atom act x (by omega) (by omega)]<;>rfl)|(rw[Yx atom act x (by omega) (by omega)]<;>rfl)|(rw[a1e atom act x (by omega) (by omega) (by omega) (by omega)]<;>rfl)|exact a2F atom act x hg hn (by omega) (by with_reducible assumption) (by with_reducible assumption)|exact Yw atom act x hg hn (by omega) (by with_reducible assumption) (.inl (by with_reducible assumption))|exact Yw atom act x hg hn (by omega) (by with_reducible assumption) (.inr ⟨(by with_reducible assumption),(by with_reducible assumption)⟩)|exact a2G atom act x hg hn (by omega) (by with_reducible assumption)|(rw[a2I atom act x (by with_reducible assumption) (by omega)]<;>rfl)|(rw[a2H atom act x (by with_reducible assumption) (by omega)]<;>rfl)|exact EO.g (by with_reducible assumption)|exact EO.n (by with_reducible assumption)|(have q:=EO.n (show EO atom act x by assumption);omega)|(have g:=gM x hg (by omega);first|(have:=g.len;omega)|exact g.g0|exact g.g1|(have:=g.l0;omega)|(have:=g.l1;omega)|(have:=g.nd;omega)|(rw[QZ atom act x (by omega) g (.inl (by with_reducible assumption))]<;>rfl)|(rw[QZ atom act x (by omega) g (.inr (by with_reducible assumption))]<;>rfl)|(rw[YB atom act x (by omega) g (by with_reducible assumption)]<;>rfl)|(rw[YC atom act x (by omega) g (by with_reducible assumption) (by with_reducible assumption) (by with_reducible assumption)]<;>rfl)|(rw[Vk atom act x (by omega)]<;>rfl)|(rw[QU atom act x (by omega) (by with_reducible assumption)]<;>rfl)|(rw[QT atom act x (by omega) (by with_reducible assumption)]<;>rfl))|(have g:=yc x hg (by omega);first|(have:=g.len;omega)|exact g.g0|(have:=g.l0;omega)|(have:=g.nd;omega)|(rw[YD atom act x (by omega) g (by with_reducible assumption)]<;>rfl)|(rw[Vl atom act x (by omega)]<;>rfl))
theorem ON :∀ n,aQ [ll n]
 | 0=>⟨⟨aG nY rfl (by decide),λ _ _ _ h=>absurd h.1 (a6D _)⟩,trivial⟩
 | n+1=>by
  have ih:=ON  n
  exact⟨JD n ⟨ih.1,pK,wz,pJ,uh,Fl,Fs,trivial⟩,trivial⟩
theorem Fq :bb.Good pw :=
 ⟨aG nY rfl (by decide),λ x atom act hp=>(ON  (cv x+1)).1.2 x atom act (⟨a6c _,hp⟩)⟩
end
end Go.Proofs.YtnehkikdlnmebaaGreatDoor

set_option maxRecDepth 4000
set_option maxHeartbeats 4000000
namespace Go.Proofs.YtnehkikdlnmebaaGreatDoor
noncomputable section
def Q8(J:List Int)(gg:aD)(a:Int)(s:Sr):Nat->Int×Sr
 | 0=>(a,s)
 | j+1=>(pk J (aI J (Q8 J gg a s j).2 (qu gg)) (aP gg),aI J (aI J (Q8 J gg a s j).2 (qu gg)) (aP gg))
structure Tr where
 at_:Int
 s:Sr
 ac:Int
 hit:Bool
def KX(gg:aD)(now:O)(k a:Int):Prop:=(k=0/\iQ a now=true)\/gg.ai=0
def Ou(J:List Int)(gg:aD)(now:O)(k a:Int)(s:Sr):Prop:=0<k/\(bU a (pk J s (qu gg)) now).2=true/\¬ (bU a (pk J s (qu gg)) now).1.ah=1
open Classical in
noncomputable def Im(J:List Int)(gg:aD)(now:O)(k:Int):Nat->Int->Sr->Tr
 | 0,a,s=>⟨a,s,0,false⟩
 | f+1,a,s=>if KX gg now k a then ⟨a,aI J s (qu gg),pk J s (qu gg),false⟩ else
  if Ou J gg now k a s then ⟨a,aI J s (qu gg),pk J s (qu gg),true⟩ else
  Im J gg now k f (pk J (aI J s (qu gg)) (aP gg)) (aI J (aI J s (qu gg)) (aP gg))
structure Ft where
 az:List Int
 aA:List Int
 now:O
 s:Sr
noncomputable def Bk(J:List Int)(gg:aD)(k:Int)(r:Ft):Tr:=Im J gg r.now k 12 (pk J r.s (aP gg)) (aI J r.s (aP gg))
noncomputable def QM(r:Ft)(T:Tr):Ft:=if T.hit=true then ⟨r.az++[T.at_],r.aA++[T.ac],(bU T.at_ T.ac r.now).1,T.s⟩ else ⟨r.az,r.aA,r.now,T.s⟩
def Ym(k a:Int)(q:Ft):Ft:=if k=0 then ⟨q.az++[a],q.aA,q.now,q.s⟩ else q
noncomputable def K2(J:List Int)(gg:aD)(e:O)(K:Int)(s:Sr):Nat->Ft
 | 0=>⟨[],[],e,s⟩
 | i+1=>Ym (K - (i:Int)) (Bk J gg (K - (i:Int)) (K2 J gg e K s i)).at_ (QM (K2 J gg e K s i) (Bk J gg (K - (i:Int)) (K2 J gg e K s i)))
theorem a1l(J:List Int)(gg:aD)(now:O)(k:Int)(f:Nat)(a:Int)(s:Sr)(h:KX gg now k a):Im J gg now k (f+1) a s=⟨a,aI J s (qu gg),pk J s (qu gg),false⟩:=by rw[Im,a5T h]
theorem a1m(J:List Int)(gg:aD)(now:O)(k:Int)(f:Nat)(a:Int)(s:Sr)(h:¬ KX gg now k a)(h2:Ou J gg now k a s):Im J gg now k (f+1) a s=⟨a,aI J s (qu gg),pk J s (qu gg),true⟩:=by rw[Im,a5J h,a5T h2]
theorem a1n(J:List Int)(gg:aD)(now:O)(k:Int)(f:Nat)(a:Int)(s:Sr)(h:¬ KX gg now k a)(h2:¬ Ou J gg now k a s):Im J gg now k (f+1) a s=Im J gg now k f (pk J (aI J s (qu gg)) (aP gg)) (aI J (aI J s (qu gg)) (aP gg)):=by rw[Im,a5J h,a5J h2]
def Y5(a:Int):Prop:=0<=a/\a<=7
theorem QK(J:List Int)(gg:aD)(s:Sr)(m:Int)(hg:aY gg=true)(h:bz J s m):Y5 (pk J s (aP gg)):=by
 have:=h.pk (aP gg)
 have:=tw gg hg
 unfold Y5;omega
structure TrI(J:List Int)(gg:aD)(a:Int)(s:Sr)(m:Int)(j:Nat):Prop where
 ra:0<=(Q8 J gg a s j).1/\(Q8 J gg a s j).1<=7
 sr:bz J (Q8 J gg a s j).2 (m+4 * j)
theorem Vw(J:List Int)(gg:aD)(a:Int)(s:Sr)(m:Int)(hg:aY gg=true)(ha:Y5 a)(h:bz J s m):∀ j,TrI J gg a s m j
 | 0=>⟨ha,h.mono (by omega)⟩
 | j+1=>by
  have r:=Vw J gg a s m hg ha h j
  have q:=r.sr.next (qu gg)
  exact⟨QK J gg _ _ hg q,(q.next _).mono (by omega)⟩
structure TrO(J:List Int)(now:O)(m:Int)(T:Tr):Prop where
 a:0<=T.at_/\T.at_<=7
 sr:bz J T.s m
 hit:T.hit=true->(bU T.at_ T.ac now).2=true
theorem Vv(J:List Int)(gg:aD)(now:O)(k:Int)(hg:aY gg=true):∀ (f:Nat) (a:Int) (s:Sr) (m:Int),Y5 a->bz J s m->TrO J now (m+4 * f) (Im J gg now k f a s)
 | 0,a,s,m,ha,h=>⟨ha,h.mono (by omega),nofun⟩
 | f+1,a,s,m,ha,h=>by
  have q:=h.next (qu gg)
  by_cases c1:KX gg now k a
  .rw[a1l _ _ _ _ _ _ _ c1];exact⟨ha,q.mono (by omega),nofun⟩
  by_cases c2:Ou J gg now k a s
  .rw[a1m _ _ _ _ _ _ _ c1 c2];exact⟨ha,q.mono (by omega),λ _=>c2.2.1⟩
  .rw[a1n _ _ _ _ _ _ _ c1 c2]
   have r:=Vv J gg now k hg f _ _ _ (QK J gg _ _ hg q) (q.next (aP gg))
   exact⟨r.a,r.sr.mono (by omega),r.hit⟩
structure FtI(J:List Int)(r:Ft)(m:Int)(i:Nat):Prop where
 g:aL r.now=true
 n:ar r.now<=800
 sr:bz J r.s m
 a:r.az.length<=i+1
 x:r.aA.length<=i
theorem Z8(J:List Int)(gg:aD)(k:Int)(r:Ft)(m:Int)(i:Nat)(hg:aY gg=true)(h:FtI J r m i)(ha:r.az.length<=i):FtI J (QM r (Bk J gg k r)) (m+60) (i+1)/\(QM r (Bk J gg k r)).az.length<=i+1/\TrO J r.now (m+60) (Bk J gg k r):=by
 have t:TrO J r.now (m+2+4 * (12:Nat)) (Bk J gg k r):=Vv J gg r.now k hg 12 _ _ _ (QK J gg _ _ hg h.sr) (h.sr.next (aP gg))
 have tx:=t.sr.mono (k:=m+60) (by omega)
 unfold QM
 have hx:=h.x
 split
 .rename_i e
  have p:=Wp (Bk J gg k r).at_ (Bk J gg k r).ac r.now h.g
  exact⟨⟨p.g (t.hit e),p.n (t.hit e),tx,by simp;omega,by simp;omega⟩,by simp;omega,t.a,tx,t.hit⟩
 .exact⟨⟨h.g,h.n,tx,by show r.az.length<=_;omega,by show r.aA.length<=_;omega⟩,by show r.az.length<=_;omega,t.a,tx,t.hit⟩
theorem UX(J:List Int)(gg:aD)(e:O)(K:Int)(s:Sr)(m:Int)(hg:aY gg=true)(he:aL e=true)(hn:ar e<=800)(h:bz J s m):∀ i:Nat,(i:Int)<=K+1->FtI J (K2 J gg e K s i) (m+60 * i) i/\((i:Int)<=K->(K2 J gg e K s i).az.length<=i)
 | 0,_=>⟨⟨he,hn,h.mono (by omega),by simp[K2],by simp[K2]⟩,λ _=>by simp[K2]⟩
 | i+1,hi=>by
  obtain⟨r,ra⟩:=UX J gg e K s m hg he hn h i (by omega)
  obtain⟨q,qa,t⟩:=Z8 J gg (K - (i:Int)) _ _ i hg r (ra (by omega))
  have hs:=q.sr.mono (k:=m+60 * ((i+1:Nat):Int)) (by omega)
  unfold K2 Ym
  split
  .refine⟨⟨q.g,q.n,hs,?_,q.x⟩,λ h=>by omega⟩
   rw[a5U];simp only[a5O,a6a];omega
  .exact⟨⟨q.g,q.n,hs,q.a,q.x⟩,λ _=>qa⟩
structure L0(J:List Int)(gg:aD)(k:Int)(r:Ft)(j:Nat):Prop where
 le:j<=12
 eq:Im J gg r.now k (12 - j) (Q8 J gg (pk J r.s (aP gg)) (aI J r.s (aP gg)) j).1 (Q8 J gg (pk J r.s (aP gg)) (aI J r.s (aP gg)) j).2=Bk J gg k r
theorem a2O(J:List Int)(gg:aD)(k:Int)(r:Ft):L0 J gg k r 0:=⟨by omega,rfl⟩
def tA(J:List Int)(gg:aD)(r:Ft)(j:Nat):Int:=(Q8 J gg (pk J r.s (aP gg)) (aI J r.s (aP gg)) j).1
def tS(J:List Int)(gg:aD)(r:Ft)(j:Nat):Sr:=(Q8 J gg (pk J r.s (aP gg)) (aI J r.s (aP gg)) j).2
theorem W6(J:List Int)(gg:aD)(k:Int)(r:Ft)(j:Nat)(h:L0 J gg k r j)(hj:¬ (j:Int)<12):Bk J gg k r=⟨tA J gg r j,tS J gg r j,0,false⟩:=by
 have h1:=h.le
 have e:j=12:=by omega
 subst e
 exact h.eq.symm
theorem W5(J:List Int)(gg:aD)(k:Int)(r:Ft)(j:Nat)(h:L0 J gg k r j)(hj:(j:Int)<12)(hb:KX gg r.now k (tA J gg r j)):Bk J gg k r=⟨tA J gg r j,aI J (tS J gg r j) (qu gg),pk J (tS J gg r j) (qu gg),false⟩:=by
 have e:Im J gg r.now k (12 - j) (tA J gg r j) (tS J gg r j)=Bk J gg k r:=h.eq
 rw[show 12 - j=(11 - j)+1 by omega,a1l _ _ _ _ _ _ _ hb] at e
 exact e.symm
theorem W7(J:List Int)(gg:aD)(k:Int)(r:Ft)(j:Nat)(h:L0 J gg k r j)(hj:(j:Int)<12)(hb:¬ KX gg r.now k (tA J gg r j))(hh:Ou J gg r.now k (tA J gg r j) (tS J gg r j)):Bk J gg k r=⟨tA J gg r j,aI J (tS J gg r j) (qu gg),pk J (tS J gg r j) (qu gg),true⟩:=by
 have e:Im J gg r.now k (12 - j) (tA J gg r j) (tS J gg r j)=Bk J gg k r:=h.eq
 rw[show 12 - j=(11 - j)+1 by omega,a1m _ _ _ _ _ _ _ hb hh] at e
 exact e.symm
theorem W8(J:List Int)(gg:aD)(k:Int)(r:Ft)(j:Nat)(h:L0 J gg k r j)(hj:(j:Int)<12)(hb:¬ KX gg r.now k (tA J gg r j))(hh:¬ Ou J gg r.now k (tA J gg r j) (tS J gg r j)):L0 J gg k r (j+1):=by
 have e:Im J gg r.now k (12 - j) (tA J gg r j) (tS J gg r j)=Bk J gg k r:=h.eq
 rw[show 12 - j=(12 - (j+1))+1 by omega,a1n _ _ _ _ _ _ _ hb hh] at e
 exact⟨by omega,e⟩
theorem a2A(r:Ft)(a:Int)(s:Sr)(c:Int):QM r ⟨a,s,c,false⟩=⟨r.az,r.aA,r.now,s⟩:=rfl
theorem a2B(r:Ft)(a:Int)(s:Sr)(c:Int):QM r ⟨a,s,c,true⟩=⟨r.az++[a],r.aA++[c],(bU a c r.now).1,s⟩:=rfl
noncomputable def cV(J:List Int)(s:Sr):Int:=pk J (aI J s 4) 6
noncomputable def aU(J:List Int)(gg:aD)(e:O)(s:Sr)(i:Nat):Ft:=K2 J gg e (cV J s) (aI J (aI J s 4) 6) i
noncomputable def Ek(J:List Int)(gg:aD)(e:O)(s:Sr)(i:Nat):Tr:=Bk J gg (cV J s - (i:Int)) (aU J gg e s i)
noncomputable def fA(J:List Int)(gg:aD)(e:O)(s:Sr)(i:Nat):Ft:=QM (aU J gg e s i) (Ek J gg e s i)
noncomputable def ed(J:List Int)(gg:aD)(e:O)(s:Sr):Wd :=
 if eh J s 4=true then fM J gg (aI J s 4) else ⟨(aU J gg e s ((cV J s).toNat+1)).az,(aU J gg e s ((cV J s).toNat+1)).aA,(aU J gg e s ((cV J s).toNat+1)).s⟩
structure a0i(J:List Int)(gg:aD)(e:O)(s:Sr)(i:Nat):Prop where
 g:aL (aU J gg e s i).now=true
 n:ar (aU J gg e s i).now<=800
 sr:bz J (aU J gg e s i).s 860000000
 a:(aU J gg e s i).az.length<=20
 x:(aU J gg e s i).aA.length<=20
theorem a1S(J:List Int)(gg:aD)(e:O)(s:Sr)(hg:aY gg=true)(he:aL e=true)(hn:ar e<=800)(h:bz J s 850000000)(i:Nat)(hi:(i:Int)<=cV J s+1):a0i J gg e s i:=by
 have hk:=(h.next 4).pk 6
 obtain⟨r,_⟩:=UX J gg e (cV J s) _ _ hg he hn ((h.next 4).next 6) i hi
 have oj:i<=6:=by unfold cV at hi;omega
 exact⟨r.g,r.n,r.sr.mono (by omega),by have:=r.a;show (K2 _ _ _ _ _ i).az.length<=20;omega,by have:=r.x;show (K2 _ _ _ _ _ i).aA.length<=20;omega⟩
structure a2W(J:List Int)(gg:aD)(e:O)(s:Sr)(i j:Nat):Prop where
 a:0<=tA J gg (aU J gg e s i) j/\tA J gg (aU J gg e s i) j<=7
 sr:bz J (tS J gg (aU J gg e s i) j) 861000000
theorem a1T(J:List Int)(gg:aD)(e:O)(s:Sr)(i j:Nat)(hg:aY gg=true)(h:a0i J gg e s i)(hj:j<=12):a2W J gg e s i j:=by
 have r:=Vw J gg _ _ _ hg (QK J gg _ _ hg h.sr) (h.sr.next (aP gg)) j
 exact⟨r.ra,r.sr.mono (by omega)⟩
theorem W9(J:List Int)(gg:aD)(e:O)(s:Sr)(i:Nat):aU J gg e s (i+1)=Ym (cV J s - (i:Int)) (Ek J gg e s i).at_ (fA J gg e s i):=rfl
theorem a2C(k a:Int)(q:Ft)(h:k=0):Ym k a q=⟨q.az++[a],q.aA,q.now,q.s⟩:=a5T h
theorem a2D(k a:Int)(q:Ft)(h:¬ k=0):Ym k a q=q:=a5J h
theorem a1U(J:List Int)(gg:aD)(e:O)(s:Sr)(h:eh J s 4=true):ed J gg e s=fM J gg (aI J s 4):=a5T h
theorem a1R(J:List Int)(gg:aD)(e:O)(s:Sr)(i:Nat)(h:eh J s 4=false)(h0:0<=cV J s)(h1:(i:Int)<=cV J s+1)(h2:¬ 0<=cV J s - (i:Int)):ed J gg e s=⟨(aU J gg e s i).az,(aU J gg e s i).aA,(aU J gg e s i).s⟩:=by
 have:i=(cV J s).toNat+1:=by omega
 rw[ed,a5J (by rw[h];decide),this]
theorem Yl(r:Ft)(T:Tr):(QM r T).az.length<=r.az.length+1:=by
 unfold QM
 split
 .simp
 .exact a9U _
theorem a4M(J:List Int)(gg:aD)(r:Ft):tA J gg r 0=pk J r.s (aP gg):=rfl
theorem a4O(J:List Int)(gg:aD)(r:Ft):tS J gg r 0=aI J r.s (aP gg):=rfl
theorem a4N(J:List Int)(gg:aD)(r:Ft)(j:Nat):tA J gg r (j+1)=pk J (aI J (tS J gg r j) (max 1 gg.ai)) (aP gg):=rfl
theorem a4P(J:List Int)(gg:aD)(r:Ft)(j:Nat):tS J gg r (j+1)=aI J (aI J (tS J gg r j) (max 1 gg.ai)) (aP gg):=rfl
theorem a3K(J:List Int)(gg:aD)(e:O)(s:Sr):aU J gg e s 0=⟨[],[],e,aI J (aI J s 4) 6⟩:=rfl
structure a2U(J:List Int)(gg:aD)(e:O)(s:Sr)(i:Nat)(a:Int)(s':Sr):Prop where
 q:(Ek J gg e s i).at_=a
 r:fA J gg e s i=⟨(aU J gg e s i).az,(aU J gg e s i).aA,(aU J gg e s i).now,s'⟩
structure a2V(J:List Int)(gg:aD)(e:O)(s:Sr)(i:Nat)(a:Int)(s':Sr)(c:Int):Prop where
 q:(Ek J gg e s i).at_=a
 r:fA J gg e s i=⟨(aU J gg e s i).az++[a],(aU J gg e s i).aA++[c],(bU a c (aU J gg e s i).now).1,s'⟩
theorem RP(J:List Int)(gg:aD)(e:O)(s:Sr)(i:Nat)(a:Int)(s':Sr)(c:Int)(h:Bk J gg (cV J s - (i:Int)) (aU J gg e s i)=⟨a,s',c,false⟩):a2U J gg e s i a s':=by
 have h:Ek J gg e s i=⟨a,s',c,false⟩:=h
 exact⟨by rw[h],by rw[fA,h,a2A]⟩
theorem W4(J:List Int)(gg:aD)(e:O)(s:Sr)(i:Nat)(a:Int)(s':Sr)(c:Int)(h:Bk J gg (cV J s - (i:Int)) (aU J gg e s i)=⟨a,s',c,true⟩):a2V J gg e s i a s' c:=by
 have h:Ek J gg e s i=⟨a,s',c,true⟩:=h
 exact⟨by rw[h],by rw[fA,h,a2B]⟩
theorem br1{gg:aD}{now:O}{k a:Int}(h1:k=0)(h2:iQ a now=true):KX gg now k a := .inl ⟨h1,h2⟩
theorem br2{gg:aD}{now:O}{k a:Int}(h:gg.ai=0):KX gg now k a := .inr h
theorem nb1{gg:aD}{now:O}{k a:Int}(h1:¬ k=0)(h2:¬ gg.ai=0):¬ KX gg now k a:=λ q=>q.elim (λ q=>h1 q.1) h2
theorem nb2{gg:aD}{now:O}{k a:Int}(h1:iQ a now=false)(h2:¬ gg.ai=0):¬ KX gg now k a:=λ q=>q.elim (λ q=>by rw[h1] at q;exact absurd q.2 (by decide)) h2
theorem hi1{J:List Int}{gg:aD}{now:O}{k a:Int}{s:Sr}(h1:0<k)(h2:(bU a (pk J s (max 1 gg.ai)) now).2=true)(h3:¬ (bU a (pk J s (max 1 gg.ai)) now).1.ah=1):Ou J gg now k a s:=⟨h1,h2,h3⟩
theorem nh1{J:List Int}{gg:aD}{now:O}{k a:Int}{s:Sr}(h1:¬ 0<k):¬ Ou J gg now k a s:=λ q=>h1 q.1
theorem nh2{J:List Int}{gg:aD}{now:O}{k a:Int}{s:Sr}(h2:(bU a (pk J s (max 1 gg.ai)) now).2=false):¬ Ou J gg now k a s:=λ q=>by have:=q.2.1;rw[show (bU a (pk J s (qu gg)) now).2=false from h2] at this;cases this
theorem nh3{J:List Int}{gg:aD}{now:O}{k a:Int}{s:Sr}(h3:(bU a (pk J s (max 1 gg.ai)) now).1.ah=1):¬ Ou J gg now k a s:=λ q=>q.2.2 h3
def gO:fY:=⟨pR,[[.d (.slice (.int .u8)), .d (.int .i64), .d (.int .u64)]],[.b 0, .v (.st .sig), .r (.st .expr)],[[(.slice (.int .u8)),(.int .i64),(.int .u64)]],λ (gg:aD) (e:O) (J:List Int) (U:Int) (M:Int)=>⟨(some (bz J (Sr.mk U M) 850000000/\aY gg=true/\aL e=true/\ar e<=800/\jS gg e=true),[⟨(.st .word),bl.mk (ed J gg e (Sr.mk U M)).az (ed J gg e (Sr.mk U M)).aA⟩],[[⟨(.slice (.int .u8)),J⟩,⟨(.int .i64),(ed J gg e (Sr.mk U M)).s.U⟩,⟨(.int .u64),(ed J gg e (Sr.mk U M)).s.M⟩]])⟩⟩
def um(gg:aD)(e:O)(J:List Int)(U:Int)(M:Int):Nat->aX:=(λ zb=>if Nat.beq zb 0 then .mk (Nat) (λ i=>(i:Int)<=(cV J (Sr.mk U M))+1/\eh J (Sr.mk U M) 4=false) (λ i=>((cV J (Sr.mk U M))+1 - (i:Int)).toNat) [] [1,2,3,5,15,16,17,18,19,20,21,22,23,24,25,26,27,28,29,30] (λ i=>[(9, .aS ⟨(.int .i64),((cV J (Sr.mk U M)) - (i:Int):Int)⟩)]) [0,4,6,9,10,11,12,13,14,31,32,33,34,35,36,37,38,39,40,41,42,43,44,45,46,47,48,49,50,51,52,53,54,55,56,57,58,59,60,61,62,63,64,65,66,67,68,69,70,71,72,73,74,75,76,77,78,79,80,81,82,83,84,85,86,87,88,89,90,91,92,93,94,95,96,97,98,99,100] (λ i=>[(400000, .box [.aS ⟨(.slice (.int .u8)),(J:List Int)⟩, .aS ⟨(.int .i64),((aU J gg e (Sr.mk U M) i).s.U:Int)⟩, .aS ⟨(.int .u64),((aU J gg e (Sr.mk U M) i).s.M:Int)⟩]),(7, .box [.aS ⟨(.int .i64),((aU J gg e (Sr.mk U M) i).now.ah:Int)⟩, .aS ⟨(.int .i64),((aU J gg e (Sr.mk U M) i).now.bc:Int)⟩, .aS ⟨(.slice (.st .expr)),((aU J gg e (Sr.mk U M) i).now.V:List O)⟩]),(8, .box [.aB 9100, .aB 9200]),(9100, .aB (.int .i64) ((aU J gg e (Sr.mk U M) i).az:List Int)),(9200, .aB (.int .i64) ((aU J gg e (Sr.mk U M) i).aA:List Int))]) [] [] (λ i=>(λ zb=>if Nat.beq zb 2 then .mk (Nat) (λ j=>L0 J gg ((cV J (Sr.mk U M)) - (i:Int)) (aU J gg e (Sr.mk U M) i) j) (λ j=>13 - j) [] [1,2,3,5,15,16,17,18,19,20,21,22,23,24,25,26,27,28,29,30] (λ j=>[(11, .aS ⟨(.int .i64),((j:Int):Int)⟩),(10, .aS ⟨(.int .i64),(tA J gg (aU J gg e (Sr.mk U M) i) j:Int)⟩)]) [0,4,6,9,10,11,12,13,14,31,32,33,34,35,36,37,38,39,40,41,42,43,44,45,46,47,48,49,50,51,52,53,54,55,56,57,58,59,60,61,62,63,64,65,66,67,68,69,70,71,72,73,74,75,76,77,78,79,80,81,82,83,84,85,86,87,88,89,90,91,92,93,94,95,96,97,98,99,100] (λ j=>[(400000, .box [.aS ⟨(.slice (.int .u8)),(J:List Int)⟩, .aS ⟨(.int .i64),((tS J gg (aU J gg e (Sr.mk U M) i) j).U:Int)⟩, .aS ⟨(.int .u64),((tS J gg (aU J gg e (Sr.mk U M) i) j).M:Int)⟩]),(7, .box [.aS ⟨(.int .i64),((aU J gg e (Sr.mk U M) i).now.ah:Int)⟩, .aS ⟨(.int .i64),((aU J gg e (Sr.mk U M) i).now.bc:Int)⟩, .aS ⟨(.slice (.st .expr)),((aU J gg e (Sr.mk U M) i).now.V:List O)⟩]),(8, .box [.aB 9100, .aB 9200]),(9100, .aB (.int .i64) ((aU J gg e (Sr.mk U M) i).az:List Int)),(9200, .aB (.int .i64) ((aU J gg e (Sr.mk U M) i).aA:List Int))]) [] [] (λ j=>λ _ => .none) else if Nat.beq zb 100020 then .mk (Unit) (λ u=>True) (λ u=>0) [] [1,2,3,5,15,16,17,18,19,20,21,22,23,24,25,26,27,28,29,30] (λ u=>[(10, .aS ⟨(.int .i64),((Ek J gg e (Sr.mk U M) i).at_:Int)⟩)]) [0,4,6,9,10,11,12,13,14,31,32,33,34,35,36,37,38,39,40,41,42,43,44,45,46,47,48,49,50,51,52,53,54,55,56,57,58,59,60,61,62,63,64,65,66,67,68,69,70,71,72,73,74,75,76,77,78,79,80,81,82,83,84,85,86,87,88,89,90,91,92,93,94,95,96,97,98,99,100] (λ u=>[(400000, .box [.aS ⟨(.slice (.int .u8)),(J:List Int)⟩, .aS ⟨(.int .i64),((fA J gg e (Sr.mk U M) i).s.U:Int)⟩, .aS ⟨(.int .u64),((fA J gg e (Sr.mk U M) i).s.M:Int)⟩]),(7, .box [.aS ⟨(.int .i64),((fA J gg e (Sr.mk U M) i).now.ah:Int)⟩, .aS ⟨(.int .i64),((fA J gg e (Sr.mk U M) i).now.bc:Int)⟩, .aS ⟨(.slice (.st .expr)),((fA J gg e (Sr.mk U M) i).now.V:List O)⟩]),(8, .box [.aB 9100, .aB 9200]),(9100, .aB (.int .i64) ((fA J gg e (Sr.mk U M) i).az:List Int)),(9200, .aB (.int .i64) ((fA J gg e (Sr.mk U M) i).aA:List Int))]) [] [] (λ u=>λ _ => .none) else .none)) else .none)
abbrev rI(gg:aD)(e:O)(J:List Int)(U:Int)(M:Int)(i1:Nat):Prop:=((e.ah=((aU J gg e (Sr.mk U M) i1).now.ah)/\(e.bc=((aU J gg e (Sr.mk U M) i1).now.bc)/\(e.V=((aU J gg e (Sr.mk U M) i1).now.V)/\True)))/\((True/\(True/\True))/\(((aU J gg e (Sr.mk U M) i1).az)=[]/\(((aU J gg e (Sr.mk U M) i1).aA)=[]/\((True/\(True/\True))/\True)))))
abbrev mF(gg:aD)(e:O)(J:List Int)(U:Int)(M:Int)(i1:Nat):Prop:=(((cV J (Sr.mk U M)) - (i1:Int))=((cV J (Sr.mk U M)) - (i1:Int))/\((decide ((0:Int)<=((cV J (Sr.mk U M)) - (i1:Int))))=(decide ((0:Int)<=((cV J (Sr.mk U M)) - (i1:Int))))/\(True/\(gg=gg/\((aP gg)=(aP gg)/\((pk J (Sr.mk ((aU J gg e (Sr.mk U M) i1).s.U) ((aU J gg e (Sr.mk U M) i1).s.M)) (aP gg))=(pk J (Sr.mk ((aU J gg e (Sr.mk U M) i1).s.U) ((aU J gg e (Sr.mk U M) i1).s.M)) (aP gg))/\True))))))
abbrev rJ(gg:aD)(e:O)(J:List Int)(U:Int)(M:Int)(i1:Nat):Prop:=((((aU J gg e (Sr.mk U M) i1).now.ah)=((aU J gg e (Sr.mk U M) i1).now.ah)/\(((aU J gg e (Sr.mk U M) i1).now.bc)=((aU J gg e (Sr.mk U M) i1).now.bc)/\(((aU J gg e (Sr.mk U M) i1).now.V)=((aU J gg e (Sr.mk U M) i1).now.V)/\True)))/\((True/\(True/\True))/\(((aU J gg e (Sr.mk U M) i1).az)=((aU J gg e (Sr.mk U M) i1).az)/\(((aU J gg e (Sr.mk U M) i1).aA)=((aU J gg e (Sr.mk U M) i1).aA)/\((True/\(True/\True))/\True)))))
abbrev mG(gg:aD)(e:O)(J:List Int)(U:Int)(M:Int)(i1:Nat)(j2:Nat):Prop:=(True/\(gg=gg/\(True/\(True/\(True/\(((cV J (Sr.mk U M)) - (i1:Int))=((cV J (Sr.mk U M)) - (i1:Int))/\((tA J gg (aU J gg e (Sr.mk U M) i1) j2)=((Ek J gg e (Sr.mk U M) i1).at_)/\(mF gg e J U M i1))))))))
abbrev rK(gg:aD)(e:O)(J:List Int)(U:Int)(M:Int)(i1:Nat)(j2:Nat):Prop:=(J=J/\(((aI J (tS J gg (aU J gg e (Sr.mk U M) i1) j2) (max (1:Int) gg.ai)).U)=((fA J gg e (Sr.mk U M) i1).s.U)/\(((aI J (tS J gg (aU J gg e (Sr.mk U M) i1) j2) (max (1:Int) gg.ai)).M)=((fA J gg e (Sr.mk U M) i1).s.M)/\True)))
abbrev rL(gg:aD)(e:O)(J:List Int)(U:Int)(M:Int)(i1:Nat):Prop:=((((aU J gg e (Sr.mk U M) i1).now.ah)=((fA J gg e (Sr.mk U M) i1).now.ah)/\(((aU J gg e (Sr.mk U M) i1).now.bc)=((fA J gg e (Sr.mk U M) i1).now.bc)/\(((aU J gg e (Sr.mk U M) i1).now.V)=((fA J gg e (Sr.mk U M) i1).now.V)/\True)))/\((True/\(True/\True))/\(((aU J gg e (Sr.mk U M) i1).az)=((fA J gg e (Sr.mk U M) i1).az)/\(((aU J gg e (Sr.mk U M) i1).aA)=((fA J gg e (Sr.mk U M) i1).aA)/\((True/\(True/\True))/\True)))))
abbrev mH(gg:aD)(e:O)(J:List Int)(U:Int)(M:Int)(i1:Nat)(j2:Nat):Prop:=(∃ u3:Unit,(True/\((mG gg e J U M i1 j2)/\((rK gg e J U M i1 j2)/\(rL gg e J U M i1)))))
abbrev mI(gg:aD)(e:O)(J:List Int)(U:Int)(M:Int)(i1:Nat)(j2:Nat):Prop:=(cE (((aU J gg e (Sr.mk U M) i1).az).length+([(tA J gg (aU J gg e (Sr.mk U M) i1) j2)]).length) 8/\(cE (((aU J gg e (Sr.mk U M) i1).aA).length+([(pk J (tS J gg (aU J gg e (Sr.mk U M) i1) j2) (max (1:Int) gg.ai))]).length) 8/\(∃ u3:Unit,(True/\((mG gg e J U M i1 j2)/\((rK gg e J U M i1 j2)/\((((bU (tA J gg (aU J gg e (Sr.mk U M) i1) j2) (pk J (tS J gg (aU J gg e (Sr.mk U M) i1) j2) (max (1:Int) gg.ai)) (O.mk ((aU J gg e (Sr.mk U M) i1).now.ah) ((aU J gg e (Sr.mk U M) i1).now.bc) ((aU J gg e (Sr.mk U M) i1).now.V))).1).ah=((fA J gg e (Sr.mk U M) i1).now.ah)/\(((bU (tA J gg (aU J gg e (Sr.mk U M) i1) j2) (pk J (tS J gg (aU J gg e (Sr.mk U M) i1) j2) (max (1:Int) gg.ai)) (O.mk ((aU J gg e (Sr.mk U M) i1).now.ah) ((aU J gg e (Sr.mk U M) i1).now.bc) ((aU J gg e (Sr.mk U M) i1).now.V))).1).bc=((fA J gg e (Sr.mk U M) i1).now.bc)/\(((bU (tA J gg (aU J gg e (Sr.mk U M) i1) j2) (pk J (tS J gg (aU J gg e (Sr.mk U M) i1) j2) (max (1:Int) gg.ai)) (O.mk ((aU J gg e (Sr.mk U M) i1).now.ah) ((aU J gg e (Sr.mk U M) i1).now.bc) ((aU J gg e (Sr.mk U M) i1).now.V))).1).V=((fA J gg e (Sr.mk U M) i1).now.V)/\True)))/\((True/\(True/\True))/\((((aU J gg e (Sr.mk U M) i1).az)++([(tA J gg (aU J gg e (Sr.mk U M) i1) j2)]))=((fA J gg e (Sr.mk U M) i1).az)/\((((aU J gg e (Sr.mk U M) i1).aA)++([(pk J (tS J gg (aU J gg e (Sr.mk U M) i1) j2) (max (1:Int) gg.ai))]))=((fA J gg e (Sr.mk U M) i1).aA)/\((True/\(True/\True))/\True)))))))))))
abbrev mJ(gg:aD)(e:O)(J:List Int)(U:Int)(M:Int)(i1:Nat)(j2:Nat):Prop:=((0<=gg.aE/\gg.aE<=3)/\(ag (aP gg) ->
 ((bz J (aI J (tS J gg (aU J gg e (Sr.mk U M) i1) j2) (max (1:Int) gg.ai)) 999999000/\(aP gg)<=1000000)/\(ag ((j2:Int)+(1:Int))/\(∃ j3:Nat,(L0 J gg ((cV J (Sr.mk U M)) - (i1:Int)) (aU J gg e (Sr.mk U M) i1) j3/\(13 - j3<13 - j2/\((True/\(gg=gg/\(True/\(True/\(True/\(((cV J (Sr.mk U M)) - (i1:Int))=((cV J (Sr.mk U M)) - (i1:Int))/\((pk J (aI J (tS J gg (aU J gg e (Sr.mk U M) i1) j2) (max (1:Int) gg.ai)) (aP gg))=(tA J gg (aU J gg e (Sr.mk U M) i1) j3)/\(((j2:Int)+(1:Int))=(j3:Int)/\(mF gg e J U M i1)))))))))/\((J=J/\(((aI J (aI J (tS J gg (aU J gg e (Sr.mk U M) i1) j2) (max (1:Int) gg.ai)) (aP gg)).U)=((tS J gg (aU J gg e (Sr.mk U M) i1) j3).U)/\(((aI J (aI J (tS J gg (aU J gg e (Sr.mk U M) i1) j2) (max (1:Int) gg.ai)) (aP gg)).M)=((tS J gg (aU J gg e (Sr.mk U M) i1) j3).M)/\True)))/\(rJ gg e J U M i1))))))))))
abbrev rM(gg:aD)(e:O)(J:List Int)(U:Int)(M:Int)(i1:Nat)(j2:Nat):Prop:=(ag ((bU (tA J gg (aU J gg e (Sr.mk U M) i1) j2) (pk J (tS J gg (aU J gg e (Sr.mk U M) i1) j2) (max (1:Int) gg.ai)) (O.mk ((aU J gg e (Sr.mk U M) i1).now.ah) ((aU J gg e (Sr.mk U M) i1).now.bc) ((aU J gg e (Sr.mk U M) i1).now.V))).1).ah ->
 (((!(decide (((bU (tA J gg (aU J gg e (Sr.mk U M) i1) j2) (pk J (tS J gg (aU J gg e (Sr.mk U M) i1) j2) (max (1:Int) gg.ai)) (O.mk ((aU J gg e (Sr.mk U M) i1).now.ah) ((aU J gg e (Sr.mk U M) i1).now.bc) ((aU J gg e (Sr.mk U M) i1).now.V))).1).ah=(1:Int))))=true ->
 (mI gg e J U M i1 j2))/\((!(decide (((bU (tA J gg (aU J gg e (Sr.mk U M) i1) j2) (pk J (tS J gg (aU J gg e (Sr.mk U M) i1) j2) (max (1:Int) gg.ai)) (O.mk ((aU J gg e (Sr.mk U M) i1).now.ah) ((aU J gg e (Sr.mk U M) i1).now.bc) ((aU J gg e (Sr.mk U M) i1).now.V))).1).ah=(1:Int))))=false ->
 (mJ gg e J U M i1 j2))))
abbrev lQ(gg:aD)(e:O)(J:List Int)(U:Int)(M:Int)(i1:Nat)(j2:Nat):Prop:=((aL (O.mk ((aU J gg e (Sr.mk U M) i1).now.ah) ((aU J gg e (Sr.mk U M) i1).now.bc) ((aU J gg e (Sr.mk U M) i1).now.V))=true/\ar (O.mk ((aU J gg e (Sr.mk U M) i1).now.ah) ((aU J gg e (Sr.mk U M) i1).now.bc) ((aU J gg e (Sr.mk U M) i1).now.V))<=1000/\0<=(tA J gg (aU J gg e (Sr.mk U M) i1) j2)/\(tA J gg (aU J gg e (Sr.mk U M) i1) j2)<=4096)/\(((decide ((0:Int)<((cV J (Sr.mk U M)) - (i1:Int))))=true ->
 ((((bU (tA J gg (aU J gg e (Sr.mk U M) i1) j2) (pk J (tS J gg (aU J gg e (Sr.mk U M) i1) j2) (max (1:Int) gg.ai)) (O.mk ((aU J gg e (Sr.mk U M) i1).now.ah) ((aU J gg e (Sr.mk U M) i1).now.bc) ((aU J gg e (Sr.mk U M) i1).now.V))).2)=true ->
 (rM gg e J U M i1 j2))/\(((bU (tA J gg (aU J gg e (Sr.mk U M) i1) j2) (pk J (tS J gg (aU J gg e (Sr.mk U M) i1) j2) (max (1:Int) gg.ai)) (O.mk ((aU J gg e (Sr.mk U M) i1).now.ah) ((aU J gg e (Sr.mk U M) i1).now.bc) ((aU J gg e (Sr.mk U M) i1).now.V))).2)=(!true) ->
 ((false=true ->
 (mI gg e J U M i1 j2))/\(false=false ->
 (mJ gg e J U M i1 j2))))))/\((decide ((0:Int)<((cV J (Sr.mk U M)) - (i1:Int))))=(!true) ->
 ((false=true ->
 (rM gg e J U M i1 j2))/\(false=(!true) ->
 ((false=true ->
 (mI gg e J U M i1 j2))/\(false=false ->
 (mJ gg e J U M i1 j2))))))))
abbrev qQ(gg:aD)(e:O)(J:List Int)(U:Int)(M:Int)(i1:Nat)(j2:Nat):Prop:=(ag gg.ai ->
 (((decide (gg.ai=(0:Int)))=true ->
 (mH gg e J U M i1 j2))/\((decide (gg.ai=(0:Int)))=false ->
 (lQ gg e J U M i1 j2))))
abbrev qR(gg:aD)(J:List Int)(U:Int)(M:Int)(i1:Nat)(i3:Nat):Prop:=(True/\(gg=gg/\(True/\(True/\(True/\((((cV J (Sr.mk U M)) - (i1:Int)) - (1:Int))=((cV J (Sr.mk U M)) - (i3:Int))/\True))))))
abbrev qS(gg:aD)(e:O)(J:List Int)(U:Int)(M:Int)(i1:Nat)(i3:Nat):Prop:=(J=J/\(((fA J gg e (Sr.mk U M) i1).s.U)=((aU J gg e (Sr.mk U M) i3).s.U)/\(((fA J gg e (Sr.mk U M) i1).s.M)=((aU J gg e (Sr.mk U M) i3).s.M)/\True)))
abbrev qT(gg:aD)(e:O)(J:List Int)(U:Int)(M:Int)(i1:Nat)(i3:Nat):Prop:=(((fA J gg e (Sr.mk U M) i1).now.ah)=((aU J gg e (Sr.mk U M) i3).now.ah)/\(((fA J gg e (Sr.mk U M) i1).now.bc)=((aU J gg e (Sr.mk U M) i3).now.bc)/\(((fA J gg e (Sr.mk U M) i1).now.V)=((aU J gg e (Sr.mk U M) i3).now.V)/\True)))
abbrev qU(gg:aD)(e:O)(J:List Int)(U:Int)(M:Int):Prop:=(∀ i1:Nat,(((i1:Int)<=(cV J (Sr.mk U M))+1/\eh J (Sr.mk U M) 4=false) ->
 (((decide ((0:Int)<=((cV J (Sr.mk U M)) - (i1:Int))))=true ->
 ((0<=gg.aE/\gg.aE<=3)/\(ag (aP gg) ->
 ((bz J (Sr.mk ((aU J gg e (Sr.mk U M) i1).s.U) ((aU J gg e (Sr.mk U M) i1).s.M)) 999999000/\(aP gg)<=1000000)/\(((∃ j2:Nat,(L0 J gg ((cV J (Sr.mk U M)) - (i1:Int)) (aU J gg e (Sr.mk U M) i1) j2/\((True/\(gg=gg/\(True/\(True/\(True/\(((cV J (Sr.mk U M)) - (i1:Int))=((cV J (Sr.mk U M)) - (i1:Int))/\((pk J (Sr.mk ((aU J gg e (Sr.mk U M) i1).s.U) ((aU J gg e (Sr.mk U M) i1).s.M)) (aP gg))=(tA J gg (aU J gg e (Sr.mk U M) i1) j2)/\((0:Int)=(j2:Int)/\(mF gg e J U M i1)))))))))/\((J=J/\(((aI J (Sr.mk ((aU J gg e (Sr.mk U M) i1).s.U) ((aU J gg e (Sr.mk U M) i1).s.M)) (aP gg)).U)=((tS J gg (aU J gg e (Sr.mk U M) i1) j2).U)/\(((aI J (Sr.mk ((aU J gg e (Sr.mk U M) i1).s.U) ((aU J gg e (Sr.mk U M) i1).s.M)) (aP gg)).M)=((tS J gg (aU J gg e (Sr.mk U M) i1) j2).M)/\True)))/\(rJ gg e J U M i1)))))/\(∀ j2:Nat,(L0 J gg ((cV J (Sr.mk U M)) - (i1:Int)) (aU J gg e (Sr.mk U M) i1) j2 ->
 (((decide ((j2:Int)<(12:Int)))=true ->
 (ag gg.ai ->
 (ag (max (1:Int) gg.ai) ->
 ((bz J (tS J gg (aU J gg e (Sr.mk U M) i1) j2) 999999000/\(max (1:Int) gg.ai)<=1000000)/\(((decide (((cV J (Sr.mk U M)) - (i1:Int))=(0:Int)))=true ->
 ((aL (O.mk ((aU J gg e (Sr.mk U M) i1).now.ah) ((aU J gg e (Sr.mk U M) i1).now.bc) ((aU J gg e (Sr.mk U M) i1).now.V))=true/\0<=(tA J gg (aU J gg e (Sr.mk U M) i1) j2)/\(tA J gg (aU J gg e (Sr.mk U M) i1) j2)<=4096)/\(((iQ (tA J gg (aU J gg e (Sr.mk U M) i1) j2) (O.mk ((aU J gg e (Sr.mk U M) i1).now.ah) ((aU J gg e (Sr.mk U M) i1).now.bc) ((aU J gg e (Sr.mk U M) i1).now.V)))=false ->
 (qQ gg e J U M i1 j2))/\((iQ (tA J gg (aU J gg e (Sr.mk U M) i1) j2) (O.mk ((aU J gg e (Sr.mk U M) i1).now.ah) ((aU J gg e (Sr.mk U M) i1).now.bc) ((aU J gg e (Sr.mk U M) i1).now.V)))=(!false) ->
 ((true=true ->
 (mH gg e J U M i1 j2))/\(true=false ->
 (lQ gg e J U M i1 j2)))))))/\((decide (((cV J (Sr.mk U M)) - (i1:Int))=(0:Int)))=(!true) ->
 ((false=false ->
 (qQ gg e J U M i1 j2))/\(false=(!false) ->
 ((true=true ->
 (mH gg e J U M i1 j2))/\(true=false ->
 (lQ gg e J U M i1 j2)))))))))))/\((decide ((j2:Int)<(12:Int)))=false ->
 (∃ u3:Unit,(True/\((mG gg e J U M i1 j2)/\((J=J/\(((tS J gg (aU J gg e (Sr.mk U M) i1) j2).U)=((fA J gg e (Sr.mk U M) i1).s.U)/\(((tS J gg (aU J gg e (Sr.mk U M) i1) j2).M)=((fA J gg e (Sr.mk U M) i1).s.M)/\True)))/\(rL gg e J U M i1))))))))))/\(∀ u2:Unit,(True ->
 (((decide (((cV J (Sr.mk U M)) - (i1:Int))=(0:Int)))=true ->
 (cE (((fA J gg e (Sr.mk U M) i1).az).length+([((Ek J gg e (Sr.mk U M) i1).at_)]).length) 8/\(ag (((cV J (Sr.mk U M)) - (i1:Int)) - (1:Int))/\(∃ i3:Nat,(((i3:Int)<=(cV J (Sr.mk U M))+1/\eh J (Sr.mk U M) 4=false)/\(((cV J (Sr.mk U M))+1 - (i3:Int)).toNat<((cV J (Sr.mk U M))+1 - (i1:Int)).toNat/\((qR gg J U M i1 i3)/\((qS gg e J U M i1 i3)/\((qT gg e J U M i1 i3)/\((True/\(True/\True))/\((((fA J gg e (Sr.mk U M) i1).az)++([((Ek J gg e (Sr.mk U M) i1).at_)]))=((aU J gg e (Sr.mk U M) i3).az)/\(((fA J gg e (Sr.mk U M) i1).aA)=((aU J gg e (Sr.mk U M) i3).aA)/\((True/\(True/\True))/\True)))))))))))))/\((decide (((cV J (Sr.mk U M)) - (i1:Int))=(0:Int)))=false ->
 (ag (((cV J (Sr.mk U M)) - (i1:Int)) - (1:Int))/\(∃ i3:Nat,(((i3:Int)<=(cV J (Sr.mk U M))+1/\eh J (Sr.mk U M) 4=false)/\(((cV J (Sr.mk U M))+1 - (i3:Int)).toNat<((cV J (Sr.mk U M))+1 - (i1:Int)).toNat/\((qR gg J U M i1 i3)/\((qS gg e J U M i1 i3)/\((qT gg e J U M i1 i3)/\((True/\(True/\True))/\(((fA J gg e (Sr.mk U M) i1).az)=((aU J gg e (Sr.mk U M) i3).az)/\(((fA J gg e (Sr.mk U M) i1).aA)=((aU J gg e (Sr.mk U M) i3).aA)/\((True/\(True/\True))/\True))))))))))))))))))))/\((decide ((0:Int)<=((cV J (Sr.mk U M)) - (i1:Int))))=false ->
 ((bl.mk ((aU J gg e (Sr.mk U M) i1).az) ((aU J gg e (Sr.mk U M) i1).aA))=(bl.mk (ed J gg e (Sr.mk U M)).az (ed J gg e (Sr.mk U M)).aA)/\((J=J/\(((aU J gg e (Sr.mk U M) i1).s.U)=((ed J gg e (Sr.mk U M)).s.U)/\((aU J gg e (Sr.mk U M) i1).s.M)=((ed J gg e (Sr.mk U M)).s.M)))/\True))))))
theorem CU(gg:aD)(e:O)(J:List Int)(U:Int)(M:Int):cU (dj [gW,cO,dk,dN,fT,pw] [] [] [21,25,30,38,47,78,79,84,85,91,97,98] [] [] [4] [bh,cI,gn]) (aF fS) (um gg e J U M) 0 (gS (dj [gW,cO,dk,dN,fT,pw] [] [] [21,25,30,38,47,78,79,84,85,91,97,98] [] [] [4] [bh,cI,gn]) fS [[.d (.slice (.int .u8)), .d (.int .i64), .d (.int .u64)]] λ r ds=>bH r [⟨(.st .word),bl.mk (ed J gg e (Sr.mk U M)).az (ed J gg e (Sr.mk U M)).aA⟩]/\jv ds [[⟨(.slice (.int .u8)),J⟩,⟨(.int .i64),(ed J gg e (Sr.mk U M)).s.U⟩,⟨(.int .u64),(ed J gg e (Sr.mk U M)).s.M⟩]]) (cB fS [.box 0, .val ⟨(.st .sig),gg⟩, .ref ⟨(.st .expr),e⟩] [[.d (.slice (.int .u8)), .d (.int .i64), .d (.int .u64)]] [[⟨(.slice (.int .u8)),J⟩,⟨(.int .i64),U⟩,⟨(.int .u64),M⟩]]) =
 ((((!(jS gg e))=false ->
 ((bz J (Sr.mk U M) 999999000/\(4:Int)<=1000000)/\(((eh J (Sr.mk U M) (4:Int))=true ->
 ((bz J (aI J (Sr.mk U M) (4:Int)) 870000000/\aY gg=true)/\((bl.mk (fM J gg (aI J (Sr.mk U M) (4:Int))).az (fM J gg (aI J (Sr.mk U M) (4:Int))).aA)=(bl.mk (ed J gg e (Sr.mk U M)).az (ed J gg e (Sr.mk U M)).aA)/\((J=J/\(((fM J gg (aI J (Sr.mk U M) (4:Int))).s.U)=((ed J gg e (Sr.mk U M)).s.U)/\((fM J gg (aI J (Sr.mk U M) (4:Int))).s.M)=((ed J gg e (Sr.mk U M)).s.M)))/\True))))/\((eh J (Sr.mk U M) (4:Int))=false ->
 (dI e<=1048576/\((bz J (aI J (Sr.mk U M) (4:Int)) 999999000/\(6:Int)<=1000000)/\((∃ i1:Nat,(((i1:Int)<=(cV J (Sr.mk U M))+1/\eh J (Sr.mk U M) 4=false)/\((True/\(gg=gg/\(True/\(True/\(True/\((pk J (aI J (Sr.mk U M) (4:Int)) (6:Int))=((cV J (Sr.mk U M)) - (i1:Int))/\True))))))/\((J=J/\(((aI J (aI J (Sr.mk U M) (4:Int)) (6:Int)).U)=((aU J gg e (Sr.mk U M) i1).s.U)/\(((aI J (aI J (Sr.mk U M) (4:Int)) (6:Int)).M)=((aU J gg e (Sr.mk U M) i1).s.M)/\True)))/\(rI gg e J U M i1)))))/\(qU gg e J U M))))))))/\((!(jS gg e))=(!false) ->
 ((true=true ->
 ((bz J (Sr.mk U M) 870000000/\aY gg=true)/\((bl.mk (fM J gg (Sr.mk U M)).az (fM J gg (Sr.mk U M)).aA)=(bl.mk (ed J gg e (Sr.mk U M)).az (ed J gg e (Sr.mk U M)).aA)/\((J=J/\(((fM J gg (Sr.mk U M)).s.U)=((ed J gg e (Sr.mk U M)).s.U)/\((fM J gg (Sr.mk U M)).s.M)=((ed J gg e (Sr.mk U M)).s.M)))/\True))))/\(true=false ->
 (dI e<=1048576/\((bz J (Sr.mk U M) 999999000/\(6:Int)<=1000000)/\((∃ i1:Nat,(((i1:Int)<=(cV J (Sr.mk U M))+1/\eh J (Sr.mk U M) 4=false)/\((True/\(gg=gg/\(True/\(True/\(True/\((pk J (Sr.mk U M) (6:Int))=((cV J (Sr.mk U M)) - (i1:Int))/\True))))))/\((J=J/\(((aI J (Sr.mk U M) (6:Int)).U)=((aU J gg e (Sr.mk U M) i1).s.U)/\(((aI J (Sr.mk U M) (6:Int)).M)=((aU J gg e (Sr.mk U M) i1).s.M)/\True)))/\(rI gg e J U M i1)))))/\(qU gg e J U M))))))))):=by kernel_rfl
theorem CB(hE:aQ [gW,cO,dk,dN,fT,pw])(hO:iE [])(hM:iS [])(hS:gU [bh,cI,gn]):fY.Good gO:=by
 refine⟨aG uf rfl (by decide),?_⟩
 show ∀ (gg:aD) (e:O) (J:List Int) (U:Int) (M:Int),(bz J (Sr.mk U M) 850000000/\aY gg=true/\aL e=true/\ar e<=800/\jS gg e=true)->p7 prog pR [[.d (.slice (.int .u8)), .d (.int .i64), .d (.int .u64)]] [.box 0, .val ⟨(.st .sig),gg⟩, .ref ⟨(.st .expr),e⟩] [[⟨(.slice (.int .u8)),J⟩,⟨(.int .i64),U⟩,⟨(.int .u64),M⟩]] [⟨(.st .word),bl.mk (ed J gg e (Sr.mk U M)).az (ed J gg e (Sr.mk U M)).aA⟩] [[⟨(.slice (.int .u8)),J⟩,⟨(.int .i64),(ed J gg e (Sr.mk U M)).s.U⟩,⟨(.int .u64),(ed J gg e (Sr.mk U M)).s.M⟩]]
 intro gg e J U M hp
 refine eN (own:=[21,25,30,38,47,78,79,84,85,91,97,98]) (wr:=[]) (cl:=[]) (ro:=[4]) hE hO hM hS uf A0 (um gg e J U M) rfl rfl ?_
 rewrite [CU gg e J U M]
 obtain⟨hs,hg,he,hn,ho⟩:=hp
 have hk:=(hs.next 4).pk 6
 have k0:0<=cV J (Sr.mk U M)/\cV J (Sr.mk U M)<=5:=by unfold cV;omega
 have F1:=a1S J gg e (Sr.mk U M) hg he hn hs
 have hw:=tw gg hg
 have T3:qu gg=max 1 gg.ai:=rfl
 refine⟨λ a0=>⟨?_,⟨λ a1=>⟨?_,⟨?_,⟨⟨rfl,⟨?_,?_⟩⟩,trivial⟩⟩⟩,λ a1=>⟨?_,⟨?_,⟨⟨0,⟨?_,⟨⟨trivial,⟨rfl,⟨trivial,⟨trivial,⟨trivial,⟨?_,trivial⟩⟩⟩⟩⟩⟩,⟨⟨rfl,⟨?_,⟨?_,trivial⟩⟩⟩,⟨⟨?_,⟨?_,⟨?_,trivial⟩⟩⟩,⟨⟨trivial,⟨trivial,trivial⟩⟩,⟨?_,⟨?_,⟨⟨trivial,⟨trivial,trivial⟩⟩,trivial⟩⟩⟩⟩⟩⟩⟩⟩⟩,λ i1 a2=>have a0p:=F1 i1 a2.1;⟨λ a3=>⟨?_,λ a4=>⟨?_,⟨⟨⟨0,⟨?_,⟨⟨trivial,⟨rfl,⟨trivial,⟨trivial,⟨trivial,⟨rfl,⟨?_,⟨?_,⟨rfl,⟨rfl,⟨trivial,⟨rfl,⟨rfl,⟨rfl,trivial⟩⟩⟩⟩⟩⟩⟩⟩⟩⟩⟩⟩⟩⟩,⟨⟨rfl,⟨?_,⟨?_,trivial⟩⟩⟩,⟨⟨rfl,⟨rfl,⟨rfl,trivial⟩⟩⟩,⟨⟨trivial,⟨trivial,trivial⟩⟩,⟨rfl,⟨rfl,⟨⟨trivial,⟨trivial,trivial⟩⟩,trivial⟩⟩⟩⟩⟩⟩⟩⟩⟩,λ j2=>λ a5=>⟨λ a6=>λ a7=>λ a8=>⟨?_,⟨λ a9=>⟨?_,⟨λ dt=>λ dP=>⟨λ a12=>⟨(),⟨?_,⟨⟨trivial,⟨rfl,⟨trivial,⟨trivial,⟨trivial,⟨rfl,⟨?_,⟨rfl,⟨rfl,⟨trivial,⟨rfl,⟨rfl,⟨rfl,trivial⟩⟩⟩⟩⟩⟩⟩⟩⟩⟩⟩⟩⟩,⟨⟨rfl,⟨?_,⟨?_,trivial⟩⟩⟩,⟨⟨?_,⟨?_,⟨?_,trivial⟩⟩⟩,⟨⟨trivial,⟨trivial,trivial⟩⟩,⟨?_,⟨?_,⟨⟨trivial,⟨trivial,trivial⟩⟩,trivial⟩⟩⟩⟩⟩⟩⟩⟩⟩,λ a12=>⟨?_,⟨λ dK=>⟨λ eK=>λ fi=>⟨λ ju=>⟨?_,⟨?_,⟨(),⟨?_,⟨⟨trivial,⟨rfl,⟨trivial,⟨trivial,⟨trivial,⟨rfl,⟨?_,⟨rfl,⟨rfl,⟨trivial,⟨rfl,⟨rfl,⟨rfl,trivial⟩⟩⟩⟩⟩⟩⟩⟩⟩⟩⟩⟩⟩,⟨⟨rfl,⟨?_,⟨?_,trivial⟩⟩⟩,⟨⟨?_,⟨?_,⟨?_,trivial⟩⟩⟩,⟨⟨trivial,⟨trivial,trivial⟩⟩,⟨?_,⟨?_,⟨⟨trivial,⟨trivial,trivial⟩⟩,trivial⟩⟩⟩⟩⟩⟩⟩⟩⟩⟩⟩,λ ju=>⟨?_,λ Gm=>⟨?_,⟨?_,⟨j2+1,⟨?_,⟨?_,⟨⟨trivial,⟨rfl,⟨trivial,⟨trivial,⟨trivial,⟨rfl,⟨?_,⟨?_,⟨rfl,⟨rfl,⟨trivial,⟨rfl,⟨rfl,⟨rfl,trivial⟩⟩⟩⟩⟩⟩⟩⟩⟩⟩⟩⟩⟩⟩,⟨⟨rfl,⟨?_,⟨?_,trivial⟩⟩⟩,⟨⟨rfl,⟨rfl,⟨rfl,trivial⟩⟩⟩,⟨⟨trivial,⟨trivial,trivial⟩⟩,⟨rfl,⟨rfl,⟨⟨trivial,⟨trivial,trivial⟩⟩,trivial⟩⟩⟩⟩⟩⟩⟩⟩⟩⟩⟩⟩⟩⟩,λ eK=>⟨λ fi=>⟨?_,⟨?_,⟨(),⟨?_,⟨⟨trivial,⟨rfl,⟨trivial,⟨trivial,⟨trivial,⟨rfl,⟨?_,⟨rfl,⟨rfl,⟨trivial,⟨rfl,⟨rfl,⟨rfl,trivial⟩⟩⟩⟩⟩⟩⟩⟩⟩⟩⟩⟩⟩,⟨⟨rfl,⟨?_,⟨?_,trivial⟩⟩⟩,⟨⟨?_,⟨?_,⟨?_,trivial⟩⟩⟩,⟨⟨trivial,⟨trivial,trivial⟩⟩,⟨?_,⟨?_,⟨⟨trivial,⟨trivial,trivial⟩⟩,trivial⟩⟩⟩⟩⟩⟩⟩⟩⟩⟩⟩,λ fi=>⟨?_,λ ju=>⟨?_,⟨?_,⟨j2+1,⟨?_,⟨?_,⟨⟨trivial,⟨rfl,⟨trivial,⟨trivial,⟨trivial,⟨rfl,⟨?_,⟨?_,⟨rfl,⟨rfl,⟨trivial,⟨rfl,⟨rfl,⟨rfl,trivial⟩⟩⟩⟩⟩⟩⟩⟩⟩⟩⟩⟩⟩⟩,⟨⟨rfl,⟨?_,⟨?_,trivial⟩⟩⟩,⟨⟨rfl,⟨rfl,⟨rfl,trivial⟩⟩⟩,⟨⟨trivial,⟨trivial,trivial⟩⟩,⟨rfl,⟨rfl,⟨⟨trivial,⟨trivial,trivial⟩⟩,trivial⟩⟩⟩⟩⟩⟩⟩⟩⟩⟩⟩⟩⟩⟩⟩,λ dK=>⟨λ eK=>λ fi=>⟨λ ju=>⟨?_,⟨?_,⟨(),⟨?_,⟨⟨trivial,⟨rfl,⟨trivial,⟨trivial,⟨trivial,⟨rfl,⟨?_,⟨rfl,⟨rfl,⟨trivial,⟨rfl,⟨rfl,⟨rfl,trivial⟩⟩⟩⟩⟩⟩⟩⟩⟩⟩⟩⟩⟩,⟨⟨rfl,⟨?_,⟨?_,trivial⟩⟩⟩,⟨⟨?_,⟨?_,⟨?_,trivial⟩⟩⟩,⟨⟨trivial,⟨trivial,trivial⟩⟩,⟨?_,⟨?_,⟨⟨trivial,⟨trivial,trivial⟩⟩,trivial⟩⟩⟩⟩⟩⟩⟩⟩⟩⟩⟩,λ ju=>⟨?_,λ Gm=>⟨?_,⟨?_,⟨j2+1,⟨?_,⟨?_,⟨⟨trivial,⟨rfl,⟨trivial,⟨trivial,⟨trivial,⟨rfl,⟨?_,⟨?_,⟨rfl,⟨rfl,⟨trivial,⟨rfl,⟨rfl,⟨rfl,trivial⟩⟩⟩⟩⟩⟩⟩⟩⟩⟩⟩⟩⟩⟩,⟨⟨rfl,⟨?_,⟨?_,trivial⟩⟩⟩,⟨⟨rfl,⟨rfl,⟨rfl,trivial⟩⟩⟩,⟨⟨trivial,⟨trivial,trivial⟩⟩,⟨rfl,⟨rfl,⟨⟨trivial,⟨trivial,trivial⟩⟩,trivial⟩⟩⟩⟩⟩⟩⟩⟩⟩⟩⟩⟩⟩⟩,λ eK=>⟨λ fi=>⟨?_,⟨?_,⟨(),⟨?_,⟨⟨trivial,⟨rfl,⟨trivial,⟨trivial,⟨trivial,⟨rfl,⟨?_,⟨rfl,⟨rfl,⟨trivial,⟨rfl,⟨rfl,⟨rfl,trivial⟩⟩⟩⟩⟩⟩⟩⟩⟩⟩⟩⟩⟩,⟨⟨rfl,⟨?_,⟨?_,trivial⟩⟩⟩,⟨⟨?_,⟨?_,⟨?_,trivial⟩⟩⟩,⟨⟨trivial,⟨trivial,trivial⟩⟩,⟨?_,⟨?_,⟨⟨trivial,⟨trivial,trivial⟩⟩,trivial⟩⟩⟩⟩⟩⟩⟩⟩⟩⟩⟩,λ fi=>⟨?_,λ ju=>⟨?_,⟨?_,⟨j2+1,⟨?_,⟨?_,⟨⟨trivial,⟨rfl,⟨trivial,⟨trivial,⟨trivial,⟨rfl,⟨?_,⟨?_,⟨rfl,⟨rfl,⟨trivial,⟨rfl,⟨rfl,⟨rfl,trivial⟩⟩⟩⟩⟩⟩⟩⟩⟩⟩⟩⟩⟩⟩,⟨⟨rfl,⟨?_,⟨?_,trivial⟩⟩⟩,⟨⟨rfl,⟨rfl,⟨rfl,trivial⟩⟩⟩,⟨⟨trivial,⟨trivial,trivial⟩⟩,⟨rfl,⟨rfl,⟨⟨trivial,⟨trivial,trivial⟩⟩,trivial⟩⟩⟩⟩⟩⟩⟩⟩⟩⟩⟩⟩⟩⟩⟩⟩⟩⟩,λ dt=>⟨λ dP=>⟨(),⟨?_,⟨⟨trivial,⟨rfl,⟨trivial,⟨trivial,⟨trivial,⟨rfl,⟨?_,⟨rfl,⟨rfl,⟨trivial,⟨rfl,⟨rfl,⟨rfl,trivial⟩⟩⟩⟩⟩⟩⟩⟩⟩⟩⟩⟩⟩,⟨⟨rfl,⟨?_,⟨?_,trivial⟩⟩⟩,⟨⟨?_,⟨?_,⟨?_,trivial⟩⟩⟩,⟨⟨trivial,⟨trivial,trivial⟩⟩,⟨?_,⟨?_,⟨⟨trivial,⟨trivial,trivial⟩⟩,trivial⟩⟩⟩⟩⟩⟩⟩⟩⟩,λ dP=>⟨?_,⟨λ a12=>⟨λ dK=>λ eK=>⟨λ fi=>⟨?_,⟨?_,⟨(),⟨?_,⟨⟨trivial,⟨rfl,⟨trivial,⟨trivial,⟨trivial,⟨rfl,⟨?_,⟨rfl,⟨rfl,⟨trivial,⟨rfl,⟨rfl,⟨rfl,trivial⟩⟩⟩⟩⟩⟩⟩⟩⟩⟩⟩⟩⟩,⟨⟨rfl,⟨?_,⟨?_,trivial⟩⟩⟩,⟨⟨?_,⟨?_,⟨?_,trivial⟩⟩⟩,⟨⟨trivial,⟨trivial,trivial⟩⟩,⟨?_,⟨?_,⟨⟨trivial,⟨trivial,trivial⟩⟩,trivial⟩⟩⟩⟩⟩⟩⟩⟩⟩⟩⟩,λ fi=>⟨?_,λ ju=>⟨?_,⟨?_,⟨j2+1,⟨?_,⟨?_,⟨⟨trivial,⟨rfl,⟨trivial,⟨trivial,⟨trivial,⟨rfl,⟨?_,⟨?_,⟨rfl,⟨rfl,⟨trivial,⟨rfl,⟨rfl,⟨rfl,trivial⟩⟩⟩⟩⟩⟩⟩⟩⟩⟩⟩⟩⟩⟩,⟨⟨rfl,⟨?_,⟨?_,trivial⟩⟩⟩,⟨⟨rfl,⟨rfl,⟨rfl,trivial⟩⟩⟩,⟨⟨trivial,⟨trivial,trivial⟩⟩,⟨rfl,⟨rfl,⟨⟨trivial,⟨trivial,trivial⟩⟩,trivial⟩⟩⟩⟩⟩⟩⟩⟩⟩⟩⟩⟩⟩⟩,λ dK=>⟨λ eK=>⟨?_,⟨?_,⟨(),⟨?_,⟨⟨trivial,⟨rfl,⟨trivial,⟨trivial,⟨trivial,⟨rfl,⟨?_,⟨rfl,⟨rfl,⟨trivial,⟨rfl,⟨rfl,⟨rfl,trivial⟩⟩⟩⟩⟩⟩⟩⟩⟩⟩⟩⟩⟩,⟨⟨rfl,⟨?_,⟨?_,trivial⟩⟩⟩,⟨⟨?_,⟨?_,⟨?_,trivial⟩⟩⟩,⟨⟨trivial,⟨trivial,trivial⟩⟩,⟨?_,⟨?_,⟨⟨trivial,⟨trivial,trivial⟩⟩,trivial⟩⟩⟩⟩⟩⟩⟩⟩⟩⟩⟩,λ eK=>⟨?_,λ fi=>⟨?_,⟨?_,⟨j2+1,⟨?_,⟨?_,⟨⟨trivial,⟨rfl,⟨trivial,⟨trivial,⟨trivial,⟨rfl,⟨?_,⟨?_,⟨rfl,⟨rfl,⟨trivial,⟨rfl,⟨rfl,⟨rfl,trivial⟩⟩⟩⟩⟩⟩⟩⟩⟩⟩⟩⟩⟩⟩,⟨⟨rfl,⟨?_,⟨?_,trivial⟩⟩⟩,⟨⟨rfl,⟨rfl,⟨rfl,trivial⟩⟩⟩,⟨⟨trivial,⟨trivial,trivial⟩⟩,⟨rfl,⟨rfl,⟨⟨trivial,⟨trivial,trivial⟩⟩,trivial⟩⟩⟩⟩⟩⟩⟩⟩⟩⟩⟩⟩⟩⟩⟩,λ a12=>⟨λ dK=>λ eK=>⟨λ fi=>⟨?_,⟨?_,⟨(),⟨?_,⟨⟨trivial,⟨rfl,⟨trivial,⟨trivial,⟨trivial,⟨rfl,⟨?_,⟨rfl,⟨rfl,⟨trivial,⟨rfl,⟨rfl,⟨rfl,trivial⟩⟩⟩⟩⟩⟩⟩⟩⟩⟩⟩⟩⟩,⟨⟨rfl,⟨?_,⟨?_,trivial⟩⟩⟩,⟨⟨?_,⟨?_,⟨?_,trivial⟩⟩⟩,⟨⟨trivial,⟨trivial,trivial⟩⟩,⟨?_,⟨?_,⟨⟨trivial,⟨trivial,trivial⟩⟩,trivial⟩⟩⟩⟩⟩⟩⟩⟩⟩⟩⟩,λ fi=>⟨?_,λ ju=>⟨?_,⟨?_,⟨j2+1,⟨?_,⟨?_,⟨⟨trivial,⟨rfl,⟨trivial,⟨trivial,⟨trivial,⟨rfl,⟨?_,⟨?_,⟨rfl,⟨rfl,⟨trivial,⟨rfl,⟨rfl,⟨rfl,trivial⟩⟩⟩⟩⟩⟩⟩⟩⟩⟩⟩⟩⟩⟩,⟨⟨rfl,⟨?_,⟨?_,trivial⟩⟩⟩,⟨⟨rfl,⟨rfl,⟨rfl,trivial⟩⟩⟩,⟨⟨trivial,⟨trivial,trivial⟩⟩,⟨rfl,⟨rfl,⟨⟨trivial,⟨trivial,trivial⟩⟩,trivial⟩⟩⟩⟩⟩⟩⟩⟩⟩⟩⟩⟩⟩⟩,λ dK=>⟨λ eK=>⟨?_,⟨?_,⟨(),⟨?_,⟨⟨trivial,⟨rfl,⟨trivial,⟨trivial,⟨trivial,⟨rfl,⟨?_,⟨rfl,⟨rfl,⟨trivial,⟨rfl,⟨rfl,⟨rfl,trivial⟩⟩⟩⟩⟩⟩⟩⟩⟩⟩⟩⟩⟩,⟨⟨rfl,⟨?_,⟨?_,trivial⟩⟩⟩,⟨⟨?_,⟨?_,⟨?_,trivial⟩⟩⟩,⟨⟨trivial,⟨trivial,trivial⟩⟩,⟨?_,⟨?_,⟨⟨trivial,⟨trivial,trivial⟩⟩,trivial⟩⟩⟩⟩⟩⟩⟩⟩⟩⟩⟩,λ eK=>⟨?_,λ fi=>⟨?_,⟨?_,⟨j2+1,⟨?_,⟨?_,⟨⟨trivial,⟨rfl,⟨trivial,⟨trivial,⟨trivial,⟨rfl,⟨?_,⟨?_,⟨rfl,⟨rfl,⟨trivial,⟨rfl,⟨rfl,⟨rfl,trivial⟩⟩⟩⟩⟩⟩⟩⟩⟩⟩⟩⟩⟩⟩,⟨⟨rfl,⟨?_,⟨?_,trivial⟩⟩⟩,⟨⟨rfl,⟨rfl,⟨rfl,trivial⟩⟩⟩,⟨⟨trivial,⟨trivial,trivial⟩⟩,⟨rfl,⟨rfl,⟨⟨trivial,⟨trivial,trivial⟩⟩,trivial⟩⟩⟩⟩⟩⟩⟩⟩⟩⟩⟩⟩⟩⟩⟩⟩⟩⟩⟩⟩,λ a9=>⟨λ dt=>λ dP=>⟨λ a12=>⟨(),⟨?_,⟨⟨trivial,⟨rfl,⟨trivial,⟨trivial,⟨trivial,⟨rfl,⟨?_,⟨rfl,⟨rfl,⟨trivial,⟨rfl,⟨rfl,⟨rfl,trivial⟩⟩⟩⟩⟩⟩⟩⟩⟩⟩⟩⟩⟩,⟨⟨rfl,⟨?_,⟨?_,trivial⟩⟩⟩,⟨⟨?_,⟨?_,⟨?_,trivial⟩⟩⟩,⟨⟨trivial,⟨trivial,trivial⟩⟩,⟨?_,⟨?_,⟨⟨trivial,⟨trivial,trivial⟩⟩,trivial⟩⟩⟩⟩⟩⟩⟩⟩⟩,λ a12=>⟨?_,⟨λ dK=>⟨λ eK=>λ fi=>⟨λ ju=>⟨?_,⟨?_,⟨(),⟨?_,⟨⟨trivial,⟨rfl,⟨trivial,⟨trivial,⟨trivial,⟨rfl,⟨?_,⟨rfl,⟨rfl,⟨trivial,⟨rfl,⟨rfl,⟨rfl,trivial⟩⟩⟩⟩⟩⟩⟩⟩⟩⟩⟩⟩⟩,⟨⟨rfl,⟨?_,⟨?_,trivial⟩⟩⟩,⟨⟨?_,⟨?_,⟨?_,trivial⟩⟩⟩,⟨⟨trivial,⟨trivial,trivial⟩⟩,⟨?_,⟨?_,⟨⟨trivial,⟨trivial,trivial⟩⟩,trivial⟩⟩⟩⟩⟩⟩⟩⟩⟩⟩⟩,λ ju=>⟨?_,λ Gm=>⟨?_,⟨?_,⟨j2+1,⟨?_,⟨?_,⟨⟨trivial,⟨rfl,⟨trivial,⟨trivial,⟨trivial,⟨rfl,⟨?_,⟨?_,⟨rfl,⟨rfl,⟨trivial,⟨rfl,⟨rfl,⟨rfl,trivial⟩⟩⟩⟩⟩⟩⟩⟩⟩⟩⟩⟩⟩⟩,⟨⟨rfl,⟨?_,⟨?_,trivial⟩⟩⟩,⟨⟨rfl,⟨rfl,⟨rfl,trivial⟩⟩⟩,⟨⟨trivial,⟨trivial,trivial⟩⟩,⟨rfl,⟨rfl,⟨⟨trivial,⟨trivial,trivial⟩⟩,trivial⟩⟩⟩⟩⟩⟩⟩⟩⟩⟩⟩⟩⟩⟩,λ eK=>⟨λ fi=>⟨?_,⟨?_,⟨(),⟨?_,⟨⟨trivial,⟨rfl,⟨trivial,⟨trivial,⟨trivial,⟨rfl,⟨?_,⟨rfl,⟨rfl,⟨trivial,⟨rfl,⟨rfl,⟨rfl,trivial⟩⟩⟩⟩⟩⟩⟩⟩⟩⟩⟩⟩⟩,⟨⟨rfl,⟨?_,⟨?_,trivial⟩⟩⟩,⟨⟨?_,⟨?_,⟨?_,trivial⟩⟩⟩,⟨⟨trivial,⟨trivial,trivial⟩⟩,⟨?_,⟨?_,⟨⟨trivial,⟨trivial,trivial⟩⟩,trivial⟩⟩⟩⟩⟩⟩⟩⟩⟩⟩⟩,λ fi=>⟨?_,λ ju=>⟨?_,⟨?_,⟨j2+1,⟨?_,⟨?_,⟨⟨trivial,⟨rfl,⟨trivial,⟨trivial,⟨trivial,⟨rfl,⟨?_,⟨?_,⟨rfl,⟨rfl,⟨trivial,⟨rfl,⟨rfl,⟨rfl,trivial⟩⟩⟩⟩⟩⟩⟩⟩⟩⟩⟩⟩⟩⟩,⟨⟨rfl,⟨?_,⟨?_,trivial⟩⟩⟩,⟨⟨rfl,⟨rfl,⟨rfl,trivial⟩⟩⟩,⟨⟨trivial,⟨trivial,trivial⟩⟩,⟨rfl,⟨rfl,⟨⟨trivial,⟨trivial,trivial⟩⟩,trivial⟩⟩⟩⟩⟩⟩⟩⟩⟩⟩⟩⟩⟩⟩⟩,λ dK=>⟨λ eK=>λ fi=>⟨λ ju=>⟨?_,⟨?_,⟨(),⟨?_,⟨⟨trivial,⟨rfl,⟨trivial,⟨trivial,⟨trivial,⟨rfl,⟨?_,⟨rfl,⟨rfl,⟨trivial,⟨rfl,⟨rfl,⟨rfl,trivial⟩⟩⟩⟩⟩⟩⟩⟩⟩⟩⟩⟩⟩,⟨⟨rfl,⟨?_,⟨?_,trivial⟩⟩⟩,⟨⟨?_,⟨?_,⟨?_,trivial⟩⟩⟩,⟨⟨trivial,⟨trivial,trivial⟩⟩,⟨?_,⟨?_,⟨⟨trivial,⟨trivial,trivial⟩⟩,trivial⟩⟩⟩⟩⟩⟩⟩⟩⟩⟩⟩,λ ju=>⟨?_,λ Gm=>⟨?_,⟨?_,⟨j2+1,⟨?_,⟨?_,⟨⟨trivial,⟨rfl,⟨trivial,⟨trivial,⟨trivial,⟨rfl,⟨?_,⟨?_,⟨rfl,⟨rfl,⟨trivial,⟨rfl,⟨rfl,⟨rfl,trivial⟩⟩⟩⟩⟩⟩⟩⟩⟩⟩⟩⟩⟩⟩,⟨⟨rfl,⟨?_,⟨?_,trivial⟩⟩⟩,⟨⟨rfl,⟨rfl,⟨rfl,trivial⟩⟩⟩,⟨⟨trivial,⟨trivial,trivial⟩⟩,⟨rfl,⟨rfl,⟨⟨trivial,⟨trivial,trivial⟩⟩,trivial⟩⟩⟩⟩⟩⟩⟩⟩⟩⟩⟩⟩⟩⟩,λ eK=>⟨λ fi=>⟨?_,⟨?_,⟨(),⟨?_,⟨⟨trivial,⟨rfl,⟨trivial,⟨trivial,⟨trivial,⟨rfl,⟨?_,⟨rfl,⟨rfl,⟨trivial,⟨rfl,⟨rfl,⟨rfl,trivial⟩⟩⟩⟩⟩⟩⟩⟩⟩⟩⟩⟩⟩,⟨⟨rfl,⟨?_,⟨?_,trivial⟩⟩⟩,⟨⟨?_,⟨?_,⟨?_,trivial⟩⟩⟩,⟨⟨trivial,⟨trivial,trivial⟩⟩,⟨?_,⟨?_,⟨⟨trivial,⟨trivial,trivial⟩⟩,trivial⟩⟩⟩⟩⟩⟩⟩⟩⟩⟩⟩,λ fi=>⟨?_,λ ju=>⟨?_,⟨?_,⟨j2+1,⟨?_,⟨?_,⟨⟨trivial,⟨rfl,⟨trivial,⟨trivial,⟨trivial,⟨rfl,⟨?_,⟨?_,⟨rfl,⟨rfl,⟨trivial,⟨rfl,⟨rfl,⟨rfl,trivial⟩⟩⟩⟩⟩⟩⟩⟩⟩⟩⟩⟩⟩⟩,⟨⟨rfl,⟨?_,⟨?_,trivial⟩⟩⟩,⟨⟨rfl,⟨rfl,⟨rfl,trivial⟩⟩⟩,⟨⟨trivial,⟨trivial,trivial⟩⟩,⟨rfl,⟨rfl,⟨⟨trivial,⟨trivial,trivial⟩⟩,trivial⟩⟩⟩⟩⟩⟩⟩⟩⟩⟩⟩⟩⟩⟩⟩⟩⟩⟩,λ dt=>⟨λ dP=>⟨(),⟨?_,⟨⟨trivial,⟨rfl,⟨trivial,⟨trivial,⟨trivial,⟨rfl,⟨?_,⟨rfl,⟨rfl,⟨trivial,⟨rfl,⟨rfl,⟨rfl,trivial⟩⟩⟩⟩⟩⟩⟩⟩⟩⟩⟩⟩⟩,⟨⟨rfl,⟨?_,⟨?_,trivial⟩⟩⟩,⟨⟨?_,⟨?_,⟨?_,trivial⟩⟩⟩,⟨⟨trivial,⟨trivial,trivial⟩⟩,⟨?_,⟨?_,⟨⟨trivial,⟨trivial,trivial⟩⟩,trivial⟩⟩⟩⟩⟩⟩⟩⟩⟩,λ dP=>⟨?_,⟨λ a12=>⟨λ dK=>λ eK=>⟨λ fi=>⟨?_,⟨?_,⟨(),⟨?_,⟨⟨trivial,⟨rfl,⟨trivial,⟨trivial,⟨trivial,⟨rfl,⟨?_,⟨rfl,⟨rfl,⟨trivial,⟨rfl,⟨rfl,⟨rfl,trivial⟩⟩⟩⟩⟩⟩⟩⟩⟩⟩⟩⟩⟩,⟨⟨rfl,⟨?_,⟨?_,trivial⟩⟩⟩,⟨⟨?_,⟨?_,⟨?_,trivial⟩⟩⟩,⟨⟨trivial,⟨trivial,trivial⟩⟩,⟨?_,⟨?_,⟨⟨trivial,⟨trivial,trivial⟩⟩,trivial⟩⟩⟩⟩⟩⟩⟩⟩⟩⟩⟩,λ fi=>⟨?_,λ ju=>⟨?_,⟨?_,⟨j2+1,⟨?_,⟨?_,⟨⟨trivial,⟨rfl,⟨trivial,⟨trivial,⟨trivial,⟨rfl,⟨?_,⟨?_,⟨rfl,⟨rfl,⟨trivial,⟨rfl,⟨rfl,⟨rfl,trivial⟩⟩⟩⟩⟩⟩⟩⟩⟩⟩⟩⟩⟩⟩,⟨⟨rfl,⟨?_,⟨?_,trivial⟩⟩⟩,⟨⟨rfl,⟨rfl,⟨rfl,trivial⟩⟩⟩,⟨⟨trivial,⟨trivial,trivial⟩⟩,⟨rfl,⟨rfl,⟨⟨trivial,⟨trivial,trivial⟩⟩,trivial⟩⟩⟩⟩⟩⟩⟩⟩⟩⟩⟩⟩⟩⟩,λ dK=>⟨λ eK=>⟨?_,⟨?_,⟨(),⟨?_,⟨⟨trivial,⟨rfl,⟨trivial,⟨trivial,⟨trivial,⟨rfl,⟨?_,⟨rfl,⟨rfl,⟨trivial,⟨rfl,⟨rfl,⟨rfl,trivial⟩⟩⟩⟩⟩⟩⟩⟩⟩⟩⟩⟩⟩,⟨⟨rfl,⟨?_,⟨?_,trivial⟩⟩⟩,⟨⟨?_,⟨?_,⟨?_,trivial⟩⟩⟩,⟨⟨trivial,⟨trivial,trivial⟩⟩,⟨?_,⟨?_,⟨⟨trivial,⟨trivial,trivial⟩⟩,trivial⟩⟩⟩⟩⟩⟩⟩⟩⟩⟩⟩,λ eK=>⟨?_,λ fi=>⟨?_,⟨?_,⟨j2+1,⟨?_,⟨?_,⟨⟨trivial,⟨rfl,⟨trivial,⟨trivial,⟨trivial,⟨rfl,⟨?_,⟨?_,⟨rfl,⟨rfl,⟨trivial,⟨rfl,⟨rfl,⟨rfl,trivial⟩⟩⟩⟩⟩⟩⟩⟩⟩⟩⟩⟩⟩⟩,⟨⟨rfl,⟨?_,⟨?_,trivial⟩⟩⟩,⟨⟨rfl,⟨rfl,⟨rfl,trivial⟩⟩⟩,⟨⟨trivial,⟨trivial,trivial⟩⟩,⟨rfl,⟨rfl,⟨⟨trivial,⟨trivial,trivial⟩⟩,trivial⟩⟩⟩⟩⟩⟩⟩⟩⟩⟩⟩⟩⟩⟩⟩,λ a12=>⟨λ dK=>λ eK=>⟨λ fi=>⟨?_,⟨?_,⟨(),⟨?_,⟨⟨trivial,⟨rfl,⟨trivial,⟨trivial,⟨trivial,⟨rfl,⟨?_,⟨rfl,⟨rfl,⟨trivial,⟨rfl,⟨rfl,⟨rfl,trivial⟩⟩⟩⟩⟩⟩⟩⟩⟩⟩⟩⟩⟩,⟨⟨rfl,⟨?_,⟨?_,trivial⟩⟩⟩,⟨⟨?_,⟨?_,⟨?_,trivial⟩⟩⟩,⟨⟨trivial,⟨trivial,trivial⟩⟩,⟨?_,⟨?_,⟨⟨trivial,⟨trivial,trivial⟩⟩,trivial⟩⟩⟩⟩⟩⟩⟩⟩⟩⟩⟩,λ fi=>⟨?_,λ ju=>⟨?_,⟨?_,⟨j2+1,⟨?_,⟨?_,⟨⟨trivial,⟨rfl,⟨trivial,⟨trivial,⟨trivial,⟨rfl,⟨?_,⟨?_,⟨rfl,⟨rfl,⟨trivial,⟨rfl,⟨rfl,⟨rfl,trivial⟩⟩⟩⟩⟩⟩⟩⟩⟩⟩⟩⟩⟩⟩,⟨⟨rfl,⟨?_,⟨?_,trivial⟩⟩⟩,⟨⟨rfl,⟨rfl,⟨rfl,trivial⟩⟩⟩,⟨⟨trivial,⟨trivial,trivial⟩⟩,⟨rfl,⟨rfl,⟨⟨trivial,⟨trivial,trivial⟩⟩,trivial⟩⟩⟩⟩⟩⟩⟩⟩⟩⟩⟩⟩⟩⟩,λ dK=>⟨λ eK=>⟨?_,⟨?_,⟨(),⟨?_,⟨⟨trivial,⟨rfl,⟨trivial,⟨trivial,⟨trivial,⟨rfl,⟨?_,⟨rfl,⟨rfl,⟨trivial,⟨rfl,⟨rfl,⟨rfl,trivial⟩⟩⟩⟩⟩⟩⟩⟩⟩⟩⟩⟩⟩,⟨⟨rfl,⟨?_,⟨?_,trivial⟩⟩⟩,⟨⟨?_,⟨?_,⟨?_,trivial⟩⟩⟩,⟨⟨trivial,⟨trivial,trivial⟩⟩,⟨?_,⟨?_,⟨⟨trivial,⟨trivial,trivial⟩⟩,trivial⟩⟩⟩⟩⟩⟩⟩⟩⟩⟩⟩,λ eK=>⟨?_,λ fi=>⟨?_,⟨?_,⟨j2+1,⟨?_,⟨?_,⟨⟨trivial,⟨rfl,⟨trivial,⟨trivial,⟨trivial,⟨rfl,⟨?_,⟨?_,⟨rfl,⟨rfl,⟨trivial,⟨rfl,⟨rfl,⟨rfl,trivial⟩⟩⟩⟩⟩⟩⟩⟩⟩⟩⟩⟩⟩⟩,⟨⟨rfl,⟨?_,⟨?_,trivial⟩⟩⟩,⟨⟨rfl,⟨rfl,⟨rfl,trivial⟩⟩⟩,⟨⟨trivial,⟨trivial,trivial⟩⟩,⟨rfl,⟨rfl,⟨⟨trivial,⟨trivial,trivial⟩⟩,trivial⟩⟩⟩⟩⟩⟩⟩⟩⟩⟩⟩⟩⟩⟩⟩⟩⟩⟩⟩⟩⟩,λ a6=>⟨(),⟨?_,⟨⟨trivial,⟨rfl,⟨trivial,⟨trivial,⟨trivial,⟨rfl,⟨?_,⟨rfl,⟨rfl,⟨trivial,⟨rfl,⟨rfl,⟨rfl,trivial⟩⟩⟩⟩⟩⟩⟩⟩⟩⟩⟩⟩⟩,⟨⟨rfl,⟨?_,⟨?_,trivial⟩⟩⟩,⟨⟨?_,⟨?_,⟨?_,trivial⟩⟩⟩,⟨⟨trivial,⟨trivial,trivial⟩⟩,⟨?_,⟨?_,⟨⟨trivial,⟨trivial,trivial⟩⟩,trivial⟩⟩⟩⟩⟩⟩⟩⟩⟩⟩⟩,λ u2=>λ a5=>⟨λ a6=>⟨?_,⟨?_,⟨i1+1,⟨?_,⟨?_,⟨⟨trivial,⟨rfl,⟨trivial,⟨trivial,⟨trivial,⟨?_,trivial⟩⟩⟩⟩⟩⟩,⟨⟨rfl,⟨?_,⟨?_,trivial⟩⟩⟩,⟨⟨?_,⟨?_,⟨?_,trivial⟩⟩⟩,⟨⟨trivial,⟨trivial,trivial⟩⟩,⟨?_,⟨?_,⟨⟨trivial,⟨trivial,trivial⟩⟩,trivial⟩⟩⟩⟩⟩⟩⟩⟩⟩⟩⟩⟩,λ a6=>⟨?_,⟨i1+1,⟨?_,⟨?_,⟨⟨trivial,⟨rfl,⟨trivial,⟨trivial,⟨trivial,⟨?_,trivial⟩⟩⟩⟩⟩⟩,⟨⟨rfl,⟨?_,⟨?_,trivial⟩⟩⟩,⟨⟨?_,⟨?_,⟨?_,trivial⟩⟩⟩,⟨⟨trivial,⟨trivial,trivial⟩⟩,⟨?_,⟨?_,⟨⟨trivial,⟨trivial,trivial⟩⟩,trivial⟩⟩⟩⟩⟩⟩⟩⟩⟩⟩⟩⟩⟩⟩⟩,λ a3=>⟨?_,⟨⟨rfl,⟨?_,?_⟩⟩,trivial⟩⟩⟩⟩⟩⟩⟩⟩,λ a0=>⟨λ a1=>⟨?_,⟨?_,⟨⟨rfl,⟨?_,?_⟩⟩,trivial⟩⟩⟩,λ a1=>⟨?_,⟨?_,⟨⟨0,⟨?_,⟨⟨trivial,⟨rfl,⟨trivial,⟨trivial,⟨trivial,⟨?_,trivial⟩⟩⟩⟩⟩⟩,⟨⟨rfl,⟨?_,⟨?_,trivial⟩⟩⟩,⟨⟨?_,⟨?_,⟨?_,trivial⟩⟩⟩,⟨⟨trivial,⟨trivial,trivial⟩⟩,⟨?_,⟨?_,⟨⟨trivial,⟨trivial,trivial⟩⟩,trivial⟩⟩⟩⟩⟩⟩⟩⟩⟩,λ i1 a2=>have a0p:=F1 i1 a2.1;⟨λ a3=>⟨?_,λ a4=>⟨?_,⟨⟨⟨0,⟨?_,⟨⟨trivial,⟨rfl,⟨trivial,⟨trivial,⟨trivial,⟨rfl,⟨?_,⟨?_,⟨rfl,⟨rfl,⟨trivial,⟨rfl,⟨rfl,⟨rfl,trivial⟩⟩⟩⟩⟩⟩⟩⟩⟩⟩⟩⟩⟩⟩,⟨⟨rfl,⟨?_,⟨?_,trivial⟩⟩⟩,⟨⟨rfl,⟨rfl,⟨rfl,trivial⟩⟩⟩,⟨⟨trivial,⟨trivial,trivial⟩⟩,⟨rfl,⟨rfl,⟨⟨trivial,⟨trivial,trivial⟩⟩,trivial⟩⟩⟩⟩⟩⟩⟩⟩⟩,λ j2=>λ a5=>⟨λ a6=>λ a7=>λ a8=>⟨?_,⟨λ a9=>⟨?_,⟨λ dt=>λ dP=>⟨λ a12=>⟨(),⟨?_,⟨⟨trivial,⟨rfl,⟨trivial,⟨trivial,⟨trivial,⟨rfl,⟨?_,⟨rfl,⟨rfl,⟨trivial,⟨rfl,⟨rfl,⟨rfl,trivial⟩⟩⟩⟩⟩⟩⟩⟩⟩⟩⟩⟩⟩,⟨⟨rfl,⟨?_,⟨?_,trivial⟩⟩⟩,⟨⟨?_,⟨?_,⟨?_,trivial⟩⟩⟩,⟨⟨trivial,⟨trivial,trivial⟩⟩,⟨?_,⟨?_,⟨⟨trivial,⟨trivial,trivial⟩⟩,trivial⟩⟩⟩⟩⟩⟩⟩⟩⟩,λ a12=>⟨?_,⟨λ dK=>⟨λ eK=>λ fi=>⟨λ ju=>⟨?_,⟨?_,⟨(),⟨?_,⟨⟨trivial,⟨rfl,⟨trivial,⟨trivial,⟨trivial,⟨rfl,⟨?_,⟨rfl,⟨rfl,⟨trivial,⟨rfl,⟨rfl,⟨rfl,trivial⟩⟩⟩⟩⟩⟩⟩⟩⟩⟩⟩⟩⟩,⟨⟨rfl,⟨?_,⟨?_,trivial⟩⟩⟩,⟨⟨?_,⟨?_,⟨?_,trivial⟩⟩⟩,⟨⟨trivial,⟨trivial,trivial⟩⟩,⟨?_,⟨?_,⟨⟨trivial,⟨trivial,trivial⟩⟩,trivial⟩⟩⟩⟩⟩⟩⟩⟩⟩⟩⟩,λ ju=>⟨?_,λ Gm=>⟨?_,⟨?_,⟨j2+1,⟨?_,⟨?_,⟨⟨trivial,⟨rfl,⟨trivial,⟨trivial,⟨trivial,⟨rfl,⟨?_,⟨?_,⟨rfl,⟨rfl,⟨trivial,⟨rfl,⟨rfl,⟨rfl,trivial⟩⟩⟩⟩⟩⟩⟩⟩⟩⟩⟩⟩⟩⟩,⟨⟨rfl,⟨?_,⟨?_,trivial⟩⟩⟩,⟨⟨rfl,⟨rfl,⟨rfl,trivial⟩⟩⟩,⟨⟨trivial,⟨trivial,trivial⟩⟩,⟨rfl,⟨rfl,⟨⟨trivial,⟨trivial,trivial⟩⟩,trivial⟩⟩⟩⟩⟩⟩⟩⟩⟩⟩⟩⟩⟩⟩,λ eK=>⟨λ fi=>⟨?_,⟨?_,⟨(),⟨?_,⟨⟨trivial,⟨rfl,⟨trivial,⟨trivial,⟨trivial,⟨rfl,⟨?_,⟨rfl,⟨rfl,⟨trivial,⟨rfl,⟨rfl,⟨rfl,trivial⟩⟩⟩⟩⟩⟩⟩⟩⟩⟩⟩⟩⟩,⟨⟨rfl,⟨?_,⟨?_,trivial⟩⟩⟩,⟨⟨?_,⟨?_,⟨?_,trivial⟩⟩⟩,⟨⟨trivial,⟨trivial,trivial⟩⟩,⟨?_,⟨?_,⟨⟨trivial,⟨trivial,trivial⟩⟩,trivial⟩⟩⟩⟩⟩⟩⟩⟩⟩⟩⟩,λ fi=>⟨?_,λ ju=>⟨?_,⟨?_,⟨j2+1,⟨?_,⟨?_,⟨⟨trivial,⟨rfl,⟨trivial,⟨trivial,⟨trivial,⟨rfl,⟨?_,⟨?_,⟨rfl,⟨rfl,⟨trivial,⟨rfl,⟨rfl,⟨rfl,trivial⟩⟩⟩⟩⟩⟩⟩⟩⟩⟩⟩⟩⟩⟩,⟨⟨rfl,⟨?_,⟨?_,trivial⟩⟩⟩,⟨⟨rfl,⟨rfl,⟨rfl,trivial⟩⟩⟩,⟨⟨trivial,⟨trivial,trivial⟩⟩,⟨rfl,⟨rfl,⟨⟨trivial,⟨trivial,trivial⟩⟩,trivial⟩⟩⟩⟩⟩⟩⟩⟩⟩⟩⟩⟩⟩⟩⟩,λ dK=>⟨λ eK=>λ fi=>⟨λ ju=>⟨?_,⟨?_,⟨(),⟨?_,⟨⟨trivial,⟨rfl,⟨trivial,⟨trivial,⟨trivial,⟨rfl,⟨?_,⟨rfl,⟨rfl,⟨trivial,⟨rfl,⟨rfl,⟨rfl,trivial⟩⟩⟩⟩⟩⟩⟩⟩⟩⟩⟩⟩⟩,⟨⟨rfl,⟨?_,⟨?_,trivial⟩⟩⟩,⟨⟨?_,⟨?_,⟨?_,trivial⟩⟩⟩,⟨⟨trivial,⟨trivial,trivial⟩⟩,⟨?_,⟨?_,⟨⟨trivial,⟨trivial,trivial⟩⟩,trivial⟩⟩⟩⟩⟩⟩⟩⟩⟩⟩⟩,λ ju=>⟨?_,λ Gm=>⟨?_,⟨?_,⟨j2+1,⟨?_,⟨?_,⟨⟨trivial,⟨rfl,⟨trivial,⟨trivial,⟨trivial,⟨rfl,⟨?_,⟨?_,⟨rfl,⟨rfl,⟨trivial,⟨rfl,⟨rfl,⟨rfl,trivial⟩⟩⟩⟩⟩⟩⟩⟩⟩⟩⟩⟩⟩⟩,⟨⟨rfl,⟨?_,⟨?_,trivial⟩⟩⟩,⟨⟨rfl,⟨rfl,⟨rfl,trivial⟩⟩⟩,⟨⟨trivial,⟨trivial,trivial⟩⟩,⟨rfl,⟨rfl,⟨⟨trivial,⟨trivial,trivial⟩⟩,trivial⟩⟩⟩⟩⟩⟩⟩⟩⟩⟩⟩⟩⟩⟩,λ eK=>⟨λ fi=>⟨?_,⟨?_,⟨(),⟨?_,⟨⟨trivial,⟨rfl,⟨trivial,⟨trivial,⟨trivial,⟨rfl,⟨?_,⟨rfl,⟨rfl,⟨trivial,⟨rfl,⟨rfl,⟨rfl,trivial⟩⟩⟩⟩⟩⟩⟩⟩⟩⟩⟩⟩⟩,⟨⟨rfl,⟨?_,⟨?_,trivial⟩⟩⟩,⟨⟨?_,⟨?_,⟨?_,trivial⟩⟩⟩,⟨⟨trivial,⟨trivial,trivial⟩⟩,⟨?_,⟨?_,⟨⟨trivial,⟨trivial,trivial⟩⟩,trivial⟩⟩⟩⟩⟩⟩⟩⟩⟩⟩⟩,λ fi=>⟨?_,λ ju=>⟨?_,⟨?_,⟨j2+1,⟨?_,⟨?_,⟨⟨trivial,⟨rfl,⟨trivial,⟨trivial,⟨trivial,⟨rfl,⟨?_,⟨?_,⟨rfl,⟨rfl,⟨trivial,⟨rfl,⟨rfl,⟨rfl,trivial⟩⟩⟩⟩⟩⟩⟩⟩⟩⟩⟩⟩⟩⟩,⟨⟨rfl,⟨?_,⟨?_,trivial⟩⟩⟩,⟨⟨rfl,⟨rfl,⟨rfl,trivial⟩⟩⟩,⟨⟨trivial,⟨trivial,trivial⟩⟩,⟨rfl,⟨rfl,⟨⟨trivial,⟨trivial,trivial⟩⟩,trivial⟩⟩⟩⟩⟩⟩⟩⟩⟩⟩⟩⟩⟩⟩⟩⟩⟩⟩,λ dt=>⟨λ dP=>⟨(),⟨?_,⟨⟨trivial,⟨rfl,⟨trivial,⟨trivial,⟨trivial,⟨rfl,⟨?_,⟨rfl,⟨rfl,⟨trivial,⟨rfl,⟨rfl,⟨rfl,trivial⟩⟩⟩⟩⟩⟩⟩⟩⟩⟩⟩⟩⟩,⟨⟨rfl,⟨?_,⟨?_,trivial⟩⟩⟩,⟨⟨?_,⟨?_,⟨?_,trivial⟩⟩⟩,⟨⟨trivial,⟨trivial,trivial⟩⟩,⟨?_,⟨?_,⟨⟨trivial,⟨trivial,trivial⟩⟩,trivial⟩⟩⟩⟩⟩⟩⟩⟩⟩,λ dP=>⟨?_,⟨λ a12=>⟨λ dK=>λ eK=>⟨λ fi=>⟨?_,⟨?_,⟨(),⟨?_,⟨⟨trivial,⟨rfl,⟨trivial,⟨trivial,⟨trivial,⟨rfl,⟨?_,⟨rfl,⟨rfl,⟨trivial,⟨rfl,⟨rfl,⟨rfl,trivial⟩⟩⟩⟩⟩⟩⟩⟩⟩⟩⟩⟩⟩,⟨⟨rfl,⟨?_,⟨?_,trivial⟩⟩⟩,⟨⟨?_,⟨?_,⟨?_,trivial⟩⟩⟩,⟨⟨trivial,⟨trivial,trivial⟩⟩,⟨?_,⟨?_,⟨⟨trivial,⟨trivial,trivial⟩⟩,trivial⟩⟩⟩⟩⟩⟩⟩⟩⟩⟩⟩,λ fi=>⟨?_,λ ju=>⟨?_,⟨?_,⟨j2+1,⟨?_,⟨?_,⟨⟨trivial,⟨rfl,⟨trivial,⟨trivial,⟨trivial,⟨rfl,⟨?_,⟨?_,⟨rfl,⟨rfl,⟨trivial,⟨rfl,⟨rfl,⟨rfl,trivial⟩⟩⟩⟩⟩⟩⟩⟩⟩⟩⟩⟩⟩⟩,⟨⟨rfl,⟨?_,⟨?_,trivial⟩⟩⟩,⟨⟨rfl,⟨rfl,⟨rfl,trivial⟩⟩⟩,⟨⟨trivial,⟨trivial,trivial⟩⟩,⟨rfl,⟨rfl,⟨⟨trivial,⟨trivial,trivial⟩⟩,trivial⟩⟩⟩⟩⟩⟩⟩⟩⟩⟩⟩⟩⟩⟩,λ dK=>⟨λ eK=>⟨?_,⟨?_,⟨(),⟨?_,⟨⟨trivial,⟨rfl,⟨trivial,⟨trivial,⟨trivial,⟨rfl,⟨?_,⟨rfl,⟨rfl,⟨trivial,⟨rfl,⟨rfl,⟨rfl,trivial⟩⟩⟩⟩⟩⟩⟩⟩⟩⟩⟩⟩⟩,⟨⟨rfl,⟨?_,⟨?_,trivial⟩⟩⟩,⟨⟨?_,⟨?_,⟨?_,trivial⟩⟩⟩,⟨⟨trivial,⟨trivial,trivial⟩⟩,⟨?_,⟨?_,⟨⟨trivial,⟨trivial,trivial⟩⟩,trivial⟩⟩⟩⟩⟩⟩⟩⟩⟩⟩⟩,λ eK=>⟨?_,λ fi=>⟨?_,⟨?_,⟨j2+1,⟨?_,⟨?_,⟨⟨trivial,⟨rfl,⟨trivial,⟨trivial,⟨trivial,⟨rfl,⟨?_,⟨?_,⟨rfl,⟨rfl,⟨trivial,⟨rfl,⟨rfl,⟨rfl,trivial⟩⟩⟩⟩⟩⟩⟩⟩⟩⟩⟩⟩⟩⟩,⟨⟨rfl,⟨?_,⟨?_,trivial⟩⟩⟩,⟨⟨rfl,⟨rfl,⟨rfl,trivial⟩⟩⟩,⟨⟨trivial,⟨trivial,trivial⟩⟩,⟨rfl,⟨rfl,⟨⟨trivial,⟨trivial,trivial⟩⟩,trivial⟩⟩⟩⟩⟩⟩⟩⟩⟩⟩⟩⟩⟩⟩⟩,λ a12=>⟨λ dK=>λ eK=>⟨λ fi=>⟨?_,⟨?_,⟨(),⟨?_,⟨⟨trivial,⟨rfl,⟨trivial,⟨trivial,⟨trivial,⟨rfl,⟨?_,⟨rfl,⟨rfl,⟨trivial,⟨rfl,⟨rfl,⟨rfl,trivial⟩⟩⟩⟩⟩⟩⟩⟩⟩⟩⟩⟩⟩,⟨⟨rfl,⟨?_,⟨?_,trivial⟩⟩⟩,⟨⟨?_,⟨?_,⟨?_,trivial⟩⟩⟩,⟨⟨trivial,⟨trivial,trivial⟩⟩,⟨?_,⟨?_,⟨⟨trivial,⟨trivial,trivial⟩⟩,trivial⟩⟩⟩⟩⟩⟩⟩⟩⟩⟩⟩,λ fi=>⟨?_,λ ju=>⟨?_,⟨?_,⟨j2+1,⟨?_,⟨?_,⟨⟨trivial,⟨rfl,⟨trivial,⟨trivial,⟨trivial,⟨rfl,⟨?_,⟨?_,⟨rfl,⟨rfl,⟨trivial,⟨rfl,⟨rfl,⟨rfl,trivial⟩⟩⟩⟩⟩⟩⟩⟩⟩⟩⟩⟩⟩⟩,⟨⟨rfl,⟨?_,⟨?_,trivial⟩⟩⟩,⟨⟨rfl,⟨rfl,⟨rfl,trivial⟩⟩⟩,⟨⟨trivial,⟨trivial,trivial⟩⟩,⟨rfl,⟨rfl,⟨⟨trivial,⟨trivial,trivial⟩⟩,trivial⟩⟩⟩⟩⟩⟩⟩⟩⟩⟩⟩⟩⟩⟩,λ dK=>⟨λ eK=>⟨?_,⟨?_,⟨(),⟨?_,⟨⟨trivial,⟨rfl,⟨trivial,⟨trivial,⟨trivial,⟨rfl,⟨?_,⟨rfl,⟨rfl,⟨trivial,⟨rfl,⟨rfl,⟨rfl,trivial⟩⟩⟩⟩⟩⟩⟩⟩⟩⟩⟩⟩⟩,⟨⟨rfl,⟨?_,⟨?_,trivial⟩⟩⟩,⟨⟨?_,⟨?_,⟨?_,trivial⟩⟩⟩,⟨⟨trivial,⟨trivial,trivial⟩⟩,⟨?_,⟨?_,⟨⟨trivial,⟨trivial,trivial⟩⟩,trivial⟩⟩⟩⟩⟩⟩⟩⟩⟩⟩⟩,λ eK=>⟨?_,λ fi=>⟨?_,⟨?_,⟨j2+1,⟨?_,⟨?_,⟨⟨trivial,⟨rfl,⟨trivial,⟨trivial,⟨trivial,⟨rfl,⟨?_,⟨?_,⟨rfl,⟨rfl,⟨trivial,⟨rfl,⟨rfl,⟨rfl,trivial⟩⟩⟩⟩⟩⟩⟩⟩⟩⟩⟩⟩⟩⟩,⟨⟨rfl,⟨?_,⟨?_,trivial⟩⟩⟩,⟨⟨rfl,⟨rfl,⟨rfl,trivial⟩⟩⟩,⟨⟨trivial,⟨trivial,trivial⟩⟩,⟨rfl,⟨rfl,⟨⟨trivial,⟨trivial,trivial⟩⟩,trivial⟩⟩⟩⟩⟩⟩⟩⟩⟩⟩⟩⟩⟩⟩⟩⟩⟩⟩⟩⟩,λ a9=>⟨λ dt=>λ dP=>⟨λ a12=>⟨(),⟨?_,⟨⟨trivial,⟨rfl,⟨trivial,⟨trivial,⟨trivial,⟨rfl,⟨?_,⟨rfl,⟨rfl,⟨trivial,⟨rfl,⟨rfl,⟨rfl,trivial⟩⟩⟩⟩⟩⟩⟩⟩⟩⟩⟩⟩⟩,⟨⟨rfl,⟨?_,⟨?_,trivial⟩⟩⟩,⟨⟨?_,⟨?_,⟨?_,trivial⟩⟩⟩,⟨⟨trivial,⟨trivial,trivial⟩⟩,⟨?_,⟨?_,⟨⟨trivial,⟨trivial,trivial⟩⟩,trivial⟩⟩⟩⟩⟩⟩⟩⟩⟩,λ a12=>⟨?_,⟨λ dK=>⟨λ eK=>λ fi=>⟨λ ju=>⟨?_,⟨?_,⟨(),⟨?_,⟨⟨trivial,⟨rfl,⟨trivial,⟨trivial,⟨trivial,⟨rfl,⟨?_,⟨rfl,⟨rfl,⟨trivial,⟨rfl,⟨rfl,⟨rfl,trivial⟩⟩⟩⟩⟩⟩⟩⟩⟩⟩⟩⟩⟩,⟨⟨rfl,⟨?_,⟨?_,trivial⟩⟩⟩,⟨⟨?_,⟨?_,⟨?_,trivial⟩⟩⟩,⟨⟨trivial,⟨trivial,trivial⟩⟩,⟨?_,⟨?_,⟨⟨trivial,⟨trivial,trivial⟩⟩,trivial⟩⟩⟩⟩⟩⟩⟩⟩⟩⟩⟩,λ ju=>⟨?_,λ Gm=>⟨?_,⟨?_,⟨j2+1,⟨?_,⟨?_,⟨⟨trivial,⟨rfl,⟨trivial,⟨trivial,⟨trivial,⟨rfl,⟨?_,⟨?_,⟨rfl,⟨rfl,⟨trivial,⟨rfl,⟨rfl,⟨rfl,trivial⟩⟩⟩⟩⟩⟩⟩⟩⟩⟩⟩⟩⟩⟩,⟨⟨rfl,⟨?_,⟨?_,trivial⟩⟩⟩,⟨⟨rfl,⟨rfl,⟨rfl,trivial⟩⟩⟩,⟨⟨trivial,⟨trivial,trivial⟩⟩,⟨rfl,⟨rfl,⟨⟨trivial,⟨trivial,trivial⟩⟩,trivial⟩⟩⟩⟩⟩⟩⟩⟩⟩⟩⟩⟩⟩⟩,λ eK=>⟨λ fi=>⟨?_,⟨?_,⟨(),⟨?_,⟨⟨trivial,⟨rfl,⟨trivial,⟨trivial,⟨trivial,⟨rfl,⟨?_,⟨rfl,⟨rfl,⟨trivial,⟨rfl,⟨rfl,⟨rfl,trivial⟩⟩⟩⟩⟩⟩⟩⟩⟩⟩⟩⟩⟩,⟨⟨rfl,⟨?_,⟨?_,trivial⟩⟩⟩,⟨⟨?_,⟨?_,⟨?_,trivial⟩⟩⟩,⟨⟨trivial,⟨trivial,trivial⟩⟩,⟨?_,⟨?_,⟨⟨trivial,⟨trivial,trivial⟩⟩,trivial⟩⟩⟩⟩⟩⟩⟩⟩⟩⟩⟩,λ fi=>⟨?_,λ ju=>⟨?_,⟨?_,⟨j2+1,⟨?_,⟨?_,⟨⟨trivial,⟨rfl,⟨trivial,⟨trivial,⟨trivial,⟨rfl,⟨?_,⟨?_,⟨rfl,⟨rfl,⟨trivial,⟨rfl,⟨rfl,⟨rfl,trivial⟩⟩⟩⟩⟩⟩⟩⟩⟩⟩⟩⟩⟩⟩,⟨⟨rfl,⟨?_,⟨?_,trivial⟩⟩⟩,⟨⟨rfl,⟨rfl,⟨rfl,trivial⟩⟩⟩,⟨⟨trivial,⟨trivial,trivial⟩⟩,⟨rfl,⟨rfl,⟨⟨trivial,⟨trivial,trivial⟩⟩,trivial⟩⟩⟩⟩⟩⟩⟩⟩⟩⟩⟩⟩⟩⟩⟩,λ dK=>⟨λ eK=>λ fi=>⟨λ ju=>⟨?_,⟨?_,⟨(),⟨?_,⟨⟨trivial,⟨rfl,⟨trivial,⟨trivial,⟨trivial,⟨rfl,⟨?_,⟨rfl,⟨rfl,⟨trivial,⟨rfl,⟨rfl,⟨rfl,trivial⟩⟩⟩⟩⟩⟩⟩⟩⟩⟩⟩⟩⟩,⟨⟨rfl,⟨?_,⟨?_,trivial⟩⟩⟩,⟨⟨?_,⟨?_,⟨?_,trivial⟩⟩⟩,⟨⟨trivial,⟨trivial,trivial⟩⟩,⟨?_,⟨?_,⟨⟨trivial,⟨trivial,trivial⟩⟩,trivial⟩⟩⟩⟩⟩⟩⟩⟩⟩⟩⟩,λ ju=>⟨?_,λ Gm=>⟨?_,⟨?_,⟨j2+1,⟨?_,⟨?_,⟨⟨trivial,⟨rfl,⟨trivial,⟨trivial,⟨trivial,⟨rfl,⟨?_,⟨?_,⟨rfl,⟨rfl,⟨trivial,⟨rfl,⟨rfl,⟨rfl,trivial⟩⟩⟩⟩⟩⟩⟩⟩⟩⟩⟩⟩⟩⟩,⟨⟨rfl,⟨?_,⟨?_,trivial⟩⟩⟩,⟨⟨rfl,⟨rfl,⟨rfl,trivial⟩⟩⟩,⟨⟨trivial,⟨trivial,trivial⟩⟩,⟨rfl,⟨rfl,⟨⟨trivial,⟨trivial,trivial⟩⟩,trivial⟩⟩⟩⟩⟩⟩⟩⟩⟩⟩⟩⟩⟩⟩,λ eK=>⟨λ fi=>⟨?_,⟨?_,⟨(),⟨?_,⟨⟨trivial,⟨rfl,⟨trivial,⟨trivial,⟨trivial,⟨rfl,⟨?_,⟨rfl,⟨rfl,⟨trivial,⟨rfl,⟨rfl,⟨rfl,trivial⟩⟩⟩⟩⟩⟩⟩⟩⟩⟩⟩⟩⟩,⟨⟨rfl,⟨?_,⟨?_,trivial⟩⟩⟩,⟨⟨?_,⟨?_,⟨?_,trivial⟩⟩⟩,⟨⟨trivial,⟨trivial,trivial⟩⟩,⟨?_,⟨?_,⟨⟨trivial,⟨trivial,trivial⟩⟩,trivial⟩⟩⟩⟩⟩⟩⟩⟩⟩⟩⟩,λ fi=>⟨?_,λ ju=>⟨?_,⟨?_,⟨j2+1,⟨?_,⟨?_,⟨⟨trivial,⟨rfl,⟨trivial,⟨trivial,⟨trivial,⟨rfl,⟨?_,⟨?_,⟨rfl,⟨rfl,⟨trivial,⟨rfl,⟨rfl,⟨rfl,trivial⟩⟩⟩⟩⟩⟩⟩⟩⟩⟩⟩⟩⟩⟩,⟨⟨rfl,⟨?_,⟨?_,trivial⟩⟩⟩,⟨⟨rfl,⟨rfl,⟨rfl,trivial⟩⟩⟩,⟨⟨trivial,⟨trivial,trivial⟩⟩,⟨rfl,⟨rfl,⟨⟨trivial,⟨trivial,trivial⟩⟩,trivial⟩⟩⟩⟩⟩⟩⟩⟩⟩⟩⟩⟩⟩⟩⟩⟩⟩⟩,λ dt=>⟨λ dP=>⟨(),⟨?_,⟨⟨trivial,⟨rfl,⟨trivial,⟨trivial,⟨trivial,⟨rfl,⟨?_,⟨rfl,⟨rfl,⟨trivial,⟨rfl,⟨rfl,⟨rfl,trivial⟩⟩⟩⟩⟩⟩⟩⟩⟩⟩⟩⟩⟩,⟨⟨rfl,⟨?_,⟨?_,trivial⟩⟩⟩,⟨⟨?_,⟨?_,⟨?_,trivial⟩⟩⟩,⟨⟨trivial,⟨trivial,trivial⟩⟩,⟨?_,⟨?_,⟨⟨trivial,⟨trivial,trivial⟩⟩,trivial⟩⟩⟩⟩⟩⟩⟩⟩⟩,λ dP=>⟨?_,⟨λ a12=>⟨λ dK=>λ eK=>⟨λ fi=>⟨?_,⟨?_,⟨(),⟨?_,⟨⟨trivial,⟨rfl,⟨trivial,⟨trivial,⟨trivial,⟨rfl,⟨?_,⟨rfl,⟨rfl,⟨trivial,⟨rfl,⟨rfl,⟨rfl,trivial⟩⟩⟩⟩⟩⟩⟩⟩⟩⟩⟩⟩⟩,⟨⟨rfl,⟨?_,⟨?_,trivial⟩⟩⟩,⟨⟨?_,⟨?_,⟨?_,trivial⟩⟩⟩,⟨⟨trivial,⟨trivial,trivial⟩⟩,⟨?_,⟨?_,⟨⟨trivial,⟨trivial,trivial⟩⟩,trivial⟩⟩⟩⟩⟩⟩⟩⟩⟩⟩⟩,λ fi=>⟨?_,λ ju=>⟨?_,⟨?_,⟨j2+1,⟨?_,⟨?_,⟨⟨trivial,⟨rfl,⟨trivial,⟨trivial,⟨trivial,⟨rfl,⟨?_,⟨?_,⟨rfl,⟨rfl,⟨trivial,⟨rfl,⟨rfl,⟨rfl,trivial⟩⟩⟩⟩⟩⟩⟩⟩⟩⟩⟩⟩⟩⟩,⟨⟨rfl,⟨?_,⟨?_,trivial⟩⟩⟩,⟨⟨rfl,⟨rfl,⟨rfl,trivial⟩⟩⟩,⟨⟨trivial,⟨trivial,trivial⟩⟩,⟨rfl,⟨rfl,⟨⟨trivial,⟨trivial,trivial⟩⟩,trivial⟩⟩⟩⟩⟩⟩⟩⟩⟩⟩⟩⟩⟩⟩,λ dK=>⟨λ eK=>⟨?_,⟨?_,⟨(),⟨?_,⟨⟨trivial,⟨rfl,⟨trivial,⟨trivial,⟨trivial,⟨rfl,⟨?_,⟨rfl,⟨rfl,⟨trivial,⟨rfl,⟨rfl,⟨rfl,trivial⟩⟩⟩⟩⟩⟩⟩⟩⟩⟩⟩⟩⟩,⟨⟨rfl,⟨?_,⟨?_,trivial⟩⟩⟩,⟨⟨?_,⟨?_,⟨?_,trivial⟩⟩⟩,⟨⟨trivial,⟨trivial,trivial⟩⟩,⟨?_,⟨?_,⟨⟨trivial,⟨trivial,trivial⟩⟩,trivial⟩⟩⟩⟩⟩⟩⟩⟩⟩⟩⟩,λ eK=>⟨?_,λ fi=>⟨?_,⟨?_,⟨j2+1,⟨?_,⟨?_,⟨⟨trivial,⟨rfl,⟨trivial,⟨trivial,⟨trivial,⟨rfl,⟨?_,⟨?_,⟨rfl,⟨rfl,⟨trivial,⟨rfl,⟨rfl,⟨rfl,trivial⟩⟩⟩⟩⟩⟩⟩⟩⟩⟩⟩⟩⟩⟩,⟨⟨rfl,⟨?_,⟨?_,trivial⟩⟩⟩,⟨⟨rfl,⟨rfl,⟨rfl,trivial⟩⟩⟩,⟨⟨trivial,⟨trivial,trivial⟩⟩,⟨rfl,⟨rfl,⟨⟨trivial,⟨trivial,trivial⟩⟩,trivial⟩⟩⟩⟩⟩⟩⟩⟩⟩⟩⟩⟩⟩⟩⟩,λ a12=>⟨λ dK=>λ eK=>⟨λ fi=>⟨?_,⟨?_,⟨(),⟨?_,⟨⟨trivial,⟨rfl,⟨trivial,⟨trivial,⟨trivial,⟨rfl,⟨?_,⟨rfl,⟨rfl,⟨trivial,⟨rfl,⟨rfl,⟨rfl,trivial⟩⟩⟩⟩⟩⟩⟩⟩⟩⟩⟩⟩⟩,⟨⟨rfl,⟨?_,⟨?_,trivial⟩⟩⟩,⟨⟨?_,⟨?_,⟨?_,trivial⟩⟩⟩,⟨⟨trivial,⟨trivial,trivial⟩⟩,⟨?_,⟨?_,⟨⟨trivial,⟨trivial,trivial⟩⟩,trivial⟩⟩⟩⟩⟩⟩⟩⟩⟩⟩⟩,λ fi=>⟨?_,λ ju=>⟨?_,⟨?_,⟨j2+1,⟨?_,⟨?_,⟨⟨trivial,⟨rfl,⟨trivial,⟨trivial,⟨trivial,⟨rfl,⟨?_,⟨?_,⟨rfl,⟨rfl,⟨trivial,⟨rfl,⟨rfl,⟨rfl,trivial⟩⟩⟩⟩⟩⟩⟩⟩⟩⟩⟩⟩⟩⟩,⟨⟨rfl,⟨?_,⟨?_,trivial⟩⟩⟩,⟨⟨rfl,⟨rfl,⟨rfl,trivial⟩⟩⟩,⟨⟨trivial,⟨trivial,trivial⟩⟩,⟨rfl,⟨rfl,⟨⟨trivial,⟨trivial,trivial⟩⟩,trivial⟩⟩⟩⟩⟩⟩⟩⟩⟩⟩⟩⟩⟩⟩,λ dK=>⟨λ eK=>⟨?_,⟨?_,⟨(),⟨?_,⟨⟨trivial,⟨rfl,⟨trivial,⟨trivial,⟨trivial,⟨rfl,⟨?_,⟨rfl,⟨rfl,⟨trivial,⟨rfl,⟨rfl,⟨rfl,trivial⟩⟩⟩⟩⟩⟩⟩⟩⟩⟩⟩⟩⟩,⟨⟨rfl,⟨?_,⟨?_,trivial⟩⟩⟩,⟨⟨?_,⟨?_,⟨?_,trivial⟩⟩⟩,⟨⟨trivial,⟨trivial,trivial⟩⟩,⟨?_,⟨?_,⟨⟨trivial,⟨trivial,trivial⟩⟩,trivial⟩⟩⟩⟩⟩⟩⟩⟩⟩⟩⟩,λ eK=>⟨?_,λ fi=>⟨?_,⟨?_,⟨j2+1,⟨?_,⟨?_,⟨⟨trivial,⟨rfl,⟨trivial,⟨trivial,⟨trivial,⟨rfl,⟨?_,⟨?_,⟨rfl,⟨rfl,⟨trivial,⟨rfl,⟨rfl,⟨rfl,trivial⟩⟩⟩⟩⟩⟩⟩⟩⟩⟩⟩⟩⟩⟩,⟨⟨rfl,⟨?_,⟨?_,trivial⟩⟩⟩,⟨⟨rfl,⟨rfl,⟨rfl,trivial⟩⟩⟩,⟨⟨trivial,⟨trivial,trivial⟩⟩,⟨rfl,⟨rfl,⟨⟨trivial,⟨trivial,trivial⟩⟩,trivial⟩⟩⟩⟩⟩⟩⟩⟩⟩⟩⟩⟩⟩⟩⟩⟩⟩⟩⟩⟩⟩,λ a6=>⟨(),⟨?_,⟨⟨trivial,⟨rfl,⟨trivial,⟨trivial,⟨trivial,⟨rfl,⟨?_,⟨rfl,⟨rfl,⟨trivial,⟨rfl,⟨rfl,⟨rfl,trivial⟩⟩⟩⟩⟩⟩⟩⟩⟩⟩⟩⟩⟩,⟨⟨rfl,⟨?_,⟨?_,trivial⟩⟩⟩,⟨⟨?_,⟨?_,⟨?_,trivial⟩⟩⟩,⟨⟨trivial,⟨trivial,trivial⟩⟩,⟨?_,⟨?_,⟨⟨trivial,⟨trivial,trivial⟩⟩,trivial⟩⟩⟩⟩⟩⟩⟩⟩⟩⟩⟩,λ u2=>λ a5=>⟨λ a6=>⟨?_,⟨?_,⟨i1+1,⟨?_,⟨?_,⟨⟨trivial,⟨rfl,⟨trivial,⟨trivial,⟨trivial,⟨?_,trivial⟩⟩⟩⟩⟩⟩,⟨⟨rfl,⟨?_,⟨?_,trivial⟩⟩⟩,⟨⟨?_,⟨?_,⟨?_,trivial⟩⟩⟩,⟨⟨trivial,⟨trivial,trivial⟩⟩,⟨?_,⟨?_,⟨⟨trivial,⟨trivial,trivial⟩⟩,trivial⟩⟩⟩⟩⟩⟩⟩⟩⟩⟩⟩⟩,λ a6=>⟨?_,⟨i1+1,⟨?_,⟨?_,⟨⟨trivial,⟨rfl,⟨trivial,⟨trivial,⟨trivial,⟨?_,trivial⟩⟩⟩⟩⟩⟩,⟨⟨rfl,⟨?_,⟨?_,trivial⟩⟩⟩,⟨⟨?_,⟨?_,⟨?_,trivial⟩⟩⟩,⟨⟨trivial,⟨trivial,trivial⟩⟩,⟨?_,⟨?_,⟨⟨trivial,⟨trivial,trivial⟩⟩,trivial⟩⟩⟩⟩⟩⟩⟩⟩⟩⟩⟩⟩⟩⟩⟩,λ a3=>⟨?_,⟨⟨rfl,⟨?_,?_⟩⟩,trivial⟩⟩⟩⟩⟩⟩⟩⟩
 all_goals try and_intros
 all_goals (try simp only[yY,O.eta,Bool.not_false,Bool.not_true,Bool.not_eq_true',Bool.not_eq_false',decide_eq_true_eq,decide_eq_false_iff_not,aV,ag,cE,List.length_append,List.length_cons,List.length_nil] at *)<;>first|with_reducible rfl|exact True.intro|exact Bool.noConfusion (show false=true by with_reducible assumption)|exact Bool.noConfusion (show true=false by with_reducible assumption)|exact Bool.noConfusion (ho.symm.trans (show jS gg e=false by with_reducible assumption))|omega|with_reducible assumption|exact hs.mono (by decide)|exact (hs.next _).mono (by decide)|exact ((hs.next _).next _).mono (by decide)|exact yL _ (by omega)|(unfold cV;omega)|(rw[a1U J gg e _ (by with_reducible assumption)]<;>rfl)|exact a2O _ _ _ _|(rw[a4M];done)|(rw[a4O];done)|(rw[a4N];done)|(rw[a4P];done)|(simp only[a3K];done)|(have q:=F1 i1 (by omega);first|exact q.g|(have q1:=q.n;omega)|exact q.sr.mono (by decide)|exact (q.sr.next _).mono (by decide)|(have q1:=q.a;have q2:=q.x;omega)|(have q1:=q.a;have q3:(fA J gg e (Sr.mk U M) i1).az.length<=(aU J gg e (Sr.mk U M) i1).az.length+1:=Yl _ _;omega))|(have q:=F1 i1 (by omega);have hT:L0 J gg (cV J (Sr.mk U M) - (i1:Int)) (aU J gg e (Sr.mk U M) i1) j2:=(by with_reducible assumption);have t:=a1T J gg e (Sr.mk U M) i1 j2 hg q hT.le;have t1:=t.a;have t2:=hT.le;first|omega|exact t.sr.mono (by decide)|exact (t.sr.next _).mono (by decide)|(have B:=RP J gg e _ i1 _ _ _ (W6 J gg _ _ j2 hT (by omega));first|exact B.q.symm|(rw[B.r]<;>rfl))|(have B:=RP J gg e _ i1 _ _ _ (W5 J gg _ _ j2 hT (by omega) (by first|exact br1 (by omega) (by with_reducible assumption)|exact br2 (by omega)));first|exact B.q.symm|(rw[B.r]<;>rfl))|(have B:=W4 J gg e _ i1 _ _ _ (W7 J gg _ _ j2 hT (by omega) (by first|exact nb1 (by omega) (by omega)|exact nb2 (by with_reducible assumption) (by omega)) (hi1 (by omega) (by with_reducible assumption) (by with_reducible assumption)));first|exact B.q.symm|(rw[B.r]<;>rfl))|exact W8 J gg _ _ j2 hT (by omega) (by first|exact nb1 (by omega) (by omega)|exact nb2 (by with_reducible assumption) (by omega)) (by first|exact nh1 (by omega)|exact nh2 (by with_reducible assumption)|exact nh3 (by with_reducible assumption)))|(rw[W9,a2C _ _ _ (by omega)]<;>rfl)|(rw[W9,a2D _ _ _ (by omega)]<;>rfl)|(rw[a1R J gg e _ i1 (by with_reducible assumption) (by omega) (by omega) (by omega)]<;>rfl)
theorem zV:fY.Good gO:=CB ⟨yd,jF,oJ,qA,uh,Fq,trivial⟩ trivial trivial ⟨dm,lY,yS,trivial⟩
end
end Go.Proofs.YtnehkikdlnmebaaGreatDoor

set_option maxRecDepth 4000
set_option maxHeartbeats 4000000
namespace Go.Proofs.YtnehkikdlnmebaaGreatDoor
noncomputable section
def jO:fY:=⟨sq,[[.d (.slice (.int .u8)), .d (.int .i64), .d (.int .u64)]],[.b 0, .v (.st .sig), .v (.int .i64)],[[(.slice (.int .u8)),(.int .i64),(.int .u64)]],λ (gg:aD) (n:Int) (J:List Int) (U:Int) (M:Int)=>⟨(some ((bz J (Sr.mk U M) 890000000/\aY gg=true)/\0<=n/\n<=1000),[⟨(.st .expr),(bZ J gg.aE gg.ai 6 false (Sr.mk U M) n).e⟩],[[⟨(.slice (.int .u8)),J⟩,⟨(.int .i64),(bZ J gg.aE gg.ai 6 false (Sr.mk U M) n).s.U⟩,⟨(.int .u64),(bZ J gg.aE gg.ai 6 false (Sr.mk U M) n).s.M⟩]])⟩⟩
def wV(gg:aD)(n:Int)(J:List Int)(U:Int)(M:Int):Nat->aX:=λ _ => .none
theorem Gi(gg:aD)(n:Int)(J:List Int)(U:Int)(M:Int):cU (dj [] [] [] [14] [] [] [4] [jP]) (aF iA) (wV gg n J U M) 0 (gS (dj [] [] [] [14] [] [] [4] [jP]) iA [[.d (.slice (.int .u8)), .d (.int .i64), .d (.int .u64)]] λ r ds=>bH r [⟨(.st .expr),(bZ J gg.aE gg.ai 6 false (Sr.mk U M) n).e⟩]/\jv ds [[⟨(.slice (.int .u8)),J⟩,⟨(.int .i64),(bZ J gg.aE gg.ai 6 false (Sr.mk U M) n).s.U⟩,⟨(.int .u64),(bZ J gg.aE gg.ai 6 false (Sr.mk U M) n).s.M⟩]]) (cB iA [.box 0, .val ⟨(.st .sig),gg⟩, .val ⟨(.int .i64),n⟩] [[.d (.slice (.int .u8)), .d (.int .i64), .d (.int .u64)]] [[⟨(.slice (.int .u8)),J⟩,⟨(.int .i64),U⟩,⟨(.int .u64),M⟩]]) =
 (((bz J (Sr.mk U M) (980000000 - 16 * (wG (6:Int).toNat:Int))/\(0<=gg.aE/\gg.aE<=3)/\(0<=gg.ai/\gg.ai<=4)/\(6:Int)<=10 /\ -1000000+(wG (6:Int).toNat:Int)<=n/\n<=1000000)/\((aC ((bZ J gg.aE gg.ai (6:Int).toNat false (Sr.mk U M) n).e))=((bZ J gg.aE gg.ai 6 false (Sr.mk U M) n).e)/\((J=J/\(((bZ J gg.aE gg.ai (6:Int).toNat false (Sr.mk U M) n).s.U)=((bZ J gg.aE gg.ai 6 false (Sr.mk U M) n).s.U)/\((bZ J gg.aE gg.ai (6:Int).toNat false (Sr.mk U M) n).s.M)=((bZ J gg.aE gg.ai 6 false (Sr.mk U M) n).s.M)))/\True)))):=by kernel_rfl
theorem FY(hE:aQ [])(hO:iE [])(hM:iS [])(hS:gU [jP]):fY.Good jO:=by
 refine⟨aG wk rfl (by decide),?_⟩
 show ∀ (gg:aD) (n:Int) (J:List Int) (U:Int) (M:Int),((bz J (Sr.mk U M) 890000000/\aY gg=true)/\0<=n/\n<=1000)->p7 prog sq [[.d (.slice (.int .u8)), .d (.int .i64), .d (.int .u64)]] [.box 0, .val ⟨(.st .sig),gg⟩, .val ⟨(.int .i64),n⟩] [[⟨(.slice (.int .u8)),J⟩,⟨(.int .i64),U⟩,⟨(.int .u64),M⟩]] [⟨(.st .expr),(bZ J gg.aE gg.ai 6 false (Sr.mk U M) n).e⟩] [[⟨(.slice (.int .u8)),J⟩,⟨(.int .i64),(bZ J gg.aE gg.ai 6 false (Sr.mk U M) n).s.U⟩,⟨(.int .u64),(bZ J gg.aE gg.ai 6 false (Sr.mk U M) n).s.M⟩]]
 intro gg n J U M hp
 refine eN (own:=[14]) (wr:=[]) (cl:=[]) (ro:=[4]) hE hO hM hS wk DA (wV gg n J U M) rfl rfl ?_
 rewrite [Gi gg n J U M]
 have hg:=(nM gg).1 hp.1.2
 have hw:wG (Int.toNat 6)=127:=rfl
 refine⟨?_,⟨?_,⟨⟨rfl,⟨?_,?_⟩⟩,trivial⟩⟩⟩
 all_goals try and_intros
 all_goals try simp only[O.eta,bE] at *
 all_goals (try simp only[yY,O.eta,a5M,a5N] at *);first|rfl|trivial|omega|exact hp.1.1.mono (by omega)
theorem CH:fY.Good jO:=FY trivial trivial trivial ⟨yT,trivial⟩
def eG(J:List Int):aD:=x6 J (Sr.mk 0 0)
def eR(J:List Int):Gn:=bZ J (eG J).aE (eG J).ai 6 false (vQ J (Sr.mk 0 0)) 10
def eX(J:List Int):O:=(eR J).e
structure EF(J:List Int):Prop where
 g:aY (eG J)=true
 s0:bz J (Sr.mk 0 0) 800000000
 s1:bz J (vQ J (Sr.mk 0 0)) 800000000
 ok:jS (eG J) (eX J)=true
theorem e_f(J:List Int)(hb:dT J)(hl:J.length<=1000000):EF J:=by
 have q0:bz J (Sr.mk 0 0) 0:=⟨hb,by decide,by decide,hl,by decide,by decide⟩
 obtain⟨g,q1⟩:=a1M J (Sr.mk 0 0) 0 q0
 have g:aY (eG J)=true:=g
 have hg:=(nM _).1 g
 have hx:=I0 J _ _ hg.1 hg.2 6 false (vQ J (Sr.mk 0 0)) _ 10 q1
 have hw:wG 6=127:=rfl
 refine⟨g,q0.mono (by decide),q1.mono (by decide),?_⟩
 rw[jS,g,a7E,Ng,sy _ (by omega),sy _ (by omega)]
 have n1:=hx.nd
 have n2:=hx.dp
 exact⟨hx.tr,by show ar (bZ _ _ _ _ _ _ _).e<=_;omega,by show bB (bZ _ _ _ _ _ _ _).e<=_;omega⟩
noncomputable def wX(J:List Int)(gg:aD)(e:O):bl:=⟨(ed J gg e (Sr.mk 0 0)).az,(ed J gg e (Sr.mk 0 0)).aA⟩
noncomputable def oF(J:List Int)(gg:aD)(e:O):bl:=if (aY gg&&gu gg (wX J gg e))=true then wX J gg e else ⟨[0],[]⟩
theorem a1v(J:List Int)(gg:aD)(e:O)(h:(aY gg&&gu gg (wX J gg e))=true):wX J gg e=oF J gg e:=(a5T h).symm
theorem a1u(J:List Int)(gg:aD)(e:O)(h:(aY gg&&gu gg (wX J gg e))=false):(⟨[0],[]⟩:bl)=oF J gg e:=(a5J (by rw[h];decide)).symm
theorem Y1(J:List Int)(gg:aD)(e:O)(hg:aY gg=true):gu gg (oF J gg e)=true:=by
 unfold oF
 split
 .rename_i h;rw[a5I] at h;exact h.2
 .have:=tw gg hg
  have e:cQ (aP gg) 0=true:=a6L (by omega)
  simp[gu,Lr,b9,e]
theorem a2r(gg:aD)(e:O)(h:jS gg e=true):aY gg=true/\aL e=true/\ar e<=800:=by
 simp only[jS,a5I] at h
 have h2:=(Ng gg e).1 h.2
 have hg:=(nM gg).1 h.1
 have h3:=h2.1
 rw[sy _ (by omega),sy _ (by omega)] at h3
 exact⟨h.1,xh _ _ 9 9 (by omega) (by omega) e h3,by have:=h2.2.1;omega⟩
def jr:bb:=⟨vC,[.v (.slice (.int .u8))],λ (J:List Int)=>⟨(some (dT J/\J.length<=1000000),[⟨(.st .sig),eG J⟩,⟨(.st .expr),eX J⟩])⟩⟩
def AK(J:List Int):Nat->aX:=λ _ => .none
abbrev qK(J:List Int):Prop:=((x6 J (Sr.mk (0:Int) (0:Int))).aE=(x6 J (Sr.mk (0:Int) (0:Int))).aE/\((x6 J (Sr.mk (0:Int) (0:Int))).ai=(x6 J (Sr.mk (0:Int) (0:Int))).ai/\True))
theorem J9(J:List Int):cU (dj [] [] [] [13] [] [] [] [gN,jO]) (aF kF) (AK J) 0 (mn (dj [] [] [] [13] [] [] [] [gN,jO]) kF λ r=>bH r [⟨(.st .sig),eG J⟩,⟨(.st .expr),eX J⟩]) (rz kF [.val ⟨(.slice (.int .u8)),J⟩]) =
 ((bz J (Sr.mk (0:Int) (0:Int)) 900000000/\((qK J)/\(((7:Nat)=7/\(0:Nat)=0)/\((qK J)/\(((bz J (vQ J (Sr.mk (0:Int) (0:Int))) 890000000/\aY (x6 J (Sr.mk (0:Int) (0:Int)))=true)/\0<=(10:Int)/\(10:Int)<=1000)/\((qK J)/\((x6 J (Sr.mk (0:Int) (0:Int)))=(eG J)/\(aC ((bZ J (x6 J (Sr.mk (0:Int) (0:Int))).aE (x6 J (Sr.mk (0:Int) (0:Int))).ai 6 false (vQ J (Sr.mk (0:Int) (0:Int))) (10:Int)).e))=(eX J))))))))):=by kernel_rfl
theorem JG(hE:aQ [])(hO:iE [])(hM:iS [])(hS:gU [gN,jO]):bb.lM jr:=by
 refine⟨aG Ah rfl (by decide),?_⟩
 show ∀ (J:List Int),(dT J/\J.length<=1000000)->ng prog vC [.val ⟨(.slice (.int .u8)),J⟩] [⟨(.st .sig),eG J⟩,⟨(.st .expr),eX J⟩]
 intro J hp
 refine lK (own:=[13]) (wr:=[]) (cl:=[]) (ro:=[]) hE hO hM hS Ah GG (AK J) ?_
 rewrite [J9 J]
 have F:=e_f J hp.1 hp.2
 refine⟨?_,⟨⟨rfl,⟨rfl,?_⟩⟩,⟨⟨?_,?_⟩,⟨⟨rfl,⟨rfl,?_⟩⟩,⟨?_,⟨⟨rfl,⟨rfl,?_⟩⟩,⟨?_,?_⟩⟩⟩⟩⟩⟩⟩
 all_goals try and_intros
 all_goals try simp only[O.eta,bE] at *
 all_goals (try simp only[yY,O.eta,a5M,a5N,a6g,a5Z] at *);first|rfl|trivial|omega|exact F.g|exact F.s0.mono (by decide)|exact F.s1.mono (by decide)
theorem FP:bb.lM jr:=JG trivial trivial trivial ⟨zU,CH,trivial⟩
def nz:bb:=⟨vD,[.v (.slice (.int .u8)), .v (.st .sig), .v (.st .expr)],λ (J:List Int) (gg:aD) (e:O)=>⟨(some (dT J/\J.length<=1000000/\jS gg e=true),[⟨(.st .word),oF J gg e⟩])⟩⟩
def Ch(J:List Int)(gg:aD)(e:O):Nat->aX:=(λ zb=>if Nat.beq zb 100003 then .mk (Unit) (λ u=>True) (λ u=>0) [1400,1401] [0,1,2,3,5,7,9,10,11,12,13] (λ u=>[(8, .ptr 8 0)]) [4,6,14,15,16,17,18] (λ u=>[(8, .box [.aS ⟨(.slice (.int .i64)),((ed J gg e (Sr.mk 0 0)).az:List Int)⟩, .aS ⟨(.slice (.int .i64)),((ed J gg e (Sr.mk 0 0)).aA:List Int)⟩])]) [] [] (λ u=>λ _ => .none) else .none)
theorem Lz(J:List Int)(gg:aD)(e:O):cU (dj [fe] [] [] [13] [] [] [4,5] [gO]) (aF kG) (Ch J gg e) 0 (bC (dj [fe] [] [] [13] [] [] [4,5] [gO]) kG λ r=>bH r [⟨(.st .word),oF J gg e⟩]) (aO kG [.val ⟨(.slice (.int .u8)),J⟩, .val ⟨(.st .sig),gg⟩, .val ⟨(.st .expr),e⟩]) =
 ((((bz J (Sr.mk (0:Int) (0:Int)) 850000000/\aY gg=true/\aL e=true/\ar e<=800/\jS gg e=true)/\(∃ u1:Unit,(True/\((gg=gg/\(True/\(True/\True)))/\(((bl.mk (ed J gg e (Sr.mk (0:Int) (0:Int))).az (ed J gg e (Sr.mk (0:Int) (0:Int))).aA).az=((ed J gg e (Sr.mk 0 0)).az)/\((bl.mk (ed J gg e (Sr.mk (0:Int) (0:Int))).az (ed J gg e (Sr.mk (0:Int) (0:Int))).aA).aA=((ed J gg e (Sr.mk 0 0)).aA)/\True))/\((True/\(True/\True))/\True))))))/\(∀ u1:Unit,(True ->
 (((aY gg&&gu gg (bl.mk ((ed J gg e (Sr.mk 0 0)).az) ((ed J gg e (Sr.mk 0 0)).aA)))=true ->
 (bl.mk ((ed J gg e (Sr.mk 0 0)).az) ((ed J gg e (Sr.mk 0 0)).aA))=(oF J gg e))/\((aY gg&&gu gg (bl.mk ((ed J gg e (Sr.mk 0 0)).az) ((ed J gg e (Sr.mk 0 0)).aA)))=false ->
 (bl.mk ([(0:Int)]) [])=(oF J gg e))))))):=by kernel_rfl
theorem Ll(hE:aQ [fe])(hO:iE [])(hM:iS [])(hS:gU [gO]):bb.Good nz:=by
 refine⟨aG Ai rfl (by decide),?_⟩
 show ∀ (J:List Int) (gg:aD) (e:O),(dT J/\J.length<=1000000/\jS gg e=true)->bD prog vD [.val ⟨(.slice (.int .u8)),J⟩, .val ⟨(.st .sig),gg⟩, .val ⟨(.st .expr),e⟩] (·=[⟨(.st .word),oF J gg e⟩])
 intro J gg e hp
 refine KH (own:=[13]) (wr:=[]) (cl:=[]) (ro:=[4,5]) hE hO hM hS Ai GH (Ch J gg e) ?_
 rewrite [Lz J gg e]
 obtain⟨hb,hl,ho⟩:=hp
 obtain⟨hg,he,hn⟩:=a2r gg e ho
 have q0:bz J (Sr.mk 0 0) 0:=⟨hb,by decide,by decide,hl,by decide,by decide⟩
 refine⟨⟨?_,⟨(),⟨?_,⟨⟨rfl,⟨trivial,⟨trivial,trivial⟩⟩⟩,⟨⟨?_,⟨?_,trivial⟩⟩,⟨⟨trivial,⟨trivial,trivial⟩⟩,trivial⟩⟩⟩⟩⟩⟩,λ u1=>λ a0=>⟨λ a1=>?_,λ a1=>?_⟩⟩
 all_goals try and_intros
 all_goals (try simp only[yY,O.eta,a5M,a5N,a6g,a5Z] at *)<;>first|rfl|trivial|omega|with_reducible assumption|exact q0.mono (by decide)|(rw[<-a1v J gg e (by assumption)]<;>rfl)|(rw[<-a1u J gg e (by assumption)]<;>rfl)
theorem Hf:bb.Good nz:=Ll ⟨u9,trivial⟩ trivial trivial ⟨zV,trivial⟩
end
end Go.Proofs.YtnehkikdlnmebaaGreatDoor

set_option maxRecDepth 4000
set_option maxHeartbeats 4000000
namespace Go.Proofs.YtnehkikdlnmebaaGreatDoor
noncomputable section
def Uq(k:Nat)(s:List UInt8):List UInt8:=if k % 2=1 then s.drop 1 else s
def yf(s:List UInt8):Bool:=decide (1<=s.length)&&decide ((s.getD 0 0).toNat=97)
def HX(m:Int)(ps:List (List UInt8))(k:Nat):Bool:=(decide (k % 2=0)||yf (ps.getD k []))&&gD m (Uq k (ps.getD k []))
def mC(ps:List (List UInt8)):Nat->List Int
 | 0=>[]
 | k+1=>if k % 2=1 then mC ps k else mC ps k++[jC (Uq k (ps.getD k []))]
def mK(ps:List (List UInt8)):Nat->List Int
 | 0=>[]
 | k+1=>if k % 2=1 then mK ps k++[jC (Uq k (ps.getD k []))] else mK ps k
theorem UT(ps:List (List UInt8)):∀ k,(mC ps k).length+(mK ps k).length=k
 | 0=>rfl
 | k+1=>by
  have:=UT ps k
  simp only[mC,mK]
  split<;>simp<;>omega
theorem LJ(ps:List (List UInt8))(k:Nat)(h:k % 2=1):mC ps (k+1)=mC ps k/\mK ps (k+1)=mK ps k++[jC ((ps.getD k []).drop 1)]:=by
 simp[mC,mK,h,Uq]
theorem BG(ps:List (List UInt8))(k:Nat)(h:¬ k % 2=1):mC ps (k+1)=mC ps k++[jC (ps.getD k [])]/\mK ps (k+1)=mK ps k:=by
 simp[mC,mK,h,Uq]
theorem HY(m:Int)(ps:List (List UInt8))(k:Nat)(h:k % 2=1):HX m ps k=(yf (ps.getD k [])&&gD m ((ps.getD k []).drop 1)):=by
 have:¬ k % 2=0:=by omega
 simp[HX,Uq,h]
theorem JI(m:Int)(ps:List (List UInt8))(k:Nat)(h:¬ k % 2=1):HX m ps k=gD m (ps.getD k []):=by
 have:k % 2=0:=by omega
 simp[HX,Uq,h,this]
theorem Zp(s:List UInt8):(decide (([97]:List UInt8).length<=s.length)&&decide (s.take ([97]:List UInt8).length=[97]))=yf s:=by
 unfold yf
 cases s with
 | nil=>rfl
 | cons b s =>
  have e:(b=97)↔b.toNat=97:=⟨λ h=>by rw[h];rfl,λ h=>UInt8.toNat_inj.1 h⟩
  simp[e]
def QS(ps:List (List UInt8)):bl:=⟨mC ps ps.length,mK ps ps.length⟩
def QR(gg:aD)(m:Int)(ps:List (List UInt8)):Bool:=D8 (HX m ps) ps.length&&gu gg (QS ps)
def JK(gg:aD)(t:List UInt8):Bool:=decide (t.length<=100)&&QR gg 1 (bf 32 t)
def tu(gg:aD)(t:List UInt8):bl:=bif aY gg&&JK gg t then QS (bf 32 t) else ⟨[],[]⟩
def oS(gg:aD)(t:List UInt8):Int:=bif aY gg then (bif JK gg t then 0 else 5) else 1
theorem Rm(p:Nat->Bool):∀ (n:Nat),(∀ k,k<n->p k=true)->D8 p n=true
 | 0,_=>rfl
 | n+1,h=>by simp only[D8,a5I];exact⟨Rm p n λ k hk=>h k (by omega),h n (by omega)⟩
theorem Tw(t:List UInt8):(bf 32 t).length<=t.length+1:=OX 32 t
theorem a3q:bt 32=32:=rfl
theorem tm2(k:Nat):(k:Int).tmod 2=((k % 2:Nat):Int):=by
 rw[a9a (by omega)];rfl
theorem Zq(s:List UInt8):(decide (1<=s.length)&&decide (s.take 1=[97]))=yf s:=Zp s
theorem VO(s:List UInt8)(h:yf s=true):1<=s.length:=by
 simp only[yf,a5I,a5M] at h;exact h.1
theorem Zr(s:List UInt8)(h:1<=s.length)(h2:(s.getD 0 0).toNat=97):yf s=true:=by
 unfold yf;rw[decide_eq_true h,decide_eq_true h2];rfl
theorem U0(s:List UInt8)(h:s.length<1\/¬ (s.getD 0 0).toNat=97):yf s=false:=by
 unfold yf
 rw[a8p,a5N,a5N];omega
theorem Yt(gg:aD)(t:List UInt8)(h:aY gg=false):tu gg t=⟨[],[]⟩/\oS gg t=1:=by simp[tu,oS,h]
theorem NS(gg:aD)(t:List UInt8)(h:aY gg=true)(hb:JK gg t=false):tu gg t=⟨[],[]⟩/\oS gg t=5:=by simp[tu,oS,h,hb]
theorem SO(gg:aD)(t:List UInt8)(h:aY gg=true)(hl:100<t.length):tu gg t=⟨[],[]⟩/\oS gg t=5 :=
 NS gg t h (by unfold JK;rw[decide_eq_false (by omega)];rfl)
theorem Wj(gg:aD)(t:List UInt8)(hl:t.length<=100):JK gg t=QR gg 1 (bf 32 t):=by
 unfold JK;rw[decide_eq_true hl];rfl
structure D1(gg:aD)(m:Int)(t:List UInt8)(k:Nat):Prop where
 sig:aY gg=true
 eq:JK gg t=QR gg m (bf 32 t)
 le:k<=(bf 32 t).length
 all:D8 (HX m (bf 32 t)) k=true
theorem Ys(gg:aD)(m:Int)(t:List UInt8)(h:aY gg=true)(e:JK gg t=QR gg m (bf 32 t)):D1 gg m t 0:=⟨h,e,a6N _,rfl⟩
theorem Vi(gg:aD)(m:Int)(t:List UInt8)(k:Nat)(h:D1 gg m t k)(hk:k<(bf 32 t).length)(hb:HX m (bf 32 t) k=false):tu gg t=⟨[],[]⟩/\oS gg t=5 :=
 NS gg t h.sig (by rw[h.eq];unfold QR;rw[OL _ _ k hk hb];rfl)
theorem Yr(gg:aD)(m:Int)(t:List UInt8)(k:Nat)(h:D1 gg m t k)(hk:k<(bf 32 t).length)(hb:HX m (bf 32 t) k=true):D1 gg m t (k+1) :=
 ⟨h.sig,h.eq,hk,by rw[Ti,h.all,hb];rfl⟩
theorem Uw(gg:aD)(m:Int)(t:List UInt8)(k:Nat)(h:D1 gg m t k)(hk:(bf 32 t).length<=k)(hb:gu gg ⟨mC (bf 32 t) k,mK (bf 32 t) k⟩=false):tu gg t=⟨[],[]⟩/\oS gg t=5:=by
 have e:k=(bf 32 t).length:=Nat.le_antisymm h.le hk
 subst e
 exact NS gg t h.sig (by rw[h.eq];unfold QR QS;rw[hb,Bool.and_false])
theorem QP(gg:aD)(m:Int)(t:List UInt8)(k:Nat)(h:D1 gg m t k)(hk:(bf 32 t).length<=k)(hb:gu gg ⟨mC (bf 32 t) k,mK (bf 32 t) k⟩=true):tu gg t=⟨mC (bf 32 t) k,mK (bf 32 t) k⟩/\oS gg t=0:=by
 have e:k=(bf 32 t).length:=Nat.le_antisymm h.le hk
 subst e
 have hi:JK gg t=true:=by rw[h.eq];unfold QR QS;rw[hb,h.all];rfl
 simp[tu,oS,h.sig,hi,QS]
theorem Vj(gg:aD)(m:Int)(t:List UInt8)(k:Nat)(h:D1 gg m t k)(hk:(bf 32 t).length<=k)(hb:(aY gg&&gu gg ⟨mC (bf 32 t) k,mK (bf 32 t) k⟩)=false):tu gg t=⟨[],[]⟩/\oS gg t=5 :=
 Uw gg m t k h hk (by rw[h.sig] at hb;exact hb)
theorem SN(gg:aD)(m:Int)(t:List UInt8)(k:Nat)(h:D1 gg m t k)(hk:(bf 32 t).length<=k)(hb:(aY gg&&gu gg ⟨mC (bf 32 t) k,mK (bf 32 t) k⟩)=true):tu gg t=⟨mC (bf 32 t) k,mK (bf 32 t) k⟩/\oS gg t=0 :=
 QP gg m t k h hk (by rw[h.sig] at hb;exact hb)
theorem QH(m:Int)(ps:List (List UInt8))(k:Nat)(ho:k % 2=1)(h:yf (ps.getD k [])=false):HX m ps k=false:=by rw[HY m ps k ho,h];rfl
theorem Yf(m:Int)(ps:List (List UInt8))(k:Nat)(ho:k % 2=1)(h:gD m ((ps.getD k []).drop 1)=false):HX m ps k=false:=by rw[HY m ps k ho,h,a8f]
theorem Yg(m:Int)(ps:List (List UInt8))(k:Nat)(ho:k % 2=1)(h0:yf (ps.getD k [])=true)(h:gD m ((ps.getD k []).drop 1)=true):HX m ps k=true:=by rw[HY m ps k ho,h0,h];rfl
theorem Ye(m:Int)(ps:List (List UInt8))(k:Nat)(ho:¬ k % 2=1)(h:gD m (ps.getD k [])=false):HX m ps k=false:=by rw[JI m ps k ho,h]
theorem a2v(m:Int)(ps:List (List UInt8))(k:Nat)(ho:¬ k % 2=1)(h:gD m (ps.getD k [])=true):HX m ps k=true:=by rw[JI m ps k ho,h]
theorem a4I(m:Int)(ps:List (List UInt8))(k:Nat)(ho:k % 2=1)(h:gD m ((ps.getD k []).drop 1)=true):mK ps k++[iV m ((ps.getD k []).drop 1)]=mK ps (k+1):=by
 rw[(LJ ps k ho).2]
 unfold iV
 rw[h];rfl
theorem a4H(m:Int)(ps:List (List UInt8))(k:Nat)(ho:¬ k % 2=1)(h:gD m (ps.getD k [])=true):mC ps k++[iV m (ps.getD k [])]=mC ps (k+1):=by
 rw[(BG ps k ho).1]
 unfold iV
 rw[h];rfl
def gB:bb:=⟨r9,[.v (.st .sig), .v .str],λ (gg:aD) (t:List UInt8)=>⟨(some (t.length<=1048576),[⟨(.st .word),tu gg t⟩,⟨(.int .i64),oS gg t⟩])⟩⟩
def wT(gg:aD)(t:List UInt8):Nat->aX:=(λ zb=>if Nat.beq zb 0 then .mk (Nat) (λ k=>D1 gg 1 t k) (λ k=>(bf 32 t).length - k) [] [0,1,3,11,12,13,14,15,16,17,18,19,20] (λ k=>[(23, .aS ⟨(.int .i64),((k:Int):Int)⟩)]) [2,4,5,7,8,9,10,21,22,23,24,25,26,27,28,29,30,31,32,33,34,35,36,37,38,39,40,41,42,43,44,45,46,47,48,49,50,51,52,53,54,55,56,57,58,59,60,61,62,63,64,65,66] (λ k=>[(6, .box [.aB 5800, .aB 5200]),(5800, .aB (.int .i64) (mC (bf 32 t) k:List Int)),(5200, .aB (.int .i64) (mK (bf 32 t) k:List Int))]) [] [] (λ k=>λ _ => .none) else .none)
abbrev kf(gg:aD)(t:List UInt8)(k1:Nat)(k2:Nat):Prop:=(gg=gg/\(True/\(True/\((bf (([32]).getD 0 0) t)=(bf (([32]).getD 0 0) t)/\((((bf (([32]).getD 0 0) t).length:Int))=(((bf (([32]).getD 0 0) t).length:Int))/\(((k1:Int)+(1:Int))=(k2:Int)/\True))))))
theorem Gf(gg:aD)(t:List UInt8):cU (dj [cG,ot,dw,nx,gh] [] [] [51,52,57,58] [] [] [2]) (aF ie) (wT gg t) 0 (mn (dj [cG,ot,dw,nx,gh] [] [] [51,52,57,58] [] [] [2]) ie λ r=>bH r [⟨(.st .word),tu gg t⟩,⟨(.int .i64),oS gg t⟩]) (rz ie [.val ⟨(.st .sig),gg⟩, .val ⟨.str,t⟩]) =
 ((((!(aY gg))=true ->
 ((bl.mk [] [])=(tu gg t)/\(1:Int)=(oS gg t)))/\((!(aY gg))=false ->
 (ag ((t.length:Int)) ->
 (((decide ((100:Int)<((t.length:Int))))=true ->
 ((bl.mk [] [])=(tu gg t)/\(5:Int)=(oS gg t)))/\((decide ((100:Int)<((t.length:Int))))=false ->
 ((([32]).length=1/\t.length<=1048576)/\((bf (([32]).getD 0 0) t).length<=140737488355328 ->
 (ag (((bf (([32]).getD 0 0) t).length:Int)) ->
 ((∃ k1:Nat,(D1 gg 1 t k1/\((gg=gg/\(True/\(True/\((bf (([32]).getD 0 0) t)=(bf (([32]).getD 0 0) t)/\((((bf (([32]).getD 0 0) t).length:Int))=(((bf (([32]).getD 0 0) t).length:Int))/\((0:Int)=(k1:Int)/\True))))))/\((True/\(True/\True))/\((mC (bf 32 t) k1)=[]/\((mK (bf 32 t) k1)=[]/\((True/\(True/\True))/\True)))))))/\(∀ k1:Nat,(D1 gg 1 t k1 ->
 (((decide ((k1:Int)<(((bf (([32]).getD 0 0) t).length:Int))))=true ->
 (aV (k1:Int) (bf (([32]).getD 0 0) t).length/\(((bf (([32]).getD 0 0) t).getD k1 []).length<=140737488355328 ->
 (((2:Int)≠(0:Int)/\ag ((k1:Int).tmod (2:Int)))/\(((decide (((k1:Int).tmod (2:Int))=(1:Int)))=true ->
 (((!(decide (([97]).length<=((bf (([32]).getD 0 0) t).getD k1 []).length)&&decide (((bf (([32]).getD 0 0) t).getD k1 []).take ([97]).length=([97]))))=true ->
 ((bl.mk [] [])=(tu gg t)/\(5:Int)=(oS gg t)))/\((!(decide (([97]).length<=((bf (([32]).getD 0 0) t).getD k1 []).length)&&decide (((bf (([32]).getD 0 0) t).getD k1 []).take ([97]).length=([97]))))=false ->
 (iW (1:Int) ((((bf (([32]).getD 0 0) t).getD k1 []).length:Int)) ((bf (([32]).getD 0 0) t).getD k1 []).length/\((0<=(1:Int)/\(1:Int)<=9)/\(ag (iV (1:Int) ((((bf (([32]).getD 0 0) t).getD k1 []).take (Int.toNat ((((bf (([32]).getD 0 0) t).getD k1 []).length:Int)))).drop 1)) ->
 (((!(gD (1:Int) ((((bf (([32]).getD 0 0) t).getD k1 []).take (Int.toNat ((((bf (([32]).getD 0 0) t).getD k1 []).length:Int)))).drop 1)))=true ->
 ((bl.mk [] [])=(tu gg t)/\(5:Int)=(oS gg t)))/\((!(gD (1:Int) ((((bf (([32]).getD 0 0) t).getD k1 []).take (Int.toNat ((((bf (([32]).getD 0 0) t).getD k1 []).length:Int)))).drop 1)))=false ->
 (((2:Int)≠(0:Int)/\ag ((k1:Int).tmod (2:Int)))/\(((decide (((k1:Int).tmod (2:Int))=(1:Int)))=true ->
 (cE ((mK (bf 32 t) k1).length+([(iV (1:Int) ((((bf (([32]).getD 0 0) t).getD k1 []).take (Int.toNat ((((bf (([32]).getD 0 0) t).getD k1 []).length:Int)))).drop 1))]).length) 8/\(ag ((k1:Int)+(1:Int))/\(∃ k2:Nat,(D1 gg 1 t k2/\((bf 32 t).length - k2<(bf 32 t).length - k1/\((kf gg t k1 k2)/\((True/\(True/\True))/\((mC (bf 32 t) k1)=(mC (bf 32 t) k2)/\(((mK (bf 32 t) k1)++([(iV (1:Int) ((((bf (([32]).getD 0 0) t).getD k1 []).take (Int.toNat ((((bf (([32]).getD 0 0) t).getD k1 []).length:Int)))).drop 1))]))=(mK (bf 32 t) k2)/\((True/\(True/\True))/\True)))))))))))/\((decide (((k1:Int).tmod (2:Int))=(1:Int)))=false ->
 (cE ((mC (bf 32 t) k1).length+([(iV (1:Int) ((((bf (([32]).getD 0 0) t).getD k1 []).take (Int.toNat ((((bf (([32]).getD 0 0) t).getD k1 []).length:Int)))).drop 1))]).length) 8/\(ag ((k1:Int)+(1:Int))/\(∃ k2:Nat,(D1 gg 1 t k2/\((bf 32 t).length - k2<(bf 32 t).length - k1/\((kf gg t k1 k2)/\((True/\(True/\True))/\(((mC (bf 32 t) k1)++([(iV (1:Int) ((((bf (([32]).getD 0 0) t).getD k1 []).take (Int.toNat ((((bf (([32]).getD 0 0) t).getD k1 []).length:Int)))).drop 1))]))=(mC (bf 32 t) k2)/\((mK (bf 32 t) k1)=(mK (bf 32 t) k2)/\((True/\(True/\True))/\True)))))))))))))))))))))/\((decide (((k1:Int).tmod (2:Int))=(1:Int)))=false ->
 ((0<=(1:Int)/\(1:Int)<=9)/\(ag (iV (1:Int) ((bf (([32]).getD 0 0) t).getD k1 [])) ->
 (((!(gD (1:Int) ((bf (([32]).getD 0 0) t).getD k1 [])))=true ->
 ((bl.mk [] [])=(tu gg t)/\(5:Int)=(oS gg t)))/\((!(gD (1:Int) ((bf (([32]).getD 0 0) t).getD k1 [])))=false ->
 (((2:Int)≠(0:Int)/\ag ((k1:Int).tmod (2:Int)))/\(((decide (((k1:Int).tmod (2:Int))=(1:Int)))=true ->
 (cE ((mK (bf 32 t) k1).length+([(iV (1:Int) ((bf (([32]).getD 0 0) t).getD k1 []))]).length) 8/\(ag ((k1:Int)+(1:Int))/\(∃ k2:Nat,(D1 gg 1 t k2/\((bf 32 t).length - k2<(bf 32 t).length - k1/\((kf gg t k1 k2)/\((True/\(True/\True))/\((mC (bf 32 t) k1)=(mC (bf 32 t) k2)/\(((mK (bf 32 t) k1)++([(iV (1:Int) ((bf (([32]).getD 0 0) t).getD k1 []))]))=(mK (bf 32 t) k2)/\((True/\(True/\True))/\True)))))))))))/\((decide (((k1:Int).tmod (2:Int))=(1:Int)))=false ->
 (cE ((mC (bf 32 t) k1).length+([(iV (1:Int) ((bf (([32]).getD 0 0) t).getD k1 []))]).length) 8/\(ag ((k1:Int)+(1:Int))/\(∃ k2:Nat,(D1 gg 1 t k2/\((bf 32 t).length - k2<(bf 32 t).length - k1/\((kf gg t k1 k2)/\((True/\(True/\True))/\(((mC (bf 32 t) k1)++([(iV (1:Int) ((bf (([32]).getD 0 0) t).getD k1 []))]))=(mC (bf 32 t) k2)/\((mK (bf 32 t) k1)=(mK (bf 32 t) k2)/\((True/\(True/\True))/\True)))))))))))))))))))))))/\((decide ((k1:Int)<(((bf (([32]).getD 0 0) t).length:Int))))=false ->
 (aY gg=true/\(((!(gu gg (bl.mk (mC (bf 32 t) k1) (mK (bf 32 t) k1))))=true ->
 ((bl.mk [] [])=(tu gg t)/\(5:Int)=(oS gg t)))/\((!(gu gg (bl.mk (mC (bf 32 t) k1) (mK (bf 32 t) k1))))=false ->
 ((bl.mk (mC (bf 32 t) k1) (mK (bf 32 t) k1))=(tu gg t)/\(0:Int)=(oS gg t))))))))))))))))))):=by kernel_rfl
theorem FW(hE:aQ [cG,ot,dw,nx,gh])(hO:iE [])(hM:iS [])(hS:gU []):bb.lM gB:=by
 refine⟨aG vZ rfl (by decide),?_⟩
 show ∀ (gg:aD) (t:List UInt8),(t.length<=1048576)->ng prog r9 [.val ⟨(.st .sig),gg⟩, .val ⟨.str,t⟩] [⟨(.st .word),tu gg t⟩,⟨(.int .i64),oS gg t⟩]
 intro gg t hp
 refine lK (own:=[51,52,57,58]) (wr:=[]) (cl:=[]) (ro:=[2]) hE hO hM hS vZ Dp (wT gg t) ?_
 rewrite [Gf gg t]
 have f0:=Tw t
 refine⟨λ a0=>⟨?_,?_⟩,λ a0=>λ a1=>⟨λ a2=>⟨?_,?_⟩,λ a2=>⟨?_,λ a3=>λ a4=>⟨⟨0,⟨?_,⟨⟨rfl,⟨trivial,⟨trivial,⟨rfl,⟨rfl,⟨?_,trivial⟩⟩⟩⟩⟩⟩,⟨⟨trivial,⟨trivial,trivial⟩⟩,⟨?_,⟨?_,⟨⟨trivial,⟨trivial,trivial⟩⟩,trivial⟩⟩⟩⟩⟩⟩⟩,λ k1=>λ a5=>⟨λ a6=>⟨?_,λ a7=>⟨⟨?_,?_⟩,⟨λ a8=>⟨λ a9=>⟨?_,?_⟩,λ a9=>⟨?_,⟨?_,λ dt=>⟨λ dP=>⟨?_,?_⟩,λ dP=>⟨⟨?_,?_⟩,⟨λ a12=>⟨?_,⟨?_,⟨k1+1,⟨?_,⟨?_,⟨⟨rfl,⟨trivial,⟨trivial,⟨rfl,⟨rfl,⟨?_,trivial⟩⟩⟩⟩⟩⟩,⟨⟨trivial,⟨trivial,trivial⟩⟩,⟨?_,⟨?_,⟨⟨trivial,⟨trivial,trivial⟩⟩,trivial⟩⟩⟩⟩⟩⟩⟩⟩⟩⟩,λ a12=>⟨?_,⟨?_,⟨k1+1,⟨?_,⟨?_,⟨⟨rfl,⟨trivial,⟨trivial,⟨rfl,⟨rfl,⟨?_,trivial⟩⟩⟩⟩⟩⟩,⟨⟨trivial,⟨trivial,trivial⟩⟩,⟨?_,⟨?_,⟨⟨trivial,⟨trivial,trivial⟩⟩,trivial⟩⟩⟩⟩⟩⟩⟩⟩⟩⟩⟩⟩⟩⟩⟩⟩,λ a8=>⟨?_,λ a9=>⟨λ dt=>⟨?_,?_⟩,λ dt=>⟨⟨?_,?_⟩,⟨λ dP=>⟨?_,⟨?_,⟨k1+1,⟨?_,⟨?_,⟨⟨rfl,⟨trivial,⟨trivial,⟨rfl,⟨rfl,⟨?_,trivial⟩⟩⟩⟩⟩⟩,⟨⟨trivial,⟨trivial,trivial⟩⟩,⟨?_,⟨?_,⟨⟨trivial,⟨trivial,trivial⟩⟩,trivial⟩⟩⟩⟩⟩⟩⟩⟩⟩⟩,λ dP=>⟨?_,⟨?_,⟨k1+1,⟨?_,⟨?_,⟨⟨rfl,⟨trivial,⟨trivial,⟨rfl,⟨rfl,⟨?_,trivial⟩⟩⟩⟩⟩⟩,⟨⟨trivial,⟨trivial,trivial⟩⟩,⟨?_,⟨?_,⟨⟨trivial,⟨trivial,trivial⟩⟩,trivial⟩⟩⟩⟩⟩⟩⟩⟩⟩⟩⟩⟩⟩⟩⟩⟩⟩,λ a6=>⟨?_,⟨λ a7=>⟨?_,?_⟩,λ a7=>⟨?_,?_⟩⟩⟩⟩⟩⟩⟩⟩
 all_goals try and_intros
 all_goals (try simp only[a6g,a5Z,a6k,a7m,a5M,a5N] at *)<;>(try simp only[a6g,a5Z,a6k,a7m,List.getD_cons_zero,a5X,a8g,a5U,a5O,a6a,a6X,a5M,a5N,aV,iW,cE,ag,a3q,tm2,Zq] at *)<;>first|with_reducible rfl|omega|exact (Yt gg t (by with_reducible assumption)).1.symm|exact (Yt gg t (by with_reducible assumption)).2.symm|exact (SO gg t (by with_reducible assumption) (by omega)).1.symm|exact (SO gg t (by with_reducible assumption) (by omega)).2.symm|exact Ys gg 1 t (by with_reducible assumption) (Wj gg t (by omega))|(have hq:D1 gg 1 t k1:=(by with_reducible assumption);have hl:=hq.le;have hn:=UT (bf 32 t) k1;first|omega|exact hq.sig|exact (Vi gg 1 t k1 hq (by omega) (by first|exact QH 1 (bf 32 t) k1 (by omega) (by with_reducible assumption)|exact QH 1 (bf 32 t) k1 (by omega) (U0 _ (by omega))|exact Yf 1 (bf 32 t) k1 (by omega) (by with_reducible assumption)|exact Ye 1 (bf 32 t) k1 (by omega) (by with_reducible assumption))).1.symm|exact (Vi gg 1 t k1 hq (by omega) (by first|exact QH 1 (bf 32 t) k1 (by omega) (by with_reducible assumption)|exact QH 1 (bf 32 t) k1 (by omega) (U0 _ (by omega))|exact Yf 1 (bf 32 t) k1 (by omega) (by with_reducible assumption)|exact Ye 1 (bf 32 t) k1 (by omega) (by with_reducible assumption))).2.symm|exact Yr gg 1 t k1 hq (by omega) (by first|exact Yg 1 (bf 32 t) k1 (by omega) (by with_reducible assumption) (by with_reducible assumption)|exact Yg 1 (bf 32 t) k1 (by omega) (Zr _ (by omega) (by omega)) (by with_reducible assumption)|exact a2v 1 (bf 32 t) k1 (by omega) (by with_reducible assumption))|exact (Uw gg 1 t k1 hq (by omega) (by with_reducible assumption)).1.symm|exact (Uw gg 1 t k1 hq (by omega) (by with_reducible assumption)).2.symm|exact (QP gg 1 t k1 hq (by omega) (by with_reducible assumption)).1.symm|exact (QP gg 1 t k1 hq (by omega) (by with_reducible assumption)).2.symm|exact (Vj gg 1 t k1 hq (by omega) (by with_reducible assumption)).1.symm|exact (Vj gg 1 t k1 hq (by omega) (by with_reducible assumption)).2.symm|exact (SN gg 1 t k1 hq (by omega) (by with_reducible assumption)).1.symm|exact (SN gg 1 t k1 hq (by omega) (by with_reducible assumption)).2.symm|exact (LJ (bf 32 t) k1 (by omega)).1.symm|exact (BG (bf 32 t) k1 (by omega)).2.symm|exact a4I 1 (bf 32 t) k1 (by omega) (by with_reducible assumption)|exact a4H 1 (bf 32 t) k1 (by omega) (by with_reducible assumption)|(have h1:=VO _ (by with_reducible assumption);omega)|exact absurd (by assumption:(true=false)) (by decide)|exact absurd (by assumption:(false=true)) (by decide))|exact Eq.refl _
theorem Cw:bb.lM gB:=FW ⟨kd,DP,qf,Hb,wu,trivial⟩ trivial trivial trivial
end
end Go.Proofs.YtnehkikdlnmebaaGreatDoor

namespace Go.Proofs.YtnehkikdlnmebaaGreatDoor
noncomputable section
abbrev zX:O:=O.mk (0:Int) (0:Int) []
def cC(t:List UInt8)(a:Nat)(s:List UInt8):Bool:=decide (s.length<=(t.drop a).length)&&decide ((t.drop a).take s.length=s)
theorem nP{t:List UInt8}{a:Nat}{s r:List UInt8}(h:t.drop a=s++r):cC t a s=true:=by
 unfold cC;rw[h];simp
theorem Ij(t:List UInt8)(a:Nat)(s:List UInt8):cC t a s=true↔∃ r,t.drop a=s++r:=by
 constructor
 .intro h
  simp only[cC,a5I,a5M] at h
  refine⟨(t.drop a).drop s.length,?_⟩
  conv=>rhs;lhs;rw[<-h.2]
  rw[a7b]
 .rintro⟨r,h⟩;exact nP h
theorem mX{t:List UInt8}{a:Nat}{b c:UInt8}{r:List UInt8}(h:t.drop a=b::r)(hn:b≠c)(s:List UInt8):cC t a (c::s)=false:=by
 cases e:cC t a (c::s) with
 | false=>rfl
 | true =>
  obtain⟨r',h'⟩:=(Ij _ _ _).1 e
  rw[h] at h'
  simp only[a7g,a5L] at h'
  exact absurd h'.1 hn
def pI(c:UInt8):List UInt8->Nat
 | []=>0
 | b::l=>if b=c then pI c l+1 else 0
def noB(c:UInt8)(r:List UInt8):Prop:=∀ b l,r=b::l->b≠c
theorem Mo(c:UInt8)(r:List UInt8)(h:noB c r):∀ n,pI c (List.replicate n c++r)=n
 | 0=>by
  cases r with
  | nil=>rfl
  | cons b l=>simp[pI,h b l rfl]
 | n+1=>by simp[a8T,pI,Mo c r h n]
theorem iZ{t w r:List UInt8}{a:Nat}(h:t.drop a=w++r):t.drop (a+w.length)=r:=by
 rw[<-a8b,h];simp
structure RI where
 e:O
 ok:Bool
 a:Nat
def bI(k:Int):Nat->O->O
 | 0,e=>e
 | n+1,e=>bI k n (O.mk k 0 [e])
theorem hU(k:Int):∀ (n:Nat) (e:O),bI k (n+1) e=O.mk k 0 [bI k n e]
 | 0,e=>rfl
 | n+1,e=>by
  show bI k (n+1) (O.mk k 0 [e])=_
  rw[hU k n (O.mk k 0 [e])];rfl
def kr(core:Nat->RI)(t:List UInt8)(a:Nat):RI :=
 if 40<pI 126 (t.drop a) then ⟨zX,false,a+pI 126 (t.drop a)⟩ else
 if 41<pI 42 (t.drop (core (a+pI 126 (t.drop a))).a) then ⟨zX,false,(core (a+pI 126 (t.drop a))).a+42⟩ else
 ⟨bI 8 (pI 42 (t.drop (core (a+pI 126 (t.drop a))).a)) (bI 5 (pI 126 (t.drop a)) (core (a+pI 126 (t.drop a))).e),(core (a+pI 126 (t.drop a))).ok,(core (a+pI 126 (t.drop a))).a+pI 42 (t.drop (core (a+pI 126 (t.drop a))).a)⟩
def iT(t:List UInt8)(a:Nat):Bool:=decide (a<t.length)&&decide (48<=(t.getD a 0).toNat)&&decide ((t.getD a 0).toNat<=57)
def rX(k:Int)(t:List UInt8)(a:Nat):RI:=bif iT t a then ⟨O.mk k (((t.getD a 0).toNat:Int) - 48) [],true,a+1⟩ else ⟨O.mk k 0 [],false,a⟩
def rr(k:Int)(t:List UInt8)(x y:RI):RI:=bif x.ok&&y.ok&&cC t y.a [41] then ⟨O.mk k 0 [x.e,y.e],true,y.a+1⟩ else ⟨O.mk k 0 [x.e,y.e],false,y.a⟩
def dB(t:List UInt8):Nat->Nat->RI
 | 0,a=>⟨zX,false,a⟩
 | d+1,a=>if cC t a [48]=true then ⟨O.mk 1 0 [],true,a+1⟩ else if cC t a [49]=true then ⟨O.mk 2 0 [],true,a+1⟩ else
  if cC t a [116]=true then rX 3 t (a+1) else if cC t a [97]=true then rX 4 t (a+1) else if cC t a [40]=false then ⟨zX,false,a⟩ else
  if cC t (kr (dB t d) t (a+1)).a [32,43,32]=true then rr 6 t (kr (dB t d) t (a+1)) (kr (dB t d) t ((kr (dB t d) t (a+1)).a+3)) else
  if cC t (kr (dB t d) t (a+1)).a [32]=true then rr 7 t (kr (dB t d) t (a+1)) (kr (dB t d) t ((kr (dB t d) t (a+1)).a+1)) else
  ⟨zX,false,(kr (dB t d) t (a+1)).a⟩
def Mr(k:Int):Prop:=k=1\/k=2\/k=3\/k=4\/k=6\/k=7
theorem uE(x:O)(h:aL x=true)(e:¬ x.ah=3)(e':¬ x.ah=4):x.bc=0:=by
 simp only[aL] at h
 rw[mB,qg] at h
 simp only[a5I,a5M] at h
 have:=h.1.1.2
 rw[zP,a5J e,a5J e'] at this
 simpa using this
theorem zA(x:O)(h:aL x=true)(e:x.ah=1\/x.ah=2\/x.ah=3\/x.ah=4):x.V=[]:=by
 simp only[aL] at h
 rw[mB,qg] at h
 simp only[a5I,a5M] at h
 have h1:=h.1.1.1
 have:x.V.length=0:=by rcases e with e|e|e|e<;>rw[e] at h1<;>simp[cf] at h1<;>omega
 exact a6I this
theorem VL(x:O)(h:aL x=true)(e:x.ah=5):bG (x.V.getD 0 zE)=true:=by
 simp only[aL] at h
 rw[mB,qg] at h
 simp only[a5I,a5M] at h
 have:=h.1.2
 simpa [e] using this
theorem HV(x:O)(h:x.V.length=1):x.V=[x.V.getD 0 zE]:=by
 cases x with
 | mk k n ks =>
  match ks,h with
  | [a],_=>rfl
theorem PC(x:O)(h:x.V.length=2):x.V=[x.V.getD 0 zE,x.V.getD 1 zE]:=by
 cases x with
 | mk k n ks =>
  match ks,h with
  | [a,b],_=>rfl
theorem p9(x:O)(k n:Int)(ks:List O)(h1:x.ah=k)(h2:x.bc=n)(h3:x.V=ks):x=O.mk k n ks:=by
 cases x;simp at h1 h2 h3;simp[h1,h2,h3]
theorem Po:∀ (N:Nat) (x:O),cv x<N->aL x=true->∃ m n c,x=bI 8 m (bI 5 n c)/\aL c=true/\Mr c.ah/\cv c<=cv x/\bB c+m+n=bB x /\
  bA x=List.replicate n 126++(bA c++List.replicate m 42)
 | 0,x,h,_=>by omega
 | N+1,x,hN,h=>by
  have hf:=dz x h
  have ht:=fW x h
  by_cases h8:x.ah=8
  .obtain⟨hl,hk⟩:=hf.2.1 (.inr h8)
   obtain⟨m,n,c,e1,e2,e3,e4,e5,e6⟩:=Po N _ (by have:=hk.2;omega) hk.1
   have hx:x=O.mk 8 0 [x.V.getD 0 zE]:=p9 x 8 0 _ h8 (uE x h (by omega) (by omega)) (HV x hl)
   refine⟨m+1,n,c,?_,e2,e3,by have:=hk.2;omega,?_,?_⟩
   .rw[hU,<-e1];exact hx
   .rw[rR x,HV x hl];simp only[gY];omega
   .rw[ht.2.2.2.2.2.2.2 h8,e6,a8t];simp
  .by_cases h5:x.ah=5
   .obtain⟨hl,hk⟩:=hf.2.1 (.inl h5)
    obtain⟨m,n,c,e1,e2,e3,e4,e5,e6⟩:=Po N _ (by have:=hk.2;omega) hk.1
    have hx:x=O.mk 5 0 [x.V.getD 0 zE]:=p9 x 5 0 _ h5 (uE x h (by omega) (by omega)) (HV x hl)
    have hm:m=0:=by
     cases m with
     | zero=>rfl
     | succ m =>
      have hc:=VL x h h5
      rw[e1,hU,uC] at hc
      simp[uT] at hc
    subst hm
    refine⟨0,n+1,c,?_,e2,e3,by have:=hk.2;omega,?_,?_⟩
    .show x=bI 5 (n+1) c
     rw[hU]
     have e1':x.V.getD 0 zE=bI 5 n c:=e1
     rw[<-e1'];exact hx
    .rw[rR x,HV x hl];simp only[gY];omega
    .rw[ht.2.2.2.2.1 h5,e6,a8T];simp
   .exact⟨0,0,x,rfl,h,by have:=hf.2.2.2;unfold Mr;omega,Nat.le_refl _,by omega,by simp⟩
theorem Mv{t:List UInt8}{a:Nat}{b:UInt8}{r:List UInt8}(h:t.drop a=b::r):a<t.length/\t.getD a 0=b:=by
 have hl:a<t.length:=by
  rcases a6w a t.length with g|g
  .exact g
  .rw[a7v g] at h;cases h
 refine⟨hl,?_⟩
 rw[a7H hl] at h
 simp only[a5L] at h
 rw[a6o,a5V hl,<-h.1];rfl
theorem Ks(c:O)(h:aL c=true)(hk:Mr c.ah):∃ b l,bA c=b::l/\b≠126/\b≠43:=by
 have ht:=fW c h
 rcases hk with e|e|e|e|e|e
 .exact⟨_,_,ht.1 e,by decide,by decide⟩
 .exact⟨_,_,ht.2.1 e,by decide,by decide⟩
 .exact⟨_,_,ht.2.2.1 e,by decide,by decide⟩
 .exact⟨_,_,ht.2.2.2.1 e,by decide,by decide⟩
 .exact⟨_,_,ht.2.2.2.2.2.1 e,by decide,by decide⟩
 .exact⟨_,_,ht.2.2.2.2.2.2.1 e,by decide,by decide⟩
theorem TB(x:O)(h:aL x=true):∃ b l,bA x=b::l/\b≠43:=by
 obtain⟨m,n,c,_,h2,h3,_,_,h6⟩:=Po (cv x+1) x (a6c _) h
 obtain⟨b,l,g1,_,g3⟩:=Ks c h2 h3
 cases n with
 | zero=>exact⟨b,_,by rw[h6,g1];rfl,g3⟩
 | succ n=>exact⟨126,_,by rw[h6,a8T];rfl,by decide⟩
theorem I1(core:Nat->RI)(t:List UInt8)(a:Nat)(r:List UInt8)(x c:O)(m n:Nat)(hx:x=bI 8 m (bI 5 n c))(hc:aL c=true)(hk:Mr c.ah)
  (htx:bA x=List.replicate n 126++(bA c++List.replicate m 42)) (hm:m<=40) (hn:n<=40) (hr:noB 42 r) (hd:t.drop a=bA x++r)
  (a1Y:∀ r',t.drop (a+n)=bA c++r'->core (a+n)=⟨c,true,a+n+(bA c).length⟩):kr core t a=⟨x,true,a+(bA x).length⟩:=by
 obtain⟨b,l,g1,g2,_⟩:=Ks c hc hk
 have hd1:t.drop a=List.replicate n 126++(bA c++(List.replicate m 42++r)):=by rw[hd,htx];simp
 have hd2:t.drop (a+n)=bA c++(List.replicate m 42++r):=by
  have:=iZ hd1
  simpa using this
 have hd3:=iZ hd2
 have T4:pI 126 (t.drop a)=n:=by
  rw[hd1]
  refine Mo 126 _ ?_ n
  intro b' l' e
  rw[g1] at e
  simp only[a7g,a5L] at e
  rw[<-e.1];exact g2
 have T3:pI 42 (t.drop (a+n+(bA c).length))=m:=by rw[hd3];exact Mo 42 r hr m
 have MU:=a1Y _ hd2
 unfold kr
 rw[T4,MU]
 simp only[T3]
 rw[a5J (by omega),a5J (by omega),<-hx]
 have:(bA x).length=n+((bA c).length+m):=by rw[htx];simp
 simp only[RI.mk.injEq,a6J]
 omega
theorem IU:∀ (N:Nat) (c:O),cv c<N->aL c=true->Mr c.ah->∀ (t:List UInt8) (d a:Nat) (r:List UInt8),bB c<=d->bB c<=40->t.drop a=bA c++r->dB t d a=⟨c,true,a+(bA c).length⟩
 | 0,c,h,_,_=>by omega
 | N+1,c,hN,h,hk=>by
  intro t d a r hd h40 ht
  have hf:=dz c h
  have hx:=fW c h
  have hdp:=rR c
  obtain⟨d,rfl⟩:∃ d',d=d'+1:=⟨d - 1,by omega⟩
  have Ni:∀ i,i<c.V.length->zy c i->∀ (a:Nat) (r:List UInt8),noB 42 r->t.drop a=bA (c.V.getD i zE)++r ->
    kr (dB t d) t a=⟨c.V.getD i zE,true,a+(bA (c.V.getD i zE)).length⟩:=by
   intro i hi hg a r hr Zw
   obtain⟨m,n,c',e1,e2,e3,e4,e5,e6⟩:=Po _ _ (a6c _) hg.1
   have hdk:=FL bB zE c.V i hi
   exact I1 (dB t d) t a r _ c' m n e1 e2 e3 e6 (by omega) (by omega) hr Zw (λ r' Qo=>IU N c' (by have:=hg.2;omega) e2 e3 t d (a+n) r' (by omega) (by omega) Qo)
  rcases hk with e|e|e|e|e|e
  .rw[hx.1 e] at ht ⊢
   have hc:=p9 c 1 0 [] e (uE c h (by omega) (by omega)) (zA c h (by omega))
   rw[dB,a5T (nP (s:=[48]) ht),<-hc];rfl
  .rw[hx.2.1 e] at ht ⊢
   have hc:=p9 c 2 0 [] e (uE c h (by omega) (by omega)) (zA c h (by omega))
   rw[dB,a5J (by rw[mX (b:=49) ht (by decide)];decide),a5T (nP (s:=[49]) ht),<-hc];rfl
  .have hn:=hf.1 (.inl e)
   have hg:dQ c.bc=[UInt8.ofNat (48+c.bc.toNat)]:=by unfold dQ;rw[Lib.decDigits_one (by omega)]
   rw[hx.2.2.1 e,hg] at ht ⊢
   have h2:t.drop (a+1)=UInt8.ofNat (48+c.bc.toNat)::r:=iZ (w:=[116]) ht
   obtain⟨g1,g2⟩:=Mv h2
   have hb:(UInt8.ofNat (48+c.bc.toNat)).toNat=48+c.bc.toNat:=by rw[a8Y];omega
   rw[dB,a5J (by rw[mX (b:=116) ht (by decide)];decide),a5J (by rw[mX (b:=116) ht (by decide)];decide),a5T (nP (s:=[116]) ht)]
   have hdb:iT t (a+1)=true:=by unfold iT;rw[g2,hb,decide_eq_true g1,decide_eq_true (by omega),decide_eq_true (by omega)];rfl
   unfold rX
   rw[hdb,g2,hb]
   have hc:=p9 c 3 c.bc [] e rfl (zA c h (by omega))
   rw[show (((48+c.bc.toNat:Nat):Int) - 48)=c.bc by omega,<-hc];rfl
  .have hn:=hf.1 (.inr e)
   have hg:dQ c.bc=[UInt8.ofNat (48+c.bc.toNat)]:=by unfold dQ;rw[Lib.decDigits_one (by omega)]
   rw[hx.2.2.2.1 e,hg] at ht ⊢
   have h2:t.drop (a+1)=UInt8.ofNat (48+c.bc.toNat)::r:=iZ (w:=[97]) ht
   obtain⟨g1,g2⟩:=Mv h2
   have hb:(UInt8.ofNat (48+c.bc.toNat)).toNat=48+c.bc.toNat:=by rw[a8Y];omega
   rw[dB,a5J (by rw[mX (b:=97) ht (by decide)];decide),a5J (by rw[mX (b:=97) ht (by decide)];decide),a5J (by rw[mX (b:=97) ht (by decide)];decide),a5T (nP (s:=[97]) ht)]
   have hdb:iT t (a+1)=true:=by unfold iT;rw[g2,hb,decide_eq_true g1,decide_eq_true (by omega),decide_eq_true (by omega)];rfl
   unfold rX
   rw[hdb,g2,hb]
   have hc:=p9 c 4 c.bc [] e rfl (zA c h (by omega))
   rw[show (((48+c.bc.toNat:Nat):Int) - 48)=c.bc by omega,<-hc];rfl
  .obtain⟨hl,k0,k1⟩:=hf.2.2.1 (.inl e)
   have hc:=p9 c 6 0 _ e (uE c h (by omega) (by omega)) (PC c hl)
   rw[hx.2.2.2.2.2.1 e] at ht ⊢
   have p0:t.drop a=40::(bA (c.V.getD 0 zE)++([32,43,32]++(bA (c.V.getD 1 zE)++([41]++r)))):=by rw[ht];simp
   have p1:t.drop (a+1)=bA (c.V.getD 0 zE)++([32,43,32]++(bA (c.V.getD 1 zE)++([41]++r))):=iZ (w:=[40]) p0
   have q1:=Ni 0 (by omega) k0 (a+1) _ (λ b l g=>by simp at g;rw[<-g.1];decide) p1
   have p2:=iZ p1
   have p3:=iZ p2
   have q2:=Ni 1 (by omega) k1 _ _ (λ b l g=>by simp at g;rw[<-g.1];decide) p3
   have p4:=iZ p3
   rw[dB,a5J (by rw[mX p0 (by decide)];decide),a5J (by rw[mX p0 (by decide)];decide),a5J (by rw[mX p0 (by decide)];decide),a5J (by rw[mX p0 (by decide)];decide),
    a5J (by rw[nP (s:=[40]) p0];decide)]
   rw[q1]
   simp only
   rw[a5T (nP p2)]
   have q2':kr (dB t d) t (a+1+(bA (c.V.getD 0 zE)).length+3)=_:=q2
   rw[q2']
   unfold rr
   simp only
   rw[show cC t _ [41]=true from nP (s:=[41]) p4]
   simp only[a8A,a8k,RI.mk.injEq,a6J,<-hc]
   simp only[a5U,a5O,a6a];omega
  .obtain⟨hl,k0,k1⟩:=hf.2.2.1 (.inr e)
   have hc:=p9 c 7 0 _ e (uE c h (by omega) (by omega)) (PC c hl)
   rw[hx.2.2.2.2.2.2.1 e] at ht ⊢
   have p0:t.drop a=40::(bA (c.V.getD 0 zE)++([32]++(bA (c.V.getD 1 zE)++([41]++r)))):=by rw[ht];simp
   have p1:t.drop (a+1)=bA (c.V.getD 0 zE)++([32]++(bA (c.V.getD 1 zE)++([41]++r))):=iZ (w:=[40]) p0
   have q1:=Ni 0 (by omega) k0 (a+1) _ (λ b l g=>by simp at g;rw[<-g.1];decide) p1
   have p2:=iZ p1
   have p3:=iZ p2
   have q2:=Ni 1 (by omega) k1 _ _ (λ b l g=>by simp at g;rw[<-g.1];decide) p3
   have p4:=iZ p3
   have l6:cC t (a+[40].length+(bA (c.V.getD 0 zE)).length) [32,43,32]=false:=by
    cases hb:cC t (a+[40].length+(bA (c.V.getD 0 zE)).length) [32,43,32] with
    | false=>rfl
    | true =>
     obtain⟨r',h'⟩:=(Ij _ _ _).1 hb
     obtain⟨b,l,f1,f2⟩:=TB _ k1.1
     have p2':=p2
     rw[f1] at p2'
     have h3:=p2'.symm.trans h'
     simp only[a7g,a6C,a5L,a6J] at h3
     exact absurd h3.1 f2
   rw[dB,a5J (by rw[mX p0 (by decide)];decide),a5J (by rw[mX p0 (by decide)];decide),a5J (by rw[mX p0 (by decide)];decide),a5J (by rw[mX p0 (by decide)];decide),
    a5J (by rw[nP (s:=[40]) p0];decide)]
   rw[q1]
   simp only
   rw[a5J (by rw[show cC t (a+1+(bA (c.V.getD 0 zE)).length) [32,43,32]=false from l6];decide),a5T (nP p2)]
   have q2':kr (dB t d) t (a+1+(bA (c.V.getD 0 zE)).length+1)=_:=q2
   rw[q2']
   unfold rr
   simp only
   rw[show cC t _ [41]=true from nP (s:=[41]) p4]
   simp only[a8A,a8k,RI.mk.injEq,a6J,<-hc]
   simp only[a5U,a5O,a6a];omega
theorem VG(x:O)(h:aL x=true)(h40:bB x<=40):kr (dB (bA x) 41) (bA x) 0=⟨x,true,(bA x).length⟩:=by
 obtain⟨m,n,c,e1,e2,e3,e4,e5,e6⟩:=Po _ _ (a6c _) h
 have:=I1 (dB (bA x) 41) (bA x) 0 [] x c m n e1 e2 e3 e6 (by omega) (by omega) (λ b l g=>by cases g) (by simp) (λ r' Qo=>IU _ c (a6c _) e2 e3 (bA x) 41 (0+n) r' (by omega) (by omega) Qo)
 simpa using this
end
end Go.Proofs.YtnehkikdlnmebaaGreatDoor

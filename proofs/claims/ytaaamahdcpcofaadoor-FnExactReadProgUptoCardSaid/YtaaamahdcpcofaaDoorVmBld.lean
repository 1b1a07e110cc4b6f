/- VmOwnFam, VmOwnFam2, VmOwnFam3, VmHeld, VmHeldP, VmExpr, VmExpr2, VmShaped, VmTruth, VmValid, VmBw, VmShelf, VmWe, VmText, VmShelf2, VmSplit, VmWord, VmWord2, VmRExpr, VmRExpr2, VmBld. -/
import Derived.Test.YtaaamahdcpcofaaDoorVmEq
import Derived.Test.YtaaamahdcpcofaaDoorProg
import Derived.WalkKit
import Derived.Lib.Builder
import Derived.Lib.AppendStr
import Derived.Lib.UnsafeStr
import Derived.Lib.Walk
import Derived.Lib.Strings
import Derived.Lib.Slices
import Derived.Lib.MakeNoZero
import Derived.Laws.Externs
import Derived.Laws.IdiomCopy
import Derived.BigCall
import Derived.OwnWalk
import Derived.Shelf.Strings.Builder1
import Derived.Shelf.Strconv.Itoa0
import Derived.Shelf.Strconv.Itoa1
import Derived.Shelf.LaysM
import Derived.Shelf.Strconv.Itoa2
import Derived.Shelf.Strconv.Itoa3
import Derived.Shelf.Strings.Prefix
set_option linter.all false
set_option maxRecDepth 4000
set_option maxHeartbeats 4000000
namespace Go.Proofs.YtaaamahdcpcofaaDoor
def a5a:=@List.set_set
def a5b:=@Int.lt_or_le
def a5r:=@Int.not_le
def a5f:=@Go.Oper.upon_value
def a4U:=@Go.RowKit.Below.refl
def a4n:=@Go.Lib.cell_of_heap
def a5h:=@Nat.le_succ
def a4d:=@Bool.and_eq_false_iff
def a2v:=@decide_eq_true
def a3D:=@List.replicate_succ
def a3Y:=@UInt8.toNat_ofNat'
def a2V:=@Bool.and_self
def a2R:=@cond_true
def a4q:=@List.drop_succ_cons
noncomputable section
def half{α:Type}(f:List α)(xs:List α)(i:Nat):List α:=f.take i++xs.drop i
theorem LG{α:Type}(f xs:List α):xs=half f xs 0:=by simp[half]
theorem NY{α:Type}(f xs:List α)(i:Nat)(h:f.length=xs.length)(hi:xs.length<=i):half f xs i=f:=by
 simp[half,a2F (h ▸ hi),a3u hi]
theorem zw{α:Type}(f xs:List α)(i:Nat)(h:f.length=xs.length):(half f xs i).length=xs.length:=by
 simp[half];omega
theorem LF{α:Type}(f xs:List α)(d:α)(i:Nat)(h:f.length=xs.length)(hi:i<xs.length):(half f xs i).getD i d=xs.getD i d:=by
 simp only[half,a2j]
 rw[a3x (by simp;omega)]
 simp[h,Nat.min_eq_left (Nat.le_of_lt hi)]
theorem NZ{α:Type}(f xs:List α)(d:α)(i:Nat)(h:f.length=xs.length)(hi:i<xs.length):(half f xs i).set i (f.getD i d)=half f xs (i+1):=by
 unfold half
 rw[a5j _ _ (by simp;omega)]
 have e:i - (List.take i f).length=0:=by simp;omega
 rw[e,a3h (by omega:i<xs.length),a5z,nW d f i (by omega)]
 simp
mutual
def aK:M->Nat
 | ⟨_,_,ks⟩=>2+w7 ks
def w7:List M->Nat
 | []=>0
 | x::xs=>aK x+w7 xs
end
theorem yd:∀ xs,w7 xs=aw aK xs
 | []=>rfl
 | x::xs=>by rw[w7,aw,yd xs]
theorem Lf(x:M):aK x=2+aw aK x.J:=by
 cases x;simp[aK,yd]
mutual
def Iv(k:Int):M->M
 | ⟨_,_,ks⟩=>⟨k,k+1,aY (k+2) ks⟩
def aY(k:Int):List M->List M
 | []=>[]
 | x::xs=>Iv k x::aY (k+(aK x:Int)) xs
end
theorem Xy(k:Int)(x:M):Iv k x=⟨k,k+1,aY (k+2) x.J⟩:=by cases x;rfl
theorem l4:∀ (k:Int) (xs:List M),(aY k xs).length=xs.length
 | _,[]=>rfl
 | k,x::xs=>by simp[aY,l4 _ xs]
theorem Fa(z:M):∀ (k:Int) (xs:List M) (i:Nat),i<xs.length->(aY k xs).getD i z=Iv (k+(aw aK (xs.take i):Int)) (xs.getD i z)
 | k,[],i,h=>by simp at h
 | k,x::xs,0,h=>by simp[aY,aw]
 | k,x::xs,i+1,h=>by
  have:=Fa z (k+(aK x:Int)) xs i (by simpa using h)
  simp only[aY,a3S,this,a3t,aw]
  congr 1
  omega
theorem Qj:∀ xs:List M,xs.length<=aw aK xs
 | []=>by simp[aw]
 | x::xs=>by
  have:=Qj xs
  have:=Lf x
  simp only[aw,a1M];omega
theorem Ou{α:Type}(l:List α)(i:Nat)(y z:α)(h:i<l.length):(l.set i y).getD i z=y:=by
 simp[List.getD,h]
theorem Wk(k:Int)(xs:List M)(i:Nat)(z:M)(h:i<xs.length)(y1 y2 y3:M)(h3:y3=Iv (k+(aw aK (xs.take i):Int)) (xs.getD i z)) :
  (((half (aY k xs) xs i).set i y1).set i y2).set i y3=half (aY k xs) xs (i+1):=by
 rw[a5a,a5a,h3,<-Fa z k xs i h,NZ _ _ z i (l4 k xs) h]
def eO(n:Nat):MK:=⟨ru,⟨(.slice (.st .expr)),λ (xs:List M) (k:Int)=>(some (cd xs<n/\0<=k/\k+(aw aK xs:Int)<=4611686018427387904),aY k xs,k+(aw aK xs:Int))⟩⟩
def fk:MK:=⟨ru,⟨(.slice (.st .expr)),λ (xs:List M) (k:Int)=>(some (0<=k/\k+(aw aK xs:Int)<=4611686018427387904),aY k xs,k+(aw aK xs:Int))⟩⟩
def pP(xs:List M)(k:Int):Nat->aW:=(λ zb=>if Nat.beq zb 0 then .mk (Nat) (λ i=>i<=xs.length) (λ i=>xs.length - i) [] [2,3] (λ i=>[(5, .az ⟨(.int .i64),((i:Int):Int)⟩),(1, .az ⟨(.int .i64),(k+(aw aK (xs.take i):Int):Int)⟩),(0, .aq 50)]) [0,1,4,5,6,7,8,9,10,11,12,13,14,15,16,17,18,19,20,21,22,23,24,25,26,27,28,29,30,31,32,33] (λ i=>[(50, .aq (.st .expr) (half (aY k xs) xs i:List M))]) [] [] (λ i=>λ _ => .none) else .none)
theorem DD(n:Nat)(xs:List M)(k:Int):dd (dr [] [] [eO n] [32] []) (aD dP) (pP xs k) 0 (jE dP (eO (n+1)).m xs k) (ej dP ⟨(.slice (.st .expr)),xs⟩ k) =
 (((∃ i1:Nat,(i1<=xs.length/\((True/\(k=(k+(aw aK (xs.take i1):Int))/\((0:Int)=(0:Int)/\((0:Int)=(i1:Int)/\True))))/\(xs=(half (aY k xs) xs i1)/\True))))/\(∀ i1:Nat,(i1<=xs.length ->
 (((decide ((i1:Int)<(((half (aY k xs) xs i1).length:Int))))=true ->
 (aZ (i1:Int) (half (aY k xs) xs i1).length/\(ah ((k+(aw aK (xs.take i1):Int))+(1:Int))/\(aZ (i1:Int) ((half (aY k xs) xs i1).set i1 (M.mk (k+(aw aK (xs.take i1):Int)) ((half (aY k xs) xs i1).getD i1 zE).al ((half (aY k xs) xs i1).getD i1 zE).J)).length/\(ah (((k+(aw aK (xs.take i1):Int))+(1:Int))+(1:Int))/\(aZ (i1:Int) (((half (aY k xs) xs i1).set i1 (M.mk (k+(aw aK (xs.take i1):Int)) ((half (aY k xs) xs i1).getD i1 zE).al ((half (aY k xs) xs i1).getD i1 zE).J)).set i1 (M.mk (((half (aY k xs) xs i1).set i1 (M.mk (k+(aw aK (xs.take i1):Int)) ((half (aY k xs) xs i1).getD i1 zE).al ((half (aY k xs) xs i1).getD i1 zE).J)).getD i1 zE).af ((k+(aw aK (xs.take i1):Int))+(1:Int)) (((half (aY k xs) xs i1).set i1 (M.mk (k+(aw aK (xs.take i1):Int)) ((half (aY k xs) xs i1).getD i1 zE).al ((half (aY k xs) xs i1).getD i1 zE).J)).getD i1 zE).J)).length/\((cd ((((half (aY k xs) xs i1).set i1 (M.mk (k+(aw aK (xs.take i1):Int)) ((half (aY k xs) xs i1).getD i1 zE).al ((half (aY k xs) xs i1).getD i1 zE).J)).set i1 (M.mk (((half (aY k xs) xs i1).set i1 (M.mk (k+(aw aK (xs.take i1):Int)) ((half (aY k xs) xs i1).getD i1 zE).al ((half (aY k xs) xs i1).getD i1 zE).J)).getD i1 zE).af ((k+(aw aK (xs.take i1):Int))+(1:Int)) (((half (aY k xs) xs i1).set i1 (M.mk (k+(aw aK (xs.take i1):Int)) ((half (aY k xs) xs i1).getD i1 zE).al ((half (aY k xs) xs i1).getD i1 zE).J)).getD i1 zE).J)).getD i1 zE).J<n/\0<=(((k+(aw aK (xs.take i1):Int))+(1:Int))+(1:Int))/\(((k+(aw aK (xs.take i1):Int))+(1:Int))+(1:Int))+(aw aK ((((half (aY k xs) xs i1).set i1 (M.mk (k+(aw aK (xs.take i1):Int)) ((half (aY k xs) xs i1).getD i1 zE).al ((half (aY k xs) xs i1).getD i1 zE).J)).set i1 (M.mk (((half (aY k xs) xs i1).set i1 (M.mk (k+(aw aK (xs.take i1):Int)) ((half (aY k xs) xs i1).getD i1 zE).al ((half (aY k xs) xs i1).getD i1 zE).J)).getD i1 zE).af ((k+(aw aK (xs.take i1):Int))+(1:Int)) (((half (aY k xs) xs i1).set i1 (M.mk (k+(aw aK (xs.take i1):Int)) ((half (aY k xs) xs i1).getD i1 zE).al ((half (aY k xs) xs i1).getD i1 zE).J)).getD i1 zE).J)).getD i1 zE).J:Int)<=4611686018427387904)/\(ah ((i1:Int)+(1:Int))/\(∃ i2:Nat,(i2<=xs.length/\(xs.length - i2<xs.length - i1/\((True/\(((((k+(aw aK (xs.take i1):Int))+(1:Int))+(1:Int))+(aw aK ((((half (aY k xs) xs i1).set i1 (M.mk (k+(aw aK (xs.take i1):Int)) ((half (aY k xs) xs i1).getD i1 zE).al ((half (aY k xs) xs i1).getD i1 zE).J)).set i1 (M.mk (((half (aY k xs) xs i1).set i1 (M.mk (k+(aw aK (xs.take i1):Int)) ((half (aY k xs) xs i1).getD i1 zE).al ((half (aY k xs) xs i1).getD i1 zE).J)).getD i1 zE).af ((k+(aw aK (xs.take i1):Int))+(1:Int)) (((half (aY k xs) xs i1).set i1 (M.mk (k+(aw aK (xs.take i1):Int)) ((half (aY k xs) xs i1).getD i1 zE).al ((half (aY k xs) xs i1).getD i1 zE).J)).getD i1 zE).J)).getD i1 zE).J:Int))=(k+(aw aK (xs.take i2):Int))/\((0:Int)=(0:Int)/\(((i1:Int)+(1:Int))=(i2:Int)/\True))))/\(((((half (aY k xs) xs i1).set i1 (M.mk (k+(aw aK (xs.take i1):Int)) ((half (aY k xs) xs i1).getD i1 zE).al ((half (aY k xs) xs i1).getD i1 zE).J)).set i1 (M.mk (((half (aY k xs) xs i1).set i1 (M.mk (k+(aw aK (xs.take i1):Int)) ((half (aY k xs) xs i1).getD i1 zE).al ((half (aY k xs) xs i1).getD i1 zE).J)).getD i1 zE).af ((k+(aw aK (xs.take i1):Int))+(1:Int)) (((half (aY k xs) xs i1).set i1 (M.mk (k+(aw aK (xs.take i1):Int)) ((half (aY k xs) xs i1).getD i1 zE).al ((half (aY k xs) xs i1).getD i1 zE).J)).getD i1 zE).J)).set i1 (M.mk ((((half (aY k xs) xs i1).set i1 (M.mk (k+(aw aK (xs.take i1):Int)) ((half (aY k xs) xs i1).getD i1 zE).al ((half (aY k xs) xs i1).getD i1 zE).J)).set i1 (M.mk (((half (aY k xs) xs i1).set i1 (M.mk (k+(aw aK (xs.take i1):Int)) ((half (aY k xs) xs i1).getD i1 zE).al ((half (aY k xs) xs i1).getD i1 zE).J)).getD i1 zE).af ((k+(aw aK (xs.take i1):Int))+(1:Int)) (((half (aY k xs) xs i1).set i1 (M.mk (k+(aw aK (xs.take i1):Int)) ((half (aY k xs) xs i1).getD i1 zE).al ((half (aY k xs) xs i1).getD i1 zE).J)).getD i1 zE).J)).getD i1 zE).af ((((half (aY k xs) xs i1).set i1 (M.mk (k+(aw aK (xs.take i1):Int)) ((half (aY k xs) xs i1).getD i1 zE).al ((half (aY k xs) xs i1).getD i1 zE).J)).set i1 (M.mk (((half (aY k xs) xs i1).set i1 (M.mk (k+(aw aK (xs.take i1):Int)) ((half (aY k xs) xs i1).getD i1 zE).al ((half (aY k xs) xs i1).getD i1 zE).J)).getD i1 zE).af ((k+(aw aK (xs.take i1):Int))+(1:Int)) (((half (aY k xs) xs i1).set i1 (M.mk (k+(aw aK (xs.take i1):Int)) ((half (aY k xs) xs i1).getD i1 zE).al ((half (aY k xs) xs i1).getD i1 zE).J)).getD i1 zE).J)).getD i1 zE).al (aY (((k+(aw aK (xs.take i1):Int))+(1:Int))+(1:Int)) ((((half (aY k xs) xs i1).set i1 (M.mk (k+(aw aK (xs.take i1):Int)) ((half (aY k xs) xs i1).getD i1 zE).al ((half (aY k xs) xs i1).getD i1 zE).J)).set i1 (M.mk (((half (aY k xs) xs i1).set i1 (M.mk (k+(aw aK (xs.take i1):Int)) ((half (aY k xs) xs i1).getD i1 zE).al ((half (aY k xs) xs i1).getD i1 zE).J)).getD i1 zE).af ((k+(aw aK (xs.take i1):Int))+(1:Int)) (((half (aY k xs) xs i1).set i1 (M.mk (k+(aw aK (xs.take i1):Int)) ((half (aY k xs) xs i1).getD i1 zE).al ((half (aY k xs) xs i1).getD i1 zE).J)).getD i1 zE).J)).getD i1 zE).J)))=(half (aY k xs) xs i2)/\True)))))))))))))/\((decide ((i1:Int)<(((half (aY k xs) xs i1).length:Int))))=false ->
 ((k+(aw aK (xs.take i1):Int))=(k+(aw aK xs:Int))/\(half (aY k xs) xs i1)=(aY k xs)))))))):=by kernel_rfl
theorem DA(n:Nat)(hE:aR [])(hO:ja [])(hM:iu [eO n])(hS:gO []):MK.Good (eO (n+1)):=by
 refine⟨aB lR rfl (by decide),um (own:=[32]) (wr:=[]) (cl:=[]) (ro:=[]) hE hO hM hS lR Bq (λ xs k=>pP xs k) (λ x=>a2n rfl) (a2n (by kernel_rfl)) ?_⟩
 show ∀ (xs:List M) (k:Int),(cd xs<n+1/\0<=k/\k+(aw aK xs:Int)<=4611686018427387904)->ah k->dd (dr [] [] [eO n] [32] []) (aD dP) (pP xs k) 0 (jE dP (eO (n+1)).m xs k) (ej dP ⟨(.slice (.st .expr)),xs⟩ k)
 intro xs k hp hk
 rewrite [DD n xs k]
 have f0:=LG (aY k xs) xs
 have f1:=qK aK xs
 have f2:=Qj xs
 refine⟨⟨0,⟨?_,⟨⟨trivial,⟨?_,⟨rfl,⟨?_,trivial⟩⟩⟩⟩,⟨?_,trivial⟩⟩⟩⟩,λ i1 a0=>have Jg:=NY (aY k xs) xs i1 (l4 k xs);have Bm:=zw (aY k xs) xs i1 (l4 k xs);have DM:=LF (aY k xs) xs zE i1 (l4 k xs);have Jh:=jG aK zE xs i1;have K5:=cS aK xs i1;have K6:=cS aK xs (i1+1);have Qc:=nU aK xs i1;have Qd:=Lf (xs.getD i1 zE);have Qe:=ct zE xs i1;have U1:=ly (xs.getD i1 zE);have OP:=Xy (k+(aw aK (xs.take i1):Int)) (xs.getD i1 zE);have OQ:=(λ (y:M) (h:i1<xs.length)=>Ou (half (aY k xs) xs i1) i1 y zE (by rw[zw _ _ i1 (l4 k xs)];exact h));have U0:=(λ (h:i1<xs.length) (y1 y2 y3:M)=>Wk k xs i1 zE h y1 y2 y3);⟨λ a1=>⟨?_,⟨?_,⟨?_,⟨?_,⟨?_,⟨?_,⟨?_,⟨i1+1,⟨?_,⟨?_,⟨⟨trivial,⟨?_,⟨rfl,⟨?_,trivial⟩⟩⟩⟩,⟨?_,trivial⟩⟩⟩⟩⟩⟩⟩⟩⟩⟩⟩⟩,λ a1=>⟨?_,?_⟩⟩⟩
 all_goals try and_intros
 all_goals first|rfl|trivial|omega|(simp only[a5a,a3r,a1F,a1L,aZ,ah] at *;first|omega|(have hi:i2<xs.length:=by omega);simp only[OQ _ hi,DM hi];first|omega|(refine U0 hi (M.mk 0 0 []) (M.mk 0 0 []) _ ?_;rw[OP,Int.add_assoc];rfl))|grind
theorem Ak:∀ n,iu [eO n]
 | 0=>⟨⟨aB lR rfl (by decide),λ _ _ _ _ _ h=>absurd (show cd _<0 from h.1) (a2s _)⟩,trivial⟩
 | n+1=>by
  have ih:=Ak n
  exact⟨DA n trivial trivial ⟨ih.1,trivial⟩ trivial,trivial⟩
theorem rO:MK.Good fk :=
 ⟨aB lR rfl (by decide),λ (xs:List M) (k:Int) w v fp (hp:0<=k/\k+(aw aK xs:Int)<=4611686018427387904)=>(Ak (cd xs+1)).1.2 xs k w v fp (show (cd xs<cd xs+1/\(0<=k/\k+(aw aK xs:Int)<=4611686018427387904)) from ⟨a2l _,hp⟩)⟩
def fT:MK:=⟨yM,⟨(.st .expr),λ (x:M) (k:Int)=>(some (0<=k/\k+(aw aK x.J:Int)<=4611686018427387904),(M.mk x.af x.al (aY k x.J)),k+(aw aK x.J:Int))⟩⟩
def rk(x:M)(k:Int):Nat->aW:=λ _ => .none
theorem Fz(x:M)(k:Int):dd (dr [] [] [fk] [8] []) (aD ew) (rk x k) 0 (jE ew fT.m x k) (ej ew ⟨(.st .expr),x⟩ k) =
 (((0<=k/\k+(aw aK x.J:Int)<=4611686018427387904)/\((k+(aw aK x.J:Int))=(k+(aw aK x.J:Int))/\(M.mk x.af x.al (aY k x.J))=(M.mk x.af x.al (aY k x.J))))):=by kernel_rfl
theorem Fh(hE:aR [])(hO:ja [])(hM:iu [fk])(hS:gO []):MK.Good fT:=by
 refine⟨aB v7 rfl (by decide),um (own:=[8]) (wr:=[]) (cl:=[]) (ro:=[]) hE hO hM hS v7 Dc (λ x k=>rk x k) (λ x=>a2n rfl) (a2n (by kernel_rfl)) ?_⟩
 show ∀ (x:M) (k:Int),(0<=k/\k+(aw aK x.J:Int)<=4611686018427387904)->ah k->dd (dr [] [] [fk] [8] []) (aD ew) (rk x k) 0 (jE ew fT.m x k) (ej ew ⟨(.st .expr),x⟩ k)
 intro x k hp hk
 rewrite [Fz x k]
 refine⟨?_,⟨rfl,rfl⟩⟩
 all_goals try and_intros
 all_goals first|rfl|trivial|omega|(simp only[a1F,a1L,aZ,ah,dD,eM,j0,fI] at *;omega)|(simp[aZ,ah] at *;omega)|grind
theorem Cb:MK.Good fT:=Fh trivial trivial ⟨rO,trivial⟩ trivial
end
end Go.Proofs.YtaaamahdcpcofaaDoor

namespace Go.Proofs.YtaaamahdcpcofaaDoor
noncomputable section
def gM{α:Type}(dO:α->Nat)(mk:Int->α->α)(k:Int):List α->List α
 | []=>[]
 | x::xs=>mk k x::gM dO mk (k+(dO x:Int)) xs
theorem qC{α:Type}(dO:α->Nat)(mk:Int->α->α):∀ (k:Int) (xs:List α),(gM dO mk k xs).length=xs.length
 | _,[]=>rfl
 | k,x::xs=>by simp[gM,qC dO mk _ xs]
theorem Iu{α:Type}(dO:α->Nat)(mk:Int->α->α)(z:α):∀ (k:Int) (xs:List α) (i:Nat),i<xs.length->(gM dO mk k xs).getD i z=mk (k+(aw dO (xs.take i):Int)) (xs.getD i z)
 | k,[],i,h=>by simp at h
 | k,x::xs,0,h=>by simp[gM,aw]
 | k,x::xs,i+1,h=>by
  have:=Iu dO mk z (k+(dO x:Int)) xs i (by simpa using h)
  simp only[gM,a3S,this,a3t,aw]
  congr 1
  omega
theorem Ui{α:Type}(dO:α->Nat)(mk:Int->α->α)(k:Int)(xs:List α)(i:Nat)(z:α)(h:i<xs.length)(y:α)(e:y=mk (k+(aw dO (xs.take i):Int)) (xs.getD i z)) :
  (half (gM dO mk k xs) xs i).set i y=half (gM dO mk k xs) xs (i+1):=by
 rw[e,<-Iu dO mk z k xs i h,NZ _ _ z i (qC dO mk k xs) h]
theorem NF{α:Type}(dO:α->Nat)(h:∀ x,1<=dO x):∀ xs:List α,xs.length<=aw dO xs
 | []=>by simp[aw]
 | x::xs=>by
  have:=NF dO h xs
  have:=h x
  simp only[aw,a1M];omega
end
end Go.Proofs.YtaaamahdcpcofaaDoor

set_option maxRecDepth 4000
set_option maxHeartbeats 4000000
namespace Go.Proofs.YtaaamahdcpcofaaDoor
noncomputable section
mutual
def aj:ai->Nat
 | ⟨_,_,c,ks⟩=>4+aw aK c.J+kj ks
def kj:List ai->Nat
 | []=>0
 | x::xs=>aj x+kj xs
end
theorem mF:∀ xs,kj xs=aw aj xs
 | []=>rfl
 | x::xs=>by rw[kj,aw,mF xs]
theorem zn(x:ai):aj x=4+aw aK x.cond.J+aw aj x.J:=by
 cases x;simp[aj,mF]
mutual
def bA(k:Int):ai->ai
 | ⟨_,_,c,ks⟩=>⟨k,k+1,⟨k+1+1,k+1+1+1,aY (k+1+1+1+1) c.J⟩,oz (k+1+1+1+1+(aw aK c.J:Int)) ks⟩
def oz(k:Int):List ai->List ai
 | []=>[]
 | x::xs=>bA k x::oz (k+(aj x:Int)) xs
end
theorem rn:∀ (xs:List ai) (k:Int),oz k xs=gM aj bA k xs
 | [],_=>rfl
 | x::xs,k=>by rw[oz,gM,rn xs]
theorem Q1(k:Int)(x:ai):bA k x=⟨k,k+1,⟨k+1+1,k+1+1+1,aY (k+1+1+1+1) x.cond.J⟩,gM aj bA (k+1+1+1+1+(aw aK x.cond.J:Int)) x.J⟩:=by
 cases x;simp only[bA,rn]
def bj(k:Int)(xs:List ai)(i:Nat):List ai:=half (gM aj bA k xs) xs i
theorem Ng(k:Int)(xs:List ai):xs=bj k xs 0:=LG _ _
theorem Pd(k:Int)(xs:List ai)(i:Nat)(h:xs.length<=i):bj k xs i=gM aj bA k xs:=NY _ _ i (qC aj bA k xs) h
theorem GH(k:Int)(xs:List ai)(i:Nat):(bj k xs i).length=xs.length:=zw _ _ i (qC aj bA k xs)
theorem Pe(k:Int)(xs:List ai)(i:Nat)(z:ai)(h:i<xs.length):(bj k xs i).getD i z=xs.getD i z:=LF _ _ z i (qC aj bA k xs) h
theorem Pf(k:Int)(xs:List ai)(i:Nat)(z y:ai)(h:i<xs.length):((bj k xs i).set i y).getD i z=y:=Ou _ i y z (by rw[GH];exact h)
def qJ(k:Int)(x:ai):ai:=(ai.mk (k) x.al x.cond x.J)
def mL(k:Int)(x:ai):ai:=(ai.mk (k) (k+1) x.cond x.J)
def mM(k:Int)(x:ai):ai:=(ai.mk (k) (k+1) (M.mk (k+1+1) x.cond.al x.cond.J) x.J)
def iY(k:Int)(x:ai):ai:=(ai.mk (k) (k+1) (M.mk (k+1+1) (k+1+1+1) x.cond.J) x.J)
def jF(k:Int)(x:ai):ai:=(ai.mk (k) (k+1) (M.mk (k+1+1) (k+1+1+1) (aY (k+1+1+1+1) x.cond.J)) x.J)
def IM(k:Int)(x:ai):ai:=(ai.mk (k) (k+1) (M.mk (k+1+1) (k+1+1+1) (aY (k+1+1+1+1) x.cond.J)) (gM aj bA (k+1+1+1+1+(aw aK x.cond.J:Int)) x.J))
theorem PO(k:Int)(x:ai):IM k x=bA k x:=(Q1 k x).symm
theorem Nf(k:Int)(xs:List ai)(i:Nat)(z:ai)(h:i<xs.length):(bj k xs i).set i (IM (k+(aw aj (xs.take i):Int)) (xs.getD i z))=bj k xs (i+1):=Ui aj bA k xs i z h _ (PO _ _)
def eP(n:Nat):MK:=⟨rv,⟨(.slice (.st .prog)),λ (xs:List ai) (k:Int)=>(some (cd xs<n/\0<=k/\k+(aw aj xs:Int)<=4611686018427387904),gM aj bA k xs,k+(aw aj xs:Int))⟩⟩
def l5:MK:=⟨rv,⟨(.slice (.st .prog)),λ (xs:List ai) (k:Int)=>(some (0<=k/\k+(aw aj xs:Int)<=4611686018427387904),gM aj bA k xs,k+(aw aj xs:Int))⟩⟩
def pQ(xs:List ai)(k:Int):Nat->aW:=(λ zb=>if Nat.beq zb 0 then .mk (Nat) (λ i=>i<=xs.length) (λ i=>xs.length - i) [] [2,3,50] (λ i=>[(5, .az ⟨(.int .i64),((i:Int):Int)⟩),(1, .az ⟨(.int .i64),(k+(aw aj (xs.take i):Int):Int)⟩),(0, .aq 50)]) [0,1,4,5,6,7,8,9,10,11,12,13,14,15,16,17,18,19,20,21,22,23,24,25,26,27,28,29,30,31,32,33,34,35,36,37,38,39,40,41,42,43,44,45,46,47,48,49,51,52,53,54,55,56,57] (λ i=>[(50, .aq (.st .prog) (bj k xs i:List ai))]) [] [] (λ i=>(λ zb=>if Nat.beq zb 100006 then .mk (Unit) (λ u=>i<xs.length) (λ u=>0) [] [2,3,6,7,8,9,10,11,12,13,14,15,16,17,18,19,20,21,22,23,24,25,26,27,28,29,30,31,32,33,34,35,36,37,38,39,40,41,42,43,44,45,46,47,48,49,50,51,52,53,54,55,56,57] (λ u=>[(5, .az ⟨(.int .i64),((i:Int):Int)⟩),(1, .az ⟨(.int .i64),(k+(aw aj (xs.take i):Int)+1:Int)⟩),(0, .aq 50)]) [0,1,4,5,6,7,8,9,10,11,12,13,14,15,16,17,18,19,20,21,22,23,24,25,26,27,28,29,30,31,32,33,34,35,36,37,38,39,40,41,42,43,44,45,46,47,48,49,51,52,53,54,55,56,57] (λ u=>[(50, .aq (.st .prog) ((bj k xs i).set i (qJ (k+(aw aj (xs.take i):Int)) (xs.getD i zP)):List ai))]) [] [] (λ u=>(λ zb=>if Nat.beq zb 100008 then .mk (Unit) (λ u=>i<xs.length) (λ u=>0) [] [2,3,6,7,8,9,10,11,12,13,14,15,16,17,18,19,20,21,22,23,24,25,26,27,28,29,30,31,32,33,34,35,36,37,38,39,40,41,42,43,44,45,46,47,48,49,50,51,52,53,54,55,56,57] (λ u=>[(5, .az ⟨(.int .i64),((i:Int):Int)⟩),(1, .az ⟨(.int .i64),(k+(aw aj (xs.take i):Int)+1+1:Int)⟩),(0, .aq 50)]) [0,1,4,5,6,7,8,9,10,11,12,13,14,15,16,17,18,19,20,21,22,23,24,25,26,27,28,29,30,31,32,33,34,35,36,37,38,39,40,41,42,43,44,45,46,47,48,49,51,52,53,54,55,56,57] (λ u=>[(50, .aq (.st .prog) ((bj k xs i).set i (mL (k+(aw aj (xs.take i):Int)) (xs.getD i zP)):List ai))]) [] [] (λ u=>(λ zb=>if Nat.beq zb 100010 then .mk (Unit) (λ u=>i<xs.length) (λ u=>0) [] [2,3,6,7,8,9,10,11,12,13,14,15,16,17,18,19,20,21,22,23,24,25,26,27,28,29,30,31,32,33,34,35,36,37,38,39,40,41,42,43,44,45,46,47,48,49,50,51,52,53,54,55,56,57] (λ u=>[(5, .az ⟨(.int .i64),((i:Int):Int)⟩),(1, .az ⟨(.int .i64),(k+(aw aj (xs.take i):Int)+1+1+1:Int)⟩),(0, .aq 50)]) [0,1,4,5,6,7,8,9,10,11,12,13,14,15,16,17,18,19,20,21,22,23,24,25,26,27,28,29,30,31,32,33,34,35,36,37,38,39,40,41,42,43,44,45,46,47,48,49,51,52,53,54,55,56,57] (λ u=>[(50, .aq (.st .prog) ((bj k xs i).set i (mM (k+(aw aj (xs.take i):Int)) (xs.getD i zP)):List ai))]) [] [] (λ u=>(λ zb=>if Nat.beq zb 100012 then .mk (Unit) (λ u=>i<xs.length) (λ u=>0) [] [2,3,6,7,8,9,10,11,12,13,14,15,16,17,18,19,20,21,22,23,24,25,26,27,28,29,30,31,32,33,34,35,36,37,38,39,40,41,42,43,44,45,46,47,48,49,50,51,52,53,54,55,56,57] (λ u=>[(5, .az ⟨(.int .i64),((i:Int):Int)⟩),(1, .az ⟨(.int .i64),(k+(aw aj (xs.take i):Int)+1+1+1+1:Int)⟩),(0, .aq 50)]) [0,1,4,5,6,7,8,9,10,11,12,13,14,15,16,17,18,19,20,21,22,23,24,25,26,27,28,29,30,31,32,33,34,35,36,37,38,39,40,41,42,43,44,45,46,47,48,49,51,52,53,54,55,56,57] (λ u=>[(50, .aq (.st .prog) ((bj k xs i).set i (iY (k+(aw aj (xs.take i):Int)) (xs.getD i zP)):List ai))]) [] [] (λ u=>(λ zb=>if Nat.beq zb 100013 then .mk (Unit) (λ u=>i<xs.length) (λ u=>0) [] [2,3,6,7,8,9,10,11,12,13,14,15,16,17,18,19,20,21,22,23,24,25,26,27,28,29,30,31,32,33,34,35,36,37,38,39,40,41,42,43,44,45,46,47,48,49,50,51,52,53,54,55,56,57] (λ u=>[(5, .az ⟨(.int .i64),((i:Int):Int)⟩),(1, .az ⟨(.int .i64),(k+(aw aj (xs.take i):Int)+1+1+1+1+(aw aK (xs.getD i zP).cond.J:Int):Int)⟩),(0, .aq 50)]) [0,1,4,5,6,7,8,9,10,11,12,13,14,15,16,17,18,19,20,21,22,23,24,25,26,27,28,29,30,31,32,33,34,35,36,37,38,39,40,41,42,43,44,45,46,47,48,49,51,52,53,54,55,56,57] (λ u=>[(50, .aq (.st .prog) ((bj k xs i).set i (jF (k+(aw aj (xs.take i):Int)) (xs.getD i zP)):List ai))]) [] [] (λ u=>λ _ => .none) else .none)) else .none)) else .none)) else .none)) else .none)) else .none)
theorem DE(n:Nat)(xs:List ai)(k:Int):dd (dr [] [] [fk,eP n] [49,56] []) (aD dQ) (pQ xs k) 0 (jE dQ (eP (n+1)).m xs k) (ej dQ ⟨(.slice (.st .prog)),xs⟩ k) =
 (((∃ i1:Nat,(i1<=xs.length/\((True/\(k=(k+(aw aj (xs.take i1):Int))/\((0:Int)=(0:Int)/\((0:Int)=(i1:Int)/\True))))/\(xs=(bj k xs i1)/\True))))/\(∀ i1:Nat,(i1<=xs.length ->
 (((decide ((i1:Int)<(((bj k xs i1).length:Int))))=true ->
 (aZ (i1:Int) (bj k xs i1).length/\((ah ((k+(aw aj (xs.take i1):Int))+(1:Int))/\(∃ u2:Unit,(i1<xs.length/\((True/\(((k+(aw aj (xs.take i1):Int))+(1:Int))=(k+(aw aj (xs.take i1):Int)+1)/\((0:Int)=(0:Int)/\((i1:Int)=(i1:Int)/\True))))/\(((bj k xs i1).set i1 (ai.mk (k+(aw aj (xs.take i1):Int)) ((bj k xs i1).getD i1 zP).al (bH ((bj k xs i1).getD i1 zP).cond) ((bj k xs i1).getD i1 zP).J))=((bj k xs i1).set i1 (qJ (k+(aw aj (xs.take i1):Int)) (xs.getD i1 zP)))/\True)))))/\(∀ u2:Unit,(i1<xs.length ->
 (aZ (i1:Int) ((bj k xs i1).set i1 (qJ (k+(aw aj (xs.take i1):Int)) (xs.getD i1 zP))).length/\((ah ((k+(aw aj (xs.take i1):Int)+1)+(1:Int))/\(∃ u3:Unit,(i1<xs.length/\((True/\(((k+(aw aj (xs.take i1):Int)+1)+(1:Int))=(k+(aw aj (xs.take i1):Int)+1+1)/\((0:Int)=(0:Int)/\((i1:Int)=(i1:Int)/\True))))/\((((bj k xs i1).set i1 (qJ (k+(aw aj (xs.take i1):Int)) (xs.getD i1 zP))).set i1 (ai.mk (((bj k xs i1).set i1 (qJ (k+(aw aj (xs.take i1):Int)) (xs.getD i1 zP))).getD i1 zP).af (k+(aw aj (xs.take i1):Int)+1) (bH (((bj k xs i1).set i1 (qJ (k+(aw aj (xs.take i1):Int)) (xs.getD i1 zP))).getD i1 zP).cond) (((bj k xs i1).set i1 (qJ (k+(aw aj (xs.take i1):Int)) (xs.getD i1 zP))).getD i1 zP).J))=((bj k xs i1).set i1 (mL (k+(aw aj (xs.take i1):Int)) (xs.getD i1 zP)))/\True)))))/\(∀ u3:Unit,(i1<xs.length ->
 (aZ (i1:Int) ((bj k xs i1).set i1 (mL (k+(aw aj (xs.take i1):Int)) (xs.getD i1 zP))).length/\((ah ((k+(aw aj (xs.take i1):Int)+1+1)+(1:Int))/\(∃ u4:Unit,(i1<xs.length/\((True/\(((k+(aw aj (xs.take i1):Int)+1+1)+(1:Int))=(k+(aw aj (xs.take i1):Int)+1+1+1)/\((0:Int)=(0:Int)/\((i1:Int)=(i1:Int)/\True))))/\((((bj k xs i1).set i1 (mL (k+(aw aj (xs.take i1):Int)) (xs.getD i1 zP))).set i1 (ai.mk (((bj k xs i1).set i1 (mL (k+(aw aj (xs.take i1):Int)) (xs.getD i1 zP))).getD i1 zP).af (((bj k xs i1).set i1 (mL (k+(aw aj (xs.take i1):Int)) (xs.getD i1 zP))).getD i1 zP).al (M.mk (k+(aw aj (xs.take i1):Int)+1+1) (((bj k xs i1).set i1 (mL (k+(aw aj (xs.take i1):Int)) (xs.getD i1 zP))).getD i1 zP).cond.al (((bj k xs i1).set i1 (mL (k+(aw aj (xs.take i1):Int)) (xs.getD i1 zP))).getD i1 zP).cond.J) (((bj k xs i1).set i1 (mL (k+(aw aj (xs.take i1):Int)) (xs.getD i1 zP))).getD i1 zP).J))=((bj k xs i1).set i1 (mM (k+(aw aj (xs.take i1):Int)) (xs.getD i1 zP)))/\True)))))/\(∀ u4:Unit,(i1<xs.length ->
 (aZ (i1:Int) ((bj k xs i1).set i1 (mM (k+(aw aj (xs.take i1):Int)) (xs.getD i1 zP))).length/\((ah ((k+(aw aj (xs.take i1):Int)+1+1+1)+(1:Int))/\(∃ u5:Unit,(i1<xs.length/\((True/\(((k+(aw aj (xs.take i1):Int)+1+1+1)+(1:Int))=(k+(aw aj (xs.take i1):Int)+1+1+1+1)/\((0:Int)=(0:Int)/\((i1:Int)=(i1:Int)/\True))))/\((((bj k xs i1).set i1 (mM (k+(aw aj (xs.take i1):Int)) (xs.getD i1 zP))).set i1 (ai.mk (((bj k xs i1).set i1 (mM (k+(aw aj (xs.take i1):Int)) (xs.getD i1 zP))).getD i1 zP).af (((bj k xs i1).set i1 (mM (k+(aw aj (xs.take i1):Int)) (xs.getD i1 zP))).getD i1 zP).al (M.mk (((bj k xs i1).set i1 (mM (k+(aw aj (xs.take i1):Int)) (xs.getD i1 zP))).getD i1 zP).cond.af (k+(aw aj (xs.take i1):Int)+1+1+1) (((bj k xs i1).set i1 (mM (k+(aw aj (xs.take i1):Int)) (xs.getD i1 zP))).getD i1 zP).cond.J) (((bj k xs i1).set i1 (mM (k+(aw aj (xs.take i1):Int)) (xs.getD i1 zP))).getD i1 zP).J))=((bj k xs i1).set i1 (iY (k+(aw aj (xs.take i1):Int)) (xs.getD i1 zP)))/\True)))))/\(∀ u5:Unit,(i1<xs.length ->
 ((aZ (i1:Int) ((bj k xs i1).set i1 (iY (k+(aw aj (xs.take i1):Int)) (xs.getD i1 zP))).length/\((0<=(k+(aw aj (xs.take i1):Int)+1+1+1+1)/\(k+(aw aj (xs.take i1):Int)+1+1+1+1)+(aw aK (((bj k xs i1).set i1 (iY (k+(aw aj (xs.take i1):Int)) (xs.getD i1 zP))).getD i1 zP).cond.J:Int)<=4611686018427387904)/\(∃ u6:Unit,(i1<xs.length/\((True/\(((k+(aw aj (xs.take i1):Int)+1+1+1+1)+(aw aK (((bj k xs i1).set i1 (iY (k+(aw aj (xs.take i1):Int)) (xs.getD i1 zP))).getD i1 zP).cond.J:Int))=(k+(aw aj (xs.take i1):Int)+1+1+1+1+(aw aK (xs.getD i1 zP).cond.J:Int))/\((0:Int)=(0:Int)/\((i1:Int)=(i1:Int)/\True))))/\((((bj k xs i1).set i1 (iY (k+(aw aj (xs.take i1):Int)) (xs.getD i1 zP))).set i1 (ai.mk (((bj k xs i1).set i1 (iY (k+(aw aj (xs.take i1):Int)) (xs.getD i1 zP))).getD i1 zP).af (((bj k xs i1).set i1 (iY (k+(aw aj (xs.take i1):Int)) (xs.getD i1 zP))).getD i1 zP).al (M.mk (((bj k xs i1).set i1 (iY (k+(aw aj (xs.take i1):Int)) (xs.getD i1 zP))).getD i1 zP).cond.af (((bj k xs i1).set i1 (iY (k+(aw aj (xs.take i1):Int)) (xs.getD i1 zP))).getD i1 zP).cond.al (aY (k+(aw aj (xs.take i1):Int)+1+1+1+1) (((bj k xs i1).set i1 (iY (k+(aw aj (xs.take i1):Int)) (xs.getD i1 zP))).getD i1 zP).cond.J)) (((bj k xs i1).set i1 (iY (k+(aw aj (xs.take i1):Int)) (xs.getD i1 zP))).getD i1 zP).J))=((bj k xs i1).set i1 (jF (k+(aw aj (xs.take i1):Int)) (xs.getD i1 zP)))/\True))))))/\(∀ u6:Unit,(i1<xs.length ->
 (aZ (i1:Int) ((bj k xs i1).set i1 (jF (k+(aw aj (xs.take i1):Int)) (xs.getD i1 zP))).length/\((cd (((bj k xs i1).set i1 (jF (k+(aw aj (xs.take i1):Int)) (xs.getD i1 zP))).getD i1 zP).J<n/\0<=(k+(aw aj (xs.take i1):Int)+1+1+1+1+(aw aK (xs.getD i1 zP).cond.J:Int))/\(k+(aw aj (xs.take i1):Int)+1+1+1+1+(aw aK (xs.getD i1 zP).cond.J:Int))+(aw aj (((bj k xs i1).set i1 (jF (k+(aw aj (xs.take i1):Int)) (xs.getD i1 zP))).getD i1 zP).J:Int)<=4611686018427387904)/\(ah ((i1:Int)+(1:Int))/\(∃ i7:Nat,(i7<=xs.length/\(xs.length - i7<xs.length - i1/\((True/\(((k+(aw aj (xs.take i1):Int)+1+1+1+1+(aw aK (xs.getD i1 zP).cond.J:Int))+(aw aj (((bj k xs i1).set i1 (jF (k+(aw aj (xs.take i1):Int)) (xs.getD i1 zP))).getD i1 zP).J:Int))=(k+(aw aj (xs.take i7):Int))/\((0:Int)=(0:Int)/\(((i1:Int)+(1:Int))=(i7:Int)/\True))))/\((((bj k xs i1).set i1 (jF (k+(aw aj (xs.take i1):Int)) (xs.getD i1 zP))).set i1 (ai.mk (((bj k xs i1).set i1 (jF (k+(aw aj (xs.take i1):Int)) (xs.getD i1 zP))).getD i1 zP).af (((bj k xs i1).set i1 (jF (k+(aw aj (xs.take i1):Int)) (xs.getD i1 zP))).getD i1 zP).al (bH (((bj k xs i1).set i1 (jF (k+(aw aj (xs.take i1):Int)) (xs.getD i1 zP))).getD i1 zP).cond) (gM aj bA (k+(aw aj (xs.take i1):Int)+1+1+1+1+(aw aK (xs.getD i1 zP).cond.J:Int)) (((bj k xs i1).set i1 (jF (k+(aw aj (xs.take i1):Int)) (xs.getD i1 zP))).getD i1 zP).J)))=(bj k xs i7)/\True))))))))))))))))))))))))))))/\((decide ((i1:Int)<(((bj k xs i1).length:Int))))=false ->
 ((k+(aw aj (xs.take i1):Int))=(k+(aw aj xs:Int))/\(bj k xs i1)=(gM aj bA k xs)))))))):=by kernel_rfl
theorem DB(n:Nat)(hE:aR [])(hO:ja [])(hM:iu [fk,eP n])(hS:gO []):MK.Good (eP (n+1)):=by
 refine⟨aB lS rfl (by decide),um (own:=[49,56]) (wr:=[]) (cl:=[]) (ro:=[]) hE hO hM hS lS Br (λ xs k=>pQ xs k) (λ x=>a2n rfl) (a2n (by kernel_rfl)) ?_⟩
 show ∀ (xs:List ai) (k:Int),(cd xs<n+1/\0<=k/\k+(aw aj xs:Int)<=4611686018427387904)->ah k->dd (dr [] [] [fk,eP n] [49,56] []) (aD dQ) (pQ xs k) 0 (jE dQ (eP (n+1)).m xs k) (ej dQ ⟨(.slice (.st .prog)),xs⟩ k)
 intro xs k hp hk
 rewrite [DE n xs k]
 have f0:=Ng k xs
 have f1:=qK aj xs
 have f2:=NF aj (λ x=>by rw[zn];omega) xs
 refine⟨⟨0,⟨?_,⟨⟨trivial,⟨?_,⟨rfl,⟨?_,trivial⟩⟩⟩⟩,⟨?_,trivial⟩⟩⟩⟩,λ i1 a0=>have Jg:=Pd k xs i1;have Bm:=Pf k xs i1 zP;have DM:=Pe k xs i1 zP;have Jh:=Nf k xs i1 zP;have K5:=GH k xs i1;have K6:=jG aj zP xs i1;have Qc:=cS aj xs i1;have Qd:=cS aj xs (i1+1);have Qe:=nU aj xs i1;have U1:=zn (xs.getD i1 zP);have OP:=ct zP xs i1;have OQ:=nL (xs.getD i1 zP);⟨λ a1=>⟨?_,⟨⟨?_,⟨(),⟨?_,⟨⟨trivial,⟨?_,⟨rfl,⟨rfl,trivial⟩⟩⟩⟩,⟨?_,trivial⟩⟩⟩⟩⟩,λ u2=>λ a2=>⟨?_,⟨⟨?_,⟨(),⟨?_,⟨⟨trivial,⟨?_,⟨rfl,⟨rfl,trivial⟩⟩⟩⟩,⟨?_,trivial⟩⟩⟩⟩⟩,λ u3=>λ a3=>⟨?_,⟨⟨?_,⟨(),⟨?_,⟨⟨trivial,⟨?_,⟨rfl,⟨rfl,trivial⟩⟩⟩⟩,⟨?_,trivial⟩⟩⟩⟩⟩,λ u4=>λ a4=>⟨?_,⟨⟨?_,⟨(),⟨?_,⟨⟨trivial,⟨?_,⟨rfl,⟨rfl,trivial⟩⟩⟩⟩,⟨?_,trivial⟩⟩⟩⟩⟩,λ u5=>λ a5=>⟨⟨?_,⟨?_,⟨(),⟨?_,⟨⟨trivial,⟨?_,⟨rfl,⟨rfl,trivial⟩⟩⟩⟩,⟨?_,trivial⟩⟩⟩⟩⟩⟩,λ u6=>λ a6=>⟨?_,⟨?_,⟨?_,⟨i1+1,⟨?_,⟨?_,⟨⟨trivial,⟨?_,⟨rfl,⟨?_,trivial⟩⟩⟩⟩,⟨?_,trivial⟩⟩⟩⟩⟩⟩⟩⟩⟩⟩⟩⟩⟩⟩⟩⟩⟩,λ a1=>⟨?_,?_⟩⟩⟩
 all_goals try and_intros
 all_goals try simp only[M.eta,ai.eta,aG,bo] at *
 all_goals first|rfl|trivial|omega|(simp only[a5a,a3r,a1F,a1L,aZ,ah] at *;first|omega|exact Jg (by omega)|(simp only[Bm _ (by omega)];rfl)|(simp only[Bm _ (by omega),DM (by omega)];first|done|omega|rfl)|(simp only[DM (by omega)];first|done|omega|rfl)|(simp only[Bm _ (by omega)];first|omega|exact Jh (by omega))|(simp only[Bm _ (by omega),qJ,mL,mM,iY,jF,IM];first|done|omega)|grind)
theorem Al:∀ n,iu [eP n]
 | 0=>⟨⟨aB lS rfl (by decide),λ _ _ _ _ _ h=>absurd (show cd _<0 from h.1) (a2s _)⟩,trivial⟩
 | n+1=>by
  have ih:=Al n
  exact⟨DB n trivial trivial ⟨rO,ih.1,trivial⟩ trivial,trivial⟩
theorem AZ:MK.Good l5 :=
 ⟨aB lS rfl (by decide),λ (xs:List ai) (k:Int) w v fp (hp:0<=k/\k+(aw aj xs:Int)<=4611686018427387904)=>(Al (cd xs+1)).1.2 xs k w v fp (show (cd xs<cd xs+1/\(0<=k/\k+(aw aj xs:Int)<=4611686018427387904)) from ⟨a2l _,hp⟩)⟩
def fU:MK:=⟨yN,⟨(.st .prog),λ (x:ai) (k:Int)=>(some (0<=k/\k+(aw aK x.cond.J:Int)+(aw aj x.J:Int)<=4611686018427387904),(ai.mk x.af x.al (M.mk x.cond.af x.cond.al (aY k x.cond.J)) (gM aj bA (k+(aw aK x.cond.J:Int)) x.J)),k+(aw aK x.cond.J:Int)+(aw aj x.J:Int))⟩⟩
def rl(x:ai)(k:Int):Nat->aW:=λ _ => .none
theorem FA(x:ai)(k:Int):dd (dr [] [] [fT,l5] [8,12] []) (aD ey) (rl x k) 0 (jE ey fU.m x k) (ej ey ⟨(.st .prog),x⟩ k) =
 (((0<=k/\k+(aw aK (bH x.cond).J:Int)<=4611686018427387904)/\((0<=(k+(aw aK (bH x.cond).J:Int))/\(k+(aw aK (bH x.cond).J:Int))+(aw aj x.J:Int)<=4611686018427387904)/\(((k+(aw aK (bH x.cond).J:Int))+(aw aj x.J:Int))=(k+(aw aK x.cond.J:Int)+(aw aj x.J:Int))/\(ai.mk x.af x.al (M.mk x.cond.af x.cond.al ((M.mk (bH x.cond).af (bH x.cond).al (aY k (bH x.cond).J))).J) (gM aj bA (k+(aw aK (bH x.cond).J:Int)) x.J))=(ai.mk x.af x.al (M.mk x.cond.af x.cond.al (aY k x.cond.J)) (gM aj bA (k+(aw aK x.cond.J:Int)) x.J)))))):=by kernel_rfl
theorem Fi(hE:aR [])(hO:ja [])(hM:iu [fT,l5])(hS:gO []):MK.Good fU:=by
 refine⟨aB v8 rfl (by decide),um (own:=[8,12]) (wr:=[]) (cl:=[]) (ro:=[]) hE hO hM hS v8 Dd (λ x k=>rl x k) (λ x=>a2n rfl) (a2n (by kernel_rfl)) ?_⟩
 show ∀ (x:ai) (k:Int),(0<=k/\k+(aw aK x.cond.J:Int)+(aw aj x.J:Int)<=4611686018427387904)->ah k->dd (dr [] [] [fT,l5] [8,12] []) (aD ey) (rl x k) 0 (jE ey fU.m x k) (ej ey ⟨(.st .prog),x⟩ k)
 intro x k hp hk
 rewrite [FA x k]
 refine⟨?_,⟨?_,⟨?_,?_⟩⟩⟩
 all_goals try and_intros
 all_goals try simp only[M.eta,ai.eta,aG,bo] at *
 all_goals first|rfl|trivial|omega|(simp only[a1F,a1L,aZ,ah,dD,eM,j0,fI] at *;omega)|(simp[aZ,ah] at *;omega)|grind
theorem Cc:MK.Good fU:=Fi trivial trivial ⟨Cb,AZ,trivial⟩ trivial
end
end Go.Proofs.YtaaamahdcpcofaaDoor

set_option maxRecDepth 4000
set_option maxHeartbeats 4000000
namespace Go.Proofs.YtaaamahdcpcofaaDoor
noncomputable section
mutual
theorem Qi:∀ (k:Int) (x:M),aK (Iv k x)=aK x
 | k,⟨a,b,ks⟩=>by
  have:=HZ (k+2) ks
  simp only[Iv,aK,this]
theorem HZ:∀ (k:Int) (xs:List M),w7 (aY k xs)=w7 xs
 | _,[]=>rfl
 | k,x::xs=>by
  have h1:=Qi k x
  have h2:=HZ (k+(aK x:Int)) xs
  simp only[aY,w7,h1,h2]
end
mutual
theorem Xz:∀ (k:Int) (x:M),Iv k (Iv k x)=Iv k x
 | k,⟨a,b,ks⟩=>by
  have:=G6 (k+2) ks
  simp only[Iv,this]
theorem G6:∀ (k:Int) (xs:List M),aY k (aY k xs)=aY k xs
 | _,[]=>rfl
 | k,x::xs=>by
  have h1:=Xz k x
  have h2:=Qi k x
  have h3:=G6 (k+(aK x:Int)) xs
  simp only[aY,h1,h2,h3]
end
def lL(k:Int)(xs:List M):Bool:=gA (aY k xs) xs
def cC(k:Int)(xs:List M):Int:=bif lL k xs then k+(aw aK xs:Int) else -1
theorem uT(k:Int)(xs:List M):(lL k xs=true/\cC k xs=k+(aw aK xs:Int))\/(lL k xs=false/\cC k xs = -1):=by
 unfold cC
 cases lL k xs<;>simp
theorem Mh(z:M):∀ (k:Int) (xs:List M) (i:Nat),i<xs.length->aY k (xs.take (i+1))=aY k (xs.take i)++[Iv (k+(aw aK (xs.take i):Int)) (xs.getD i z)]
 | k,[],i,h=>by simp at h
 | k,x::xs,0,h=>by simp[aY,aw]
 | k,x::xs,i+1,h=>by
  have:=Mh z (k+(aK x:Int)) xs i (by simpa using h)
  simp only[a3t,aY,this,a3S,aw,a2I]
  congr 4
  omega
def Un(k:Int)(x:M):Bool:=decide (x.af=k)&&decide (x.al=k+1)&&lL (k+2) x.J
theorem Q8(k:Int)(x:M):Un k x=true↔Iv k x=x:=by
 cases x
 simp[Un,lL,Iv]
 constructor
 .rintro⟨⟨h1,h2⟩,h3⟩;exact⟨h1.symm,h2.symm,h3⟩
 .rintro⟨h1,h2,h3⟩;exact⟨⟨h1.symm,h2.symm⟩,h3⟩
theorem SH(z:M)(k:Int)(xs:List M)(i:Nat)(h:i<xs.length):lL k (xs.take (i+1))=(lL k (xs.take i)&&Un (k+(aw aK (xs.take i):Int)) (xs.getD i z)):=by
 rw[a4r,a1z,Q8]
 simp only[lL,sU]
 rw[Mh z k xs i h,nW z xs i h]
 constructor
 .intro e
  have:=List.append_inj e (by rw[l4])
  exact⟨this.1,by simpa using this.2⟩
 .rintro⟨e1,e2⟩;rw[e1,e2]
theorem Uo(z:M)(k:Int)(xs:List M)(i:Nat)(h:i<xs.length)(e:Un (k+(aw aK (xs.take i):Int)) (xs.getD i z)=false):lL k xs=false:=by
 cases hb:lL k xs with
 | false=>rfl
 | true =>
  have h1:=Fa z k xs i h
  simp only[lL,sU] at hb
  rw[hb] at h1
  have:=(Q8 _ _).2 h1.symm
  rw[e] at this;cases this
theorem SG(k:Int)(xs:List M)(i:Nat)(h:xs.length<=i):lL k (xs.take i)=lL k xs:=by rw[a2F h]
theorem SF(k:Int)(x:M):Un k x=(decide (x.af=k)&&decide (x.al=k+1)&&lL (k+1+1) x.J):=by
 rw[Un,show k+2=k+1+1 by omega]
def jf(n:Nat):bu:=⟨nb,[.v (.slice (.st .expr)), .v (.int .i64)],λ (xs:List M) (k:Int)=>⟨(some (cd xs<n/\0<=k/\k+(aw aK xs:Int)<=4611686018427387904),[⟨(.int .i64),cC k xs⟩])⟩⟩
def fR:bu:=⟨nb,[.v (.slice (.st .expr)), .v (.int .i64)],λ (xs:List M) (k:Int)=>⟨(some (0<=k/\k+(aw aK xs:Int)<=4611686018427387904),[⟨(.int .i64),cC k xs⟩])⟩⟩
def wD(xs:List M)(k:Int):Nat->aW:=(λ zb=>if Nat.beq zb 0 then .mk (Nat) (λ i=>i<=xs.length/\lL k (xs.take i)=true) (λ i=>xs.length - i) [] [2,3] (λ i=>[(5, .az ⟨(.int .i64),((i:Int):Int)⟩),(1, .az ⟨(.int .i64),((k+(aw aK (xs.take i):Int)):Int)⟩)]) [0,1,4,5,6,7,8,9,10,11,12,13,14,15,16,17,18,19,20,21,22,23,24,25,26,27,28,29,30,31,32,33,34,35,36,37,38,39] (λ i=>[]) [] [] (λ i=>λ _ => .none) else .none)
theorem Fv(n:Nat)(xs:List M)(k:Int):dd (bz [jf n]) (aD gX) (wD xs k) 0 (bO (bz [jf n]) gX λ r=>bR r [⟨(.int .i64),cC k xs⟩]) (aU gX [.val ⟨(.slice (.st .expr)),xs⟩, .val ⟨(.int .i64),k⟩]) =
 (((∃ i1:Nat,((i1<=xs.length/\lL k (xs.take i1)=true)/\((xs=xs/\(k=(k+(aw aK (xs.take i1):Int))/\((0:Int)=(i1:Int)/\True)))/\True)))/\(∀ i1:Nat,((i1<=xs.length/\lL k (xs.take i1)=true) ->
 (ah ((xs.length:Int)) ->
 (((decide ((i1:Int)<((xs.length:Int))))=true ->
 (aZ (i1:Int) xs.length/\(ah (xs.getD i1 zE).af ->
 (((!(decide ((xs.getD i1 zE).af=(k+(aw aK (xs.take i1):Int)))))=true ->
 (-1:Int)=(cC k xs))/\((!(decide ((xs.getD i1 zE).af=(k+(aw aK (xs.take i1):Int)))))=false ->
 (ah ((k+(aw aK (xs.take i1):Int))+(1:Int))/\(aZ (i1:Int) xs.length/\(ah (xs.getD i1 zE).al ->
 (((!(decide ((xs.getD i1 zE).al=((k+(aw aK (xs.take i1):Int))+(1:Int)))))=true ->
 (-1:Int)=(cC k xs))/\((!(decide ((xs.getD i1 zE).al=((k+(aw aK (xs.take i1):Int))+(1:Int)))))=false ->
 (ah (((k+(aw aK (xs.take i1):Int))+(1:Int))+(1:Int))/\(aZ (i1:Int) xs.length/\((xs.getD i1 zE).J.length<=140737488355328 ->
 ((cd (xs.getD i1 zE).J<n/\0<=(((k+(aw aK (xs.take i1):Int))+(1:Int))+(1:Int))/\(((k+(aw aK (xs.take i1):Int))+(1:Int))+(1:Int))+(aw aK (xs.getD i1 zE).J:Int)<=4611686018427387904)/\(ah (cC (((k+(aw aK (xs.take i1):Int))+(1:Int))+(1:Int)) (xs.getD i1 zE).J) ->
 (((decide ((cC (((k+(aw aK (xs.take i1):Int))+(1:Int))+(1:Int)) (xs.getD i1 zE).J)<(0:Int)))=true ->
 (-1:Int)=(cC k xs))/\((decide ((cC (((k+(aw aK (xs.take i1):Int))+(1:Int))+(1:Int)) (xs.getD i1 zE).J)<(0:Int)))=false ->
 (ah ((i1:Int)+(1:Int))/\(∃ i2:Nat,((i2<=xs.length/\lL k (xs.take i2)=true)/\(xs.length - i2<xs.length - i1/\((xs=xs/\((cC (((k+(aw aK (xs.take i1):Int))+(1:Int))+(1:Int)) (xs.getD i1 zE).J)=(k+(aw aK (xs.take i2):Int))/\(((i1:Int)+(1:Int))=(i2:Int)/\True)))/\True))))))))))))))))))))))/\((decide ((i1:Int)<((xs.length:Int))))=false ->
 (k+(aw aK (xs.take i1):Int))=(cC k xs)))))))):=by kernel_rfl
theorem Fe(n:Nat)(hE:aR [jf n]):bu.Good (jf (n+1)):=by
 refine⟨aB lP rfl (by decide),?_⟩
 show ∀ (xs:List M) (k:Int),(cd xs<n+1/\0<=k/\k+(aw aK xs:Int)<=4611686018427387904)->bL prog nb [.val ⟨(.slice (.st .expr)),xs⟩, .val ⟨(.int .i64),k⟩] (·=[⟨(.int .i64),cC k xs⟩])
 intro xs k hp
 refine bB (wr:=[]) (cl:=[]) (ro:=[]) hE lP Bo (wD xs k) ?_
 rewrite [Fv n xs k]
 have f0:lL k (xs.take 0)=true:=by simp[lL,aY]
 have f1:=qK aK xs
 have f2:=uT k xs
 refine⟨⟨0,⟨?_,⟨⟨rfl,⟨?_,⟨?_,trivial⟩⟩⟩,trivial⟩⟩⟩,λ i1 a0=>have Jg:=SH zE k xs i1;have Bm:=Uo zE k xs i1;have DM:=SG k xs i1;have Jh:=SF (k+(aw aK (xs.take i1):Int)) (xs.getD i1 zE);have K5:=uT ((k+(aw aK (xs.take i1):Int))+1+1) (xs.getD i1 zE).J;have K6:=jG aK zE xs i1;have Qc:=cS aK xs i1;have Qd:=cS aK xs (i1+1);have Qe:=nU aK xs i1;have U1:=Lf (xs.getD i1 zE);have OP:=ct zE xs i1;have OQ:=ly (xs.getD i1 zE);λ a1=>⟨λ a2=>⟨?_,λ a3=>⟨λ a4=>?_,λ a4=>⟨?_,⟨?_,λ a5=>⟨λ a6=>?_,λ a6=>⟨?_,⟨?_,λ a7=>⟨?_,λ a8=>⟨λ a9=>?_,λ a9=>⟨?_,⟨i1+1,⟨?_,⟨?_,⟨⟨rfl,⟨?_,⟨?_,trivial⟩⟩⟩,trivial⟩⟩⟩⟩⟩⟩⟩⟩⟩⟩⟩⟩⟩⟩,λ a2=>?_⟩⟩
 all_goals try and_intros
 all_goals first|rfl|trivial|omega|(simp only[a1F,a1L,aZ,ah,a2k,a2Q] at *;first|omega|grind)
theorem Bf :∀ n,aR [jf n]
 | 0=>⟨⟨aB lP rfl (by decide),λ _ _ h=>absurd h.1 (a2s _)⟩,trivial⟩
 | n+1=>by
  have ih:=Bf  n
  exact⟨Fe n ⟨ih.1,trivial⟩,trivial⟩
theorem sV :bu.Good fR :=
 ⟨aB lP rfl (by decide),λ xs k hp=>(Bf  (cd xs+1)).1.2 xs k (⟨a2l _,hp⟩)⟩
def lf:bu:=⟨sg,[.v (.st .expr), .v (.int .i64)],λ (x:M) (k:Int)=>⟨(some (0<=k/\k+(aw aK x.J:Int)<=4611686018427387904),[⟨(.int .i64),cC k x.J⟩])⟩⟩
def yG(x:M)(k:Int):Nat->aW:=λ _ => .none
theorem HG(x:M)(k:Int):dd (bz [fR] [] [] [2]) (aD iS) (yG x k) 0 (bO (bz [fR] [] [] [2]) iS λ r=>bR r [⟨(.int .i64),cC k x.J⟩]) (aU iS [.val ⟨(.st .expr),x⟩, .val ⟨(.int .i64),k⟩]) =
 ((x.J.length<=140737488355328 ->
 ((0<=k/\k+(aw aK x.J:Int)<=4611686018427387904)/\(ah (cC k x.J) ->
 (((decide ((cC k x.J)<(0:Int)))=true ->
 (-1:Int)=(cC k x.J))/\((decide ((cC k x.J)<(0:Int)))=false ->
 (cC k x.J)=(cC k x.J))))))):=by kernel_rfl
theorem Hh(hE:aR [fR]):bu.Good lf:=by
 refine⟨aB vY rfl (by decide),?_⟩
 show ∀ (x:M) (k:Int),(0<=k/\k+(aw aK x.J:Int)<=4611686018427387904)->bL prog sg [.val ⟨(.st .expr),x⟩, .val ⟨(.int .i64),k⟩] (·=[⟨(.int .i64),cC k x.J⟩])
 intro x k hp
 refine bB (wr:=[]) (cl:=[]) (ro:=[2]) hE vY Da (yG x k) ?_
 rewrite [HG x k]
 have f2:=uT k x.J
 refine λ a0=>⟨?_,λ a1=>⟨λ a2=>?_,λ a2=>rfl⟩⟩
 all_goals try and_intros
 all_goals first|rfl|trivial|omega|(simp only[a1F,a1L,aZ,ah,a2k,a2Q] at *;first|omega|grind)
theorem Dm:bu.Good lf:=Hh ⟨sV,trivial⟩
end
end Go.Proofs.YtaaamahdcpcofaaDoor

set_option maxRecDepth 4000
set_option maxHeartbeats 4000000
namespace Go.Proofs.YtaaamahdcpcofaaDoor
noncomputable section
theorem Oc{α:Type}(dO:α->Nat)(mk:Int->α->α)(z:α):∀ (k:Int) (xs:List α) (i:Nat),i<xs.length->gM dO mk k (xs.take (i+1))=gM dO mk k (xs.take i)++[mk (k+(aw dO (xs.take i):Int)) (xs.getD i z)]
 | k,[],i,h=>by simp at h
 | k,x::xs,0,h=>by simp[gM,aw]
 | k,x::xs,i+1,h=>by
  have:=Oc dO mk z (k+(dO x:Int)) xs i (by simpa using h)
  simp only[a3t,gM,this,a3S,aw,a2I]
  congr 4
  omega
theorem H0(k:Int)(xs:List M):aw aK (aY k xs)=aw aK xs:=by
 have:=HZ k xs
 rw[yd,yd] at this
 exact this
mutual
theorem Xx:∀ (k:Int) (x:ai),bA k (bA k x)=bA k x/\aj (bA k x)=aj x
 | k,⟨a,b,c,ks⟩=>by
  have:=G5 (k+1+1+1+1+(aw aK c.J:Int)) ks
  simp only[bA,aj,H0,G6,this.1,this.2,and_self]
theorem G5:∀ (k:Int) (xs:List ai),oz k (oz k xs)=oz k xs/\kj (oz k xs)=kj xs
 | _,[]=>⟨rfl,rfl⟩
 | k,x::xs=>by
  have h1:=Xx k x
  have h2:=G5 (k+(aj x:Int)) xs
  simp only[oz,kj,h1.1,h1.2,h2.1,h2.2,and_self]
end
def nO(k:Int)(xs:List ai):Bool:=gA (gM aj bA k xs) xs
def SB(k:Int)(x:ai):Bool:=gA (bA k x) x
def gp(k:Int)(xs:List ai):Int:=bif nO k xs then k+(aw aj xs:Int) else -1
theorem EY(k:Int)(xs:List ai):(nO k xs=true/\gp k xs=k+(aw aj xs:Int))\/(nO k xs=false/\gp k xs = -1):=by
 unfold gp
 cases nO k xs<;>simp
theorem SC(k:Int)(x:ai):SB k x=(decide (x.af=k)&&decide (x.al=k+1)&&decide (x.cond.af=k+1+1)&&decide (x.cond.al=k+1+1+1)&&lL (k+1+1+1+1) x.cond.J &&
  nO (k+1+1+1+1+(aw aK x.cond.J:Int)) x.J):=by
 obtain⟨a,b,⟨c,d,l⟩,ks⟩:=x
 rw[a4r]
 simp only[SB,nO,lL,sU,bA,rn,a1z,a1F,ai.mk.injEq,M.mk.injEq]
 constructor
 .rintro⟨h1,h2,⟨h3,h4,h5⟩,h6⟩
  exact⟨⟨⟨⟨⟨h1.symm,h2.symm⟩,h3.symm⟩,h4.symm⟩,h5⟩,h6⟩
 .rintro⟨⟨⟨⟨⟨h1,h2⟩,h3⟩,h4⟩,h5⟩,h6⟩
  exact⟨h1.symm,h2.symm,⟨h3.symm,h4.symm,h5⟩,h6⟩
theorem SE(z:ai)(k:Int)(xs:List ai)(i:Nat)(h:i<xs.length):nO k (xs.take (i+1))=(nO k (xs.take i)&&SB (k+(aw aj (xs.take i):Int)) (xs.getD i z)):=by
 rw[a4r,a1z]
 simp only[nO,SB,sU]
 rw[Oc aj bA z k xs i h,nW z xs i h]
 constructor
 .intro e
  have:=List.append_inj e (by rw[qC])
  exact⟨this.1,by simpa using this.2⟩
 .rintro⟨e1,e2⟩;rw[e1,e2]
theorem Um(z:ai)(k:Int)(xs:List ai)(i:Nat)(h:i<xs.length)(e:SB (k+(aw aj (xs.take i):Int)) (xs.getD i z)=false):nO k xs=false:=by
 cases hb:nO k xs with
 | false=>rfl
 | true =>
  have h1:=Iu aj bA z k xs i h
  simp only[nO,sU] at hb
  rw[hb] at h1
  have:SB (k+(aw aj (xs.take i):Int)) (xs.getD i z)=true:=by unfold SB;rw[sU];exact h1.symm
  rw[e] at this;cases this
theorem SD(k:Int)(xs:List ai)(i:Nat)(h:xs.length<=i):nO k (xs.take i)=nO k xs:=by rw[a2F h]
def ny(k:Int)(x:ai):Int:=bif lL k x.cond.J&&nO (k+(aw aK x.cond.J:Int)) x.J then k+(aw aK x.cond.J:Int)+(aw aj x.J:Int) else -1
theorem TY(k:Int)(x:ai):ny k (ai.mk x.af x.al (M.mk x.cond.af x.cond.al (aY k x.cond.J)) (gM aj bA (k+(aw aK x.cond.J:Int)) x.J))=k+(aw aK x.cond.J:Int)+(aw aj x.J:Int):=by
 obtain⟨h1,h2⟩:=G5 (k+(aw aK x.cond.J:Int)) x.J
 simp only[rn,mF] at h1 h2
 have h3:nO (k+(aw aK x.cond.J:Int)) (gM aj bA (k+(aw aK x.cond.J:Int)) x.J)=true:=by
  unfold nO;rw[sU];exact h1
 have h4:lL k (aY k x.cond.J)=true:=by
  unfold lL;rw[sU];exact G6 k _
 unfold ny
 simp only[H0,h2,h3,h4];rfl
def jg(n:Nat):bu:=⟨nf,[.v (.slice (.st .prog)), .v (.int .i64)],λ (xs:List ai) (k:Int)=>⟨(some (cd xs<n/\0<=k/\k+(aw aj xs:Int)<=4611686018427387904),[⟨(.int .i64),gp k xs⟩])⟩⟩
def na:bu:=⟨nf,[.v (.slice (.st .prog)), .v (.int .i64)],λ (xs:List ai) (k:Int)=>⟨(some (0<=k/\k+(aw aj xs:Int)<=4611686018427387904),[⟨(.int .i64),gp k xs⟩])⟩⟩
def wE(xs:List ai)(k:Int):Nat->aW:=(λ zb=>if Nat.beq zb 0 then .mk (Nat) (λ i=>i<=xs.length/\nO k (xs.take i)=true) (λ i=>xs.length - i) [] [2,3] (λ i=>[(5, .az ⟨(.int .i64),((i:Int):Int)⟩),(1, .az ⟨(.int .i64),((k+(aw aj (xs.take i):Int)):Int)⟩)]) [0,1,4,5,6,7,8,9,10,11,12,13,14,15,16,17,18,19,20,21,22,23,24,25,26,27,28,29,30,31,32,33,34,35,36,37,38,39,40,41,42,43,44,45,46,47,48,49,50,51,52,53,54,55,56,57,58,59,60,61,62,63,64,65,66,67,68,69] (λ i=>[]) [] [] (λ i=>λ _ => .none) else .none)
theorem Fw(n:Nat)(xs:List ai)(k:Int):dd (bz [fR,jg n]) (aD gY) (wE xs k) 0 (bO (bz [fR,jg n]) gY λ r=>bR r [⟨(.int .i64),gp k xs⟩]) (aU gY [.val ⟨(.slice (.st .prog)),xs⟩, .val ⟨(.int .i64),k⟩]) =
 (((∃ i1:Nat,((i1<=xs.length/\nO k (xs.take i1)=true)/\((xs=xs/\(k=(k+(aw aj (xs.take i1):Int))/\((0:Int)=(i1:Int)/\True)))/\True)))/\(∀ i1:Nat,((i1<=xs.length/\nO k (xs.take i1)=true) ->
 (ah ((xs.length:Int)) ->
 (((decide ((i1:Int)<((xs.length:Int))))=true ->
 (aZ (i1:Int) xs.length/\(ah (xs.getD i1 zP).af ->
 (((!(decide ((xs.getD i1 zP).af=(k+(aw aj (xs.take i1):Int)))))=true ->
 (-1:Int)=(gp k xs))/\((!(decide ((xs.getD i1 zP).af=(k+(aw aj (xs.take i1):Int)))))=false ->
 (ah ((k+(aw aj (xs.take i1):Int))+(1:Int))/\(aZ (i1:Int) xs.length/\(ah (xs.getD i1 zP).al ->
 (((!(decide ((xs.getD i1 zP).al=((k+(aw aj (xs.take i1):Int))+(1:Int)))))=true ->
 (-1:Int)=(gp k xs))/\((!(decide ((xs.getD i1 zP).al=((k+(aw aj (xs.take i1):Int))+(1:Int)))))=false ->
 (ah (((k+(aw aj (xs.take i1):Int))+(1:Int))+(1:Int))/\(aZ (i1:Int) xs.length/\(ah (xs.getD i1 zP).cond.af ->
 (((!(decide ((xs.getD i1 zP).cond.af=(((k+(aw aj (xs.take i1):Int))+(1:Int))+(1:Int)))))=true ->
 (-1:Int)=(gp k xs))/\((!(decide ((xs.getD i1 zP).cond.af=(((k+(aw aj (xs.take i1):Int))+(1:Int))+(1:Int)))))=false ->
 (ah ((((k+(aw aj (xs.take i1):Int))+(1:Int))+(1:Int))+(1:Int))/\(aZ (i1:Int) xs.length/\(ah (xs.getD i1 zP).cond.al ->
 (((!(decide ((xs.getD i1 zP).cond.al=((((k+(aw aj (xs.take i1):Int))+(1:Int))+(1:Int))+(1:Int)))))=true ->
 (-1:Int)=(gp k xs))/\((!(decide ((xs.getD i1 zP).cond.al=((((k+(aw aj (xs.take i1):Int))+(1:Int))+(1:Int))+(1:Int)))))=false ->
 (ah (((((k+(aw aj (xs.take i1):Int))+(1:Int))+(1:Int))+(1:Int))+(1:Int))/\(aZ (i1:Int) xs.length/\((xs.getD i1 zP).cond.J.length<=140737488355328 ->
 ((0<=(((((k+(aw aj (xs.take i1):Int))+(1:Int))+(1:Int))+(1:Int))+(1:Int))/\(((((k+(aw aj (xs.take i1):Int))+(1:Int))+(1:Int))+(1:Int))+(1:Int))+(aw aK (xs.getD i1 zP).cond.J:Int)<=4611686018427387904)/\(ah (cC (((((k+(aw aj (xs.take i1):Int))+(1:Int))+(1:Int))+(1:Int))+(1:Int)) (xs.getD i1 zP).cond.J) ->
 (((decide ((cC (((((k+(aw aj (xs.take i1):Int))+(1:Int))+(1:Int))+(1:Int))+(1:Int)) (xs.getD i1 zP).cond.J)<(0:Int)))=true ->
 (-1:Int)=(gp k xs))/\((decide ((cC (((((k+(aw aj (xs.take i1):Int))+(1:Int))+(1:Int))+(1:Int))+(1:Int)) (xs.getD i1 zP).cond.J)<(0:Int)))=false ->
 (aZ (i1:Int) xs.length/\((xs.getD i1 zP).J.length<=140737488355328 ->
 ((cd (xs.getD i1 zP).J<n/\0<=(cC (((((k+(aw aj (xs.take i1):Int))+(1:Int))+(1:Int))+(1:Int))+(1:Int)) (xs.getD i1 zP).cond.J)/\(cC (((((k+(aw aj (xs.take i1):Int))+(1:Int))+(1:Int))+(1:Int))+(1:Int)) (xs.getD i1 zP).cond.J)+(aw aj (xs.getD i1 zP).J:Int)<=4611686018427387904)/\(ah (gp (cC (((((k+(aw aj (xs.take i1):Int))+(1:Int))+(1:Int))+(1:Int))+(1:Int)) (xs.getD i1 zP).cond.J) (xs.getD i1 zP).J) ->
 (((decide ((gp (cC (((((k+(aw aj (xs.take i1):Int))+(1:Int))+(1:Int))+(1:Int))+(1:Int)) (xs.getD i1 zP).cond.J) (xs.getD i1 zP).J)<(0:Int)))=true ->
 (-1:Int)=(gp k xs))/\((decide ((gp (cC (((((k+(aw aj (xs.take i1):Int))+(1:Int))+(1:Int))+(1:Int))+(1:Int)) (xs.getD i1 zP).cond.J) (xs.getD i1 zP).J)<(0:Int)))=false ->
 (ah ((i1:Int)+(1:Int))/\(∃ i2:Nat,((i2<=xs.length/\nO k (xs.take i2)=true)/\(xs.length - i2<xs.length - i1/\((xs=xs/\((gp (cC (((((k+(aw aj (xs.take i1):Int))+(1:Int))+(1:Int))+(1:Int))+(1:Int)) (xs.getD i1 zP).cond.J) (xs.getD i1 zP).J)=(k+(aw aj (xs.take i2):Int))/\(((i1:Int)+(1:Int))=(i2:Int)/\True)))/\True))))))))))))))))))))))))))))))))))))))/\((decide ((i1:Int)<((xs.length:Int))))=false ->
 (k+(aw aj (xs.take i1):Int))=(gp k xs)))))))):=by kernel_rfl
theorem Ff(n:Nat)(hE:aR [fR,jg n]):bu.Good (jg (n+1)):=by
 refine⟨aB lQ rfl (by decide),?_⟩
 show ∀ (xs:List ai) (k:Int),(cd xs<n+1/\0<=k/\k+(aw aj xs:Int)<=4611686018427387904)->bL prog nf [.val ⟨(.slice (.st .prog)),xs⟩, .val ⟨(.int .i64),k⟩] (·=[⟨(.int .i64),gp k xs⟩])
 intro xs k hp
 refine bB (wr:=[]) (cl:=[]) (ro:=[]) hE lQ Bp (wE xs k) ?_
 rewrite [Fw n xs k]
 have f0:nO k (xs.take 0)=true:=by simp[nO,gM]
 have f1:=qK aj xs
 have f2:=EY k xs
 refine⟨⟨0,⟨?_,⟨⟨rfl,⟨?_,⟨?_,trivial⟩⟩⟩,trivial⟩⟩⟩,λ i1 a0=>have Jg:=SE zP k xs i1;have Bm:=Um zP k xs i1;have DM:=SD k xs i1;have Jh:=SC (k+(aw aj (xs.take i1):Int)) (xs.getD i1 zP);have K5:=uT ((k+(aw aj (xs.take i1):Int))+1+1+1+1) (xs.getD i1 zP).cond.J;have K6:=EY ((k+(aw aj (xs.take i1):Int))+1+1+1+1+(aw aK (xs.getD i1 zP).cond.J:Int)) (xs.getD i1 zP).J;have Qc:=jG aj zP xs i1;have Qd:=cS aj xs i1;have Qe:=cS aj xs (i1+1);have U1:=nU aj xs i1;have OP:=zn (xs.getD i1 zP);have OQ:=ct zP xs i1;have U0:=nL (xs.getD i1 zP);λ a1=>⟨λ a2=>⟨?_,λ a3=>⟨λ a4=>?_,λ a4=>⟨?_,⟨?_,λ a5=>⟨λ a6=>?_,λ a6=>⟨?_,⟨?_,λ a7=>⟨λ a8=>?_,λ a8=>⟨?_,⟨?_,λ a9=>⟨λ gl=>?_,λ gl=>⟨?_,⟨?_,λ jn=>⟨?_,λ a12=>⟨λ vB=>?_,λ vB=>⟨?_,λ sN=>⟨?_,λ KR=>⟨λ FI=>?_,λ FI=>⟨?_,⟨i1+1,⟨?_,⟨?_,⟨⟨rfl,⟨?_,⟨?_,trivial⟩⟩⟩,trivial⟩⟩⟩⟩⟩⟩⟩⟩⟩⟩⟩⟩⟩⟩⟩⟩⟩⟩⟩⟩⟩⟩⟩,λ a2=>?_⟩⟩
 all_goals try and_intros
 all_goals first|rfl|trivial|omega|(simp only[a1F,a1L,aZ,ah,a2k,a2Q] at *;first|omega|grind)
theorem Bg :∀ n,aR [jg n]
 | 0=>⟨⟨aB lQ rfl (by decide),λ _ _ h=>absurd h.1 (a2s _)⟩,trivial⟩
 | n+1=>by
  have ih:=Bg  n
  exact⟨Ff n ⟨sV,ih.1,trivial⟩,trivial⟩
theorem BI :bu.Good na :=
 ⟨aB lQ rfl (by decide),λ xs k hp=>(Bg  (cd xs+1)).1.2 xs k (⟨a2l _,hp⟩)⟩
def lg:bu:=⟨si,[.v (.st .prog), .v (.int .i64)],λ (x:ai) (k:Int)=>⟨(some (0<=k/\k+(aw aK x.cond.J:Int)+(aw aj x.J:Int)<=4611686018427387904),[⟨(.int .i64),ny k x⟩])⟩⟩
def yH(x:ai)(k:Int):Nat->aW:=λ _ => .none
theorem HH(x:ai)(k:Int):dd (bz [lf,na] [] [] [2]) (aD iT) (yH x k) 0 (bO (bz [lf,na] [] [] [2]) iT λ r=>bR r [⟨(.int .i64),ny k x⟩]) (aU iT [.val ⟨(.st .prog),x⟩, .val ⟨(.int .i64),k⟩]) =
 (((0<=k/\k+(aw aK x.cond.J:Int)<=4611686018427387904)/\(ah (cC k x.cond.J) ->
 (((decide ((cC k x.cond.J)<(0:Int)))=true ->
 (-1:Int)=(ny k x))/\((decide ((cC k x.cond.J)<(0:Int)))=false ->
 (x.J.length<=140737488355328 ->
 ((0<=(cC k x.cond.J)/\(cC k x.cond.J)+(aw aj x.J:Int)<=4611686018427387904)/\(ah (gp (cC k x.cond.J) x.J) ->
 (((decide ((gp (cC k x.cond.J) x.J)<(0:Int)))=true ->
 (-1:Int)=(ny k x))/\((decide ((gp (cC k x.cond.J) x.J)<(0:Int)))=false ->
 (gp (cC k x.cond.J) x.J)=(ny k x))))))))))):=by kernel_rfl
theorem Hi(hE:aR [lf,na]):bu.Good lg:=by
 refine⟨aB vZ rfl (by decide),?_⟩
 show ∀ (x:ai) (k:Int),(0<=k/\k+(aw aK x.cond.J:Int)+(aw aj x.J:Int)<=4611686018427387904)->bL prog si [.val ⟨(.st .prog),x⟩, .val ⟨(.int .i64),k⟩] (·=[⟨(.int .i64),ny k x⟩])
 intro x k hp
 refine bB (wr:=[]) (cl:=[]) (ro:=[2]) hE vZ Db (yH x k) ?_
 rewrite [HH x k]
 have f2:=uT k x.cond.J
 have f3:=EY (k+(aw aK x.cond.J:Int)) x.J
 refine⟨?_,λ a0=>⟨λ a1=>?_,λ a1=>λ a2=>⟨?_,λ a3=>⟨λ a4=>?_,λ a4=>?_⟩⟩⟩⟩
 all_goals try and_intros
 all_goals try unfold ny
 all_goals first|rfl|trivial|omega|(simp only[a1F,a1L,aZ,ah,a2k,a2Q] at *;first|omega|grind)|(simp_all;done)
theorem Dn:bu.Good lg:=Hi ⟨Dm,BI,trivial⟩
end
end Go.Proofs.YtaaamahdcpcofaaDoor

set_option maxRecDepth 4000
set_option maxHeartbeats 4000000
namespace Go.Proofs.YtaaamahdcpcofaaDoor
noncomputable section
mutual
def bd:M->Nat
 | ⟨_,_,ks⟩=>1+tg ks
def tg:List M->Nat
 | []=>0
 | k::ks=>bd k+tg ks
end
theorem JD:∀ xs,tg xs=aw bd xs
 | []=>rfl
 | x::xs=>by rw[tg,aw,JD xs]
theorem Fb(x:M):bd x=1+aw bd x.J:=by
 cases x;simp[bd,JD]
mutual
def bp:M->Nat
 | ⟨_,_,ks⟩=>1+uH ks
def uH:List M->Nat
 | []=>0
 | k::ks=>max (bp k) (uH ks)
end
theorem Jm:∀ xs,uH xs=dI bp xs
 | []=>rfl
 | x::xs=>by rw[uH,dI,Jm xs]
theorem jc(x:M):bp x=1+dI bp x.J:=by
 cases x;simp[bp,Jm]
mutual
theorem Gd:∀ x:M,bp x<=bd x
 | ⟨k,n,ks⟩=>by
  have:=DR ks
  simp only[bp,bd];omega
theorem DR:∀ xs:List M,uH xs<=tg xs
 | []=>by simp[uH]
 | x::xs=>by
  have h1:=Gd x
  have h2:=DR xs
  simp only[uH,tg];omega
end
def EF(k:Int):Bool:=decide (k=1)||decide (k=2)||decide (k=3)||decide (k=5)||decide (k=6)||decide (k=7)
mutual
def bJ:M->Bool
 | ⟨k,_,ks⟩=>EF k&&Kz ks
def Kz:List M->Bool
 | []=>true
 | k::ks=>bJ k&&Kz ks
end
theorem Lh:∀ xs,Kz xs=cG bJ xs
 | []=>rfl
 | x::xs=>by rw[Kz,cG,Lh xs]
theorem H2(x:M):bJ x=(EF x.af&&cG bJ x.J):=by
 cases x;simp[bJ,Lh]
def cQ(k:Int):Int:=if k=1\/k=2\/k=3\/k=4 then 0 else if k=5\/k=8 then 1 else if k=6\/k=7 then 2 else -1
def ef:bu:=⟨vn,[.v (.int .i64), .v (.int .i64), .v (.int .i64)],λ (n:Int) (least:Int) (most:Int)=>⟨(none,[⟨.bool,decide (least<=n/\n<=most)⟩])⟩⟩
def B0(n:Int)(least:Int)(most:Int):Nat->aW:=λ _ => .none
theorem Kp(n:Int)(least:Int)(most:Int):dd (bz []) (aD kQ) (B0 n least most) 0 (bO (bz []) kQ λ r=>bR r [⟨.bool,decide (least<=n/\n<=most)⟩]) (aU kQ [.val ⟨(.int .i64),n⟩, .val ⟨(.int .i64),least⟩, .val ⟨(.int .i64),most⟩]) =
 ((((decide (least<=n))=true ->
 ((decide (n<=most))=(decide (least<=n/\n<=most))))/\((decide (least<=n))=(!true) ->
 (false=(decide (least<=n/\n<=most)))))):=by kernel_rfl
theorem Ke(hE:aR []):bu.Good ef:=by
 refine⟨aB Aq rfl (by decide),?_⟩
 show ∀ (n:Int) (least:Int) (most:Int),True->bL prog vn [.val ⟨(.int .i64),n⟩, .val ⟨(.int .i64),least⟩, .val ⟨(.int .i64),most⟩] (·=[⟨.bool,decide (least<=n/\n<=most)⟩])
 intro n least most _
 refine bB (wr:=[]) (cl:=[]) (ro:=[]) hE Aq F2 (B0 n least most) ?_
 rewrite [Kp n least most]
 refine⟨λ a0=>?_,λ a0=>?_⟩
 all_goals try and_intros
 all_goals first|rfl|trivial|(simp_all;done)|(simp_all;omega)
theorem qR:bu.Good ef:=Ke trivial
def dz:bu:=⟨xi,[.v (.int .i64), .v (.int .i64), .v (.int .i64)],λ (n:Int) (low:Int) (high:Int)=>⟨(none,[⟨.bool,decide (low<=n/\n<=high)⟩])⟩⟩
def D2(n:Int)(low:Int)(high:Int):Nat->aW:=λ _ => .none
theorem M1(n:Int)(low:Int)(high:Int):dd (bz []) (aD mH) (D2 n low high) 0 (bO (bz []) mH λ r=>bR r [⟨.bool,decide (low<=n/\n<=high)⟩]) (aU mH [.val ⟨(.int .i64),n⟩, .val ⟨(.int .i64),low⟩, .val ⟨(.int .i64),high⟩]) =
 ((((decide (low<=n))=true ->
 ((decide (n<=high))=(decide (low<=n/\n<=high))))/\((decide (low<=n))=(!true) ->
 (false=(decide (low<=n/\n<=high)))))):=by kernel_rfl
theorem Mv(hE:aR []):bu.Good dz:=by
 refine⟨aB Bj rfl (by decide),?_⟩
 show ∀ (n:Int) (low:Int) (high:Int),True->bL prog xi [.val ⟨(.int .i64),n⟩, .val ⟨(.int .i64),low⟩, .val ⟨(.int .i64),high⟩] (·=[⟨.bool,decide (low<=n/\n<=high)⟩])
 intro n low high _
 refine bB (wr:=[]) (cl:=[]) (ro:=[]) hE Bj HV (D2 n low high) ?_
 rewrite [M1 n low high]
 refine⟨λ a0=>?_,λ a0=>?_⟩
 all_goals try and_intros
 all_goals first|rfl|trivial|(simp_all;done)|(simp_all;omega)
theorem oh:bu.Good dz:=Mv trivial
def gR:bu:=⟨vo,[.v (.int .i64), .v (.int .i64)],λ (a:Int) (b:Int)=>⟨(none,[⟨(.int .i64),max a b⟩])⟩⟩
def B3(a:Int)(b:Int):Nat->aW:=λ _ => .none
theorem Ks(a:Int)(b:Int):dd (bz []) (aD kV) (B3 a b) 0 (bO (bz []) kV λ r=>bR r [⟨(.int .i64),max a b⟩]) (aU kV [.val ⟨(.int .i64),a⟩, .val ⟨(.int .i64),b⟩]) =
 ((((decide (b<a))=true ->
 a=(max a b))/\((decide (b<a))=false ->
 b=(max a b)))):=by kernel_rfl
theorem Kh(hE:aR []):bu.Good gR:=by
 refine⟨aB Ar rfl (by decide),?_⟩
 show ∀ (a:Int) (b:Int),True->bL prog vo [.val ⟨(.int .i64),a⟩, .val ⟨(.int .i64),b⟩] (·=[⟨(.int .i64),max a b⟩])
 intro a b _
 refine bB (wr:=[]) (cl:=[]) (ro:=[]) hE Ar F5 (B3 a b) ?_
 rewrite [Ks a b]
 refine⟨λ a0=>?_,λ a0=>?_⟩
 all_goals try and_intros
 all_goals first|rfl|trivial|(simp_all;omega)
theorem wj:bu.Good gR:=Kh trivial
def nH:bu:=⟨vm,[.v (.int .i64)],λ (k:Int)=>⟨(none,[⟨(.int .i64),cQ k⟩])⟩⟩
def BY(k:Int):Nat->aW:=λ _ => .none
abbrev yv(k:Int):Prop:=(((decide (k=(6:Int)))=true ->
 (((decide (k=(6:Int)))=true ->
 (2:Int)=(cQ k))/\((decide (k=(6:Int)))=false ->
 (-1:Int)=(cQ k))))/\((decide (k=(6:Int)))=false ->
 (((decide (k=(7:Int)))=true ->
 (2:Int)=(cQ k))/\((decide (k=(7:Int)))=false ->
 (-1:Int)=(cQ k)))))
abbrev oq(k:Int):Prop:=(((decide (k=(5:Int)))=true ->
 (((decide (k=(5:Int)))=true ->
 (1:Int)=(cQ k))/\((decide (k=(5:Int)))=false ->
 (yv k))))/\((decide (k=(5:Int)))=false ->
 (((decide (k=(8:Int)))=true ->
 (1:Int)=(cQ k))/\((decide (k=(8:Int)))=false ->
 (yv k)))))
theorem Kn(k:Int):dd (bz []) (aD kO) (BY k) 0 (bO (bz []) kO λ r=>bR r [⟨(.int .i64),cQ k⟩]) (aU kO [.val ⟨(.int .i64),k⟩]) =
 ((((decide (k=(1:Int)))=true ->
 (((decide (k=(1:Int)))=true ->
 (0:Int)=(cQ k))/\((decide (k=(1:Int)))=false ->
 (oq k))))/\((decide (k=(1:Int)))=false ->
 (((decide (k=(2:Int)))=true ->
 (((decide (k=(2:Int)))=true ->
 (0:Int)=(cQ k))/\((decide (k=(2:Int)))=false ->
 (oq k))))/\((decide (k=(2:Int)))=false ->
 (((decide (k=(3:Int)))=true ->
 (((decide (k=(3:Int)))=true ->
 (0:Int)=(cQ k))/\((decide (k=(3:Int)))=false ->
 (oq k))))/\((decide (k=(3:Int)))=false ->
 (((decide (k=(4:Int)))=true ->
 (0:Int)=(cQ k))/\((decide (k=(4:Int)))=false ->
 (oq k)))))))))):=by kernel_rfl
theorem Kc(hE:aR []):bu.Good nH:=by
 refine⟨aB Ap rfl (by decide),?_⟩
 show ∀ (k:Int),True->bL prog vm [.val ⟨(.int .i64),k⟩] (·=[⟨(.int .i64),cQ k⟩])
 intro k _
 refine bB (wr:=[]) (cl:=[]) (ro:=[]) hE Ap F0 (BY k) ?_
 rewrite [Kn k]
 refine⟨λ a0=>⟨λ a1=>?_,λ a1=>⟨λ a2=>⟨λ a3=>?_,λ a3=>⟨λ a4=>⟨λ a5=>?_,λ a5=>?_⟩,λ a4=>⟨λ a5=>?_,λ a5=>?_⟩⟩⟩,λ a2=>⟨λ a3=>?_,λ a3=>⟨λ a4=>⟨λ a5=>?_,λ a5=>?_⟩,λ a4=>⟨λ a5=>?_,λ a5=>?_⟩⟩⟩⟩⟩,λ a0=>⟨λ a1=>⟨λ a2=>?_,λ a2=>⟨λ a3=>⟨λ a4=>?_,λ a4=>⟨λ a5=>⟨λ a6=>?_,λ a6=>?_⟩,λ a5=>⟨λ a6=>?_,λ a6=>?_⟩⟩⟩,λ a3=>⟨λ a4=>?_,λ a4=>⟨λ a5=>⟨λ a6=>?_,λ a6=>?_⟩,λ a5=>⟨λ a6=>?_,λ a6=>?_⟩⟩⟩⟩⟩,λ a1=>⟨λ a2=>⟨λ a3=>?_,λ a3=>⟨λ a4=>⟨λ a5=>?_,λ a5=>⟨λ a6=>⟨λ a7=>?_,λ a7=>?_⟩,λ a6=>⟨λ a7=>?_,λ a7=>?_⟩⟩⟩,λ a4=>⟨λ a5=>?_,λ a5=>⟨λ a6=>⟨λ a7=>?_,λ a7=>?_⟩,λ a6=>⟨λ a7=>?_,λ a7=>?_⟩⟩⟩⟩⟩,λ a2=>⟨λ a3=>?_,λ a3=>⟨λ a4=>⟨λ a5=>?_,λ a5=>⟨λ a6=>⟨λ a7=>?_,λ a7=>?_⟩,λ a6=>⟨λ a7=>?_,λ a7=>?_⟩⟩⟩,λ a4=>⟨λ a5=>?_,λ a5=>⟨λ a6=>⟨λ a7=>?_,λ a7=>?_⟩,λ a6=>⟨λ a7=>?_,λ a7=>?_⟩⟩⟩⟩⟩⟩⟩⟩
 all_goals try and_intros
 all_goals first|rfl|trivial|(simp only[decide_eq_true_eq,decide_eq_false_iff_not] at *;simp[cQ, *];done)|(simp only[decide_eq_true_eq,decide_eq_false_iff_not] at *;unfold cQ;repeat (first|omega|split))
theorem Gt:bu.Good nH:=Kc trivial
def mn:bu:=⟨tI,[.v (.int .i64)],λ (k:Int)=>⟨(none,[⟨(.int .i64),cQ k⟩])⟩⟩
def Az(k:Int):Nat->aW:=λ _ => .none
abbrev wx(k:Int):Prop:=(((decide (k=(6:Int)))=true ->
 (((decide (k=(6:Int)))=true ->
 (2:Int)=(cQ k))/\((decide (k=(6:Int)))=false ->
 (-1:Int)=(cQ k))))/\((decide (k=(6:Int)))=false ->
 (((decide (k=(7:Int)))=true ->
 (2:Int)=(cQ k))/\((decide (k=(7:Int)))=false ->
 (-1:Int)=(cQ k)))))
abbrev mY(k:Int):Prop:=(((decide (k=(5:Int)))=true ->
 (((decide (k=(5:Int)))=true ->
 (1:Int)=(cQ k))/\((decide (k=(5:Int)))=false ->
 (wx k))))/\((decide (k=(5:Int)))=false ->
 (((decide (k=(8:Int)))=true ->
 (1:Int)=(cQ k))/\((decide (k=(8:Int)))=false ->
 (wx k)))))
theorem IQ(k:Int):dd (bz []) (aD jv) (Az k) 0 (bO (bz []) jv λ r=>bR r [⟨(.int .i64),cQ k⟩]) (aU jv [.val ⟨(.int .i64),k⟩]) =
 ((((decide (k=(1:Int)))=true ->
 (((decide (k=(1:Int)))=true ->
 (0:Int)=(cQ k))/\((decide (k=(1:Int)))=false ->
 (mY k))))/\((decide (k=(1:Int)))=false ->
 (((decide (k=(2:Int)))=true ->
 (((decide (k=(2:Int)))=true ->
 (0:Int)=(cQ k))/\((decide (k=(2:Int)))=false ->
 (mY k))))/\((decide (k=(2:Int)))=false ->
 (((decide (k=(3:Int)))=true ->
 (((decide (k=(3:Int)))=true ->
 (0:Int)=(cQ k))/\((decide (k=(3:Int)))=false ->
 (mY k))))/\((decide (k=(3:Int)))=false ->
 (((decide (k=(4:Int)))=true ->
 (0:Int)=(cQ k))/\((decide (k=(4:Int)))=false ->
 (mY k)))))))))):=by kernel_rfl
theorem IB(hE:aR []):bu.Good mn:=by
 refine⟨aB xU rfl (by decide),?_⟩
 show ∀ (k:Int),True->bL prog tI [.val ⟨(.int .i64),k⟩] (·=[⟨(.int .i64),cQ k⟩])
 intro k _
 refine bB (wr:=[]) (cl:=[]) (ro:=[]) hE xU Eu (Az k) ?_
 rewrite [IQ k]
 refine⟨λ a0=>⟨λ a1=>?_,λ a1=>⟨λ a2=>⟨λ a3=>?_,λ a3=>⟨λ a4=>⟨λ a5=>?_,λ a5=>?_⟩,λ a4=>⟨λ a5=>?_,λ a5=>?_⟩⟩⟩,λ a2=>⟨λ a3=>?_,λ a3=>⟨λ a4=>⟨λ a5=>?_,λ a5=>?_⟩,λ a4=>⟨λ a5=>?_,λ a5=>?_⟩⟩⟩⟩⟩,λ a0=>⟨λ a1=>⟨λ a2=>?_,λ a2=>⟨λ a3=>⟨λ a4=>?_,λ a4=>⟨λ a5=>⟨λ a6=>?_,λ a6=>?_⟩,λ a5=>⟨λ a6=>?_,λ a6=>?_⟩⟩⟩,λ a3=>⟨λ a4=>?_,λ a4=>⟨λ a5=>⟨λ a6=>?_,λ a6=>?_⟩,λ a5=>⟨λ a6=>?_,λ a6=>?_⟩⟩⟩⟩⟩,λ a1=>⟨λ a2=>⟨λ a3=>?_,λ a3=>⟨λ a4=>⟨λ a5=>?_,λ a5=>⟨λ a6=>⟨λ a7=>?_,λ a7=>?_⟩,λ a6=>⟨λ a7=>?_,λ a7=>?_⟩⟩⟩,λ a4=>⟨λ a5=>?_,λ a5=>⟨λ a6=>⟨λ a7=>?_,λ a7=>?_⟩,λ a6=>⟨λ a7=>?_,λ a7=>?_⟩⟩⟩⟩⟩,λ a2=>⟨λ a3=>?_,λ a3=>⟨λ a4=>⟨λ a5=>?_,λ a5=>⟨λ a6=>⟨λ a7=>?_,λ a7=>?_⟩,λ a6=>⟨λ a7=>?_,λ a7=>?_⟩⟩⟩,λ a4=>⟨λ a5=>?_,λ a5=>⟨λ a6=>⟨λ a7=>?_,λ a7=>?_⟩,λ a6=>⟨λ a7=>?_,λ a7=>?_⟩⟩⟩⟩⟩⟩⟩⟩
 all_goals try and_intros
 all_goals first|rfl|trivial|(simp only[decide_eq_true_eq,decide_eq_false_iff_not] at *;simp[cQ, *];done)|(simp only[decide_eq_true_eq,decide_eq_false_iff_not] at *;unfold cQ;repeat (first|omega|split))
theorem EI:bu.Good mn:=IB trivial
def gT(n:Nat):bu:=⟨kB,[.v (.st .expr)],λ (x:M)=>⟨(some (cd x<n),[⟨.bool,bJ x⟩])⟩⟩
def eN:bu:=⟨kB,[.v (.st .expr)],λ (x:M)=>⟨(none,[⟨.bool,bJ x⟩])⟩⟩
def tU(x:M):Nat->aW:=(λ zb=>if Nat.beq zb 1 then .mk (Nat) (λ k=>k<=x.J.length/\cG bJ (x.J.take k)=true) (λ k=>x.J.length - k) [] [0,1,3,5,6,7,8,9,10,11,12,13,14] (λ k=>[(17, .az ⟨(.int .i64),((k:Int):Int)⟩)]) [2,4,15,16,17,18,19,20,21,22,23,24] (λ k=>[]) [] [] (λ k=>λ _ => .none) else .none)
abbrev eW(n:Nat)(x:M):Prop:=(x.J.length<=140737488355328 ->
 (ah ((x.J.length:Int)) ->
 ((∃ k1:Nat,((k1<=x.J.length/\cG bJ (x.J.take k1)=true)/\((x.J=x.J/\(((x.J.length:Int))=((x.J.length:Int))/\((0:Int)=(k1:Int)/\True)))/\True)))/\(∀ k1:Nat,((k1<=x.J.length/\cG bJ (x.J.take k1)=true) ->
 (((decide ((k1:Int)<((x.J.length:Int))))=true ->
 (aZ (k1:Int) x.J.length/\(cd (bH (x.J.getD k1 zE))<n/\(((!(bJ (bH (x.J.getD k1 zE))))=true ->
 false=(bJ x))/\((!(bJ (bH (x.J.getD k1 zE))))=false ->
 (ah ((k1:Int)+(1:Int))/\(∃ k2:Nat,((k2<=x.J.length/\cG bJ (x.J.take k2)=true)/\(x.J.length - k2<x.J.length - k1/\((x.J=x.J/\(((x.J.length:Int))=((x.J.length:Int))/\(((k1:Int)+(1:Int))=(k2:Int)/\True)))/\True))))))))))/\((decide ((k1:Int)<((x.J.length:Int))))=false ->
 true=(bJ x))))))))
theorem Cy(n:Nat)(x:M):dd (bz [gT n] [] [] [1]) (aD fX) (tU x) 0 (bO (bz [gT n] [] [] [1]) fX λ r=>bR r [⟨.bool,bJ x⟩]) (aU fX [.val ⟨(.st .expr),x⟩]) =
 ((ah x.af ->
 (((decide (x.af=(1:Int)))=true ->
 (((decide (x.af=(1:Int)))=true ->
 (eW n x))/\((decide (x.af=(1:Int)))=false ->
 false=(bJ x))))/\((decide (x.af=(1:Int)))=false ->
 (((decide (x.af=(2:Int)))=true ->
 (((decide (x.af=(2:Int)))=true ->
 (eW n x))/\((decide (x.af=(2:Int)))=false ->
 false=(bJ x))))/\((decide (x.af=(2:Int)))=false ->
 (((decide (x.af=(3:Int)))=true ->
 (((decide (x.af=(3:Int)))=true ->
 (eW n x))/\((decide (x.af=(3:Int)))=false ->
 false=(bJ x))))/\((decide (x.af=(3:Int)))=false ->
 (((decide (x.af=(5:Int)))=true ->
 (((decide (x.af=(5:Int)))=true ->
 (eW n x))/\((decide (x.af=(5:Int)))=false ->
 false=(bJ x))))/\((decide (x.af=(5:Int)))=false ->
 (((decide (x.af=(6:Int)))=true ->
 (((decide (x.af=(6:Int)))=true ->
 (eW n x))/\((decide (x.af=(6:Int)))=false ->
 false=(bJ x))))/\((decide (x.af=(6:Int)))=false ->
 (((decide (x.af=(7:Int)))=true ->
 (eW n x))/\((decide (x.af=(7:Int)))=false ->
 false=(bJ x))))))))))))))):=by kernel_rfl
theorem Ck(n:Nat)(hE:aR [gT n]):bu.Good (gT (n+1)):=by
 refine⟨aB jJ rfl (by decide),?_⟩
 show ∀ (x:M),(cd x<n+1)->bL prog kB [.val ⟨(.st .expr),x⟩] (·=[⟨.bool,bJ x⟩])
 intro x hp
 refine bB (wr:=[]) (cl:=[]) (ro:=[1]) hE jJ y9 (tU x) ?_
 rewrite [Cy n x]
 have f0:=ly x
 have f1:=all_zero bJ x.J
 refine λ a0=>⟨λ a1=>⟨λ a2=>λ a3=>λ a4=>⟨⟨0,⟨?_,⟨⟨rfl,⟨rfl,⟨?_,trivial⟩⟩⟩,trivial⟩⟩⟩,λ k1 a5=>have a1g:=eu bJ zE x.J k1;have a1h:=fO bJ zE x.J k1;have a1i:=fu bJ x.J k1;have a1j:=ct zE x.J k1;⟨λ a6=>⟨?_,⟨?_,⟨λ a7=>?_,λ a7=>⟨?_,⟨k1+1,⟨?_,⟨?_,⟨⟨rfl,⟨rfl,⟨?_,trivial⟩⟩⟩,trivial⟩⟩⟩⟩⟩⟩⟩⟩,λ a6=>?_⟩⟩,λ a2=>?_⟩,λ a1=>⟨λ a2=>⟨λ a3=>λ a4=>λ a5=>⟨⟨0,⟨?_,⟨⟨rfl,⟨rfl,⟨?_,trivial⟩⟩⟩,trivial⟩⟩⟩,λ k1 a6=>have a1k:=eu bJ zE x.J k1;have a1l:=fO bJ zE x.J k1;have a1m:=fu bJ x.J k1;have a1n:=ct zE x.J k1;⟨λ a7=>⟨?_,⟨?_,⟨λ a8=>?_,λ a8=>⟨?_,⟨k1+1,⟨?_,⟨?_,⟨⟨rfl,⟨rfl,⟨?_,trivial⟩⟩⟩,trivial⟩⟩⟩⟩⟩⟩⟩⟩,λ a7=>?_⟩⟩,λ a3=>?_⟩,λ a2=>⟨λ a3=>⟨λ a4=>λ a5=>λ a6=>⟨⟨0,⟨?_,⟨⟨rfl,⟨rfl,⟨?_,trivial⟩⟩⟩,trivial⟩⟩⟩,λ k1 a7=>have U9:=eu bJ zE x.J k1;have Va:=fO bJ zE x.J k1;have Vd:=fu bJ x.J k1;have Ve:=ct zE x.J k1;⟨λ a8=>⟨?_,⟨?_,⟨λ a9=>?_,λ a9=>⟨?_,⟨k1+1,⟨?_,⟨?_,⟨⟨rfl,⟨rfl,⟨?_,trivial⟩⟩⟩,trivial⟩⟩⟩⟩⟩⟩⟩⟩,λ a8=>?_⟩⟩,λ a4=>?_⟩,λ a3=>⟨λ a4=>⟨λ a5=>λ a6=>λ a7=>⟨⟨0,⟨?_,⟨⟨rfl,⟨rfl,⟨?_,trivial⟩⟩⟩,trivial⟩⟩⟩,λ k1 a8=>have a1o:=eu bJ zE x.J k1;have a1p:=fO bJ zE x.J k1;have a1q:=fu bJ x.J k1;have a1r:=ct zE x.J k1;⟨λ a9=>⟨?_,⟨?_,⟨λ gl=>?_,λ gl=>⟨?_,⟨k1+1,⟨?_,⟨?_,⟨⟨rfl,⟨rfl,⟨?_,trivial⟩⟩⟩,trivial⟩⟩⟩⟩⟩⟩⟩⟩,λ a9=>?_⟩⟩,λ a5=>?_⟩,λ a4=>⟨λ a5=>⟨λ a6=>λ a7=>λ a8=>⟨⟨0,⟨?_,⟨⟨rfl,⟨rfl,⟨?_,trivial⟩⟩⟩,trivial⟩⟩⟩,λ k1 a9=>have Z2:=eu bJ zE x.J k1;have Z3:=fO bJ zE x.J k1;have Z4:=fu bJ x.J k1;have Z5:=ct zE x.J k1;⟨λ gl=>⟨?_,⟨?_,⟨λ jn=>?_,λ jn=>⟨?_,⟨k1+1,⟨?_,⟨?_,⟨⟨rfl,⟨rfl,⟨?_,trivial⟩⟩⟩,trivial⟩⟩⟩⟩⟩⟩⟩⟩,λ gl=>?_⟩⟩,λ a6=>?_⟩,λ a5=>⟨λ a6=>λ a7=>λ a8=>⟨⟨0,⟨?_,⟨⟨rfl,⟨rfl,⟨?_,trivial⟩⟩⟩,trivial⟩⟩⟩,λ k1 a9=>have Z2:=eu bJ zE x.J k1;have Z3:=fO bJ zE x.J k1;have Z4:=fu bJ x.J k1;have Z5:=ct zE x.J k1;⟨λ gl=>⟨?_,⟨?_,⟨λ jn=>?_,λ jn=>⟨?_,⟨k1+1,⟨?_,⟨?_,⟨⟨rfl,⟨rfl,⟨?_,trivial⟩⟩⟩,trivial⟩⟩⟩⟩⟩⟩⟩⟩,λ gl=>?_⟩⟩,λ a6=>?_⟩⟩⟩⟩⟩⟩
 all_goals try and_intros
 all_goals try simp only[M.eta,ai.eta,aG,bo] at *
 all_goals try rw[H2 x]
 all_goals first|rfl|trivial|(simp only[a1F,a1L,aZ,ah] at *;omega)|(simp_all [EF];done)|(simp_all [EF,aZ,ah];omega)
theorem I3 :∀ n,aR [gT n]
 | 0=>⟨⟨aB jJ rfl (by decide),λ _ h=>absurd h (a2s _)⟩,trivial⟩
 | n+1=>by
  have ih:=I3  n
  exact⟨Ck n ⟨ih.1,trivial⟩,trivial⟩
theorem qQ :bu.Good eN :=
 ⟨aB jJ rfl (by decide),λ x hp=>(I3  (cd x+1)).1.2 x (a2l _)⟩
def gB(n:Nat):bu:=⟨j8,[.r (.st .expr)],λ (x:M)=>⟨(some (cd x<n),[⟨.bool,bJ x⟩])⟩⟩
def eh:bu:=⟨j8,[.r (.st .expr)],λ (x:M)=>⟨(none,[⟨.bool,bJ x⟩])⟩⟩
def s7(x:M):Nat->aW:=(λ zb=>if Nat.beq zb 0 then .mk (Nat) (λ k=>k<=x.J.length/\cG bJ (x.J.take k)=true) (λ k=>x.J.length - k) [] [1,4,5,6,7,8,9,10,11,12,13,14,15,16] (λ k=>[(3, .az ⟨(.int .i64),((k:Int):Int)⟩)]) [0,2,3,17,18,19,20,21,22,23,24,25,26,27,28,29,30,31,32,33] (λ k=>[]) [] [] (λ k=>λ _ => .none) else .none)
abbrev qY(n:Nat)(x:M):Prop:=((∃ k1:Nat,((k1<=x.J.length/\cG bJ (x.J.take k1)=true)/\((x=x/\((0:Int)=(k1:Int)/\True))/\True)))/\(∀ k1:Nat,((k1<=x.J.length/\cG bJ (x.J.take k1)=true) ->
 (x.J.length<=140737488355328 ->
 (ah ((x.J.length:Int)) ->
 (((decide ((k1:Int)<((x.J.length:Int))))=true ->
 (x.J.length<=140737488355328 ->
 (aZ (k1:Int) x.J.length/\(cd (x.J.getD k1 zE)<n/\(((!(bJ (x.J.getD k1 zE)))=true ->
 false=(bJ x))/\((!(bJ (x.J.getD k1 zE)))=false ->
 (ah ((k1:Int)+(1:Int))/\(∃ k2:Nat,((k2<=x.J.length/\cG bJ (x.J.take k2)=true)/\(x.J.length - k2<x.J.length - k1/\((x=x/\(((k1:Int)+(1:Int))=(k2:Int)/\True))/\True)))))))))))/\((decide ((k1:Int)<((x.J.length:Int))))=false ->
 true=(bJ x))))))))
theorem A6(n:Nat)(x:M):dd (bz [gB n,dz]) (aD fw) (s7 x) 0 (bO (bz [gB n,dz]) fw λ r=>bR r [⟨.bool,bJ x⟩]) (aU fw [.ref ⟨(.st .expr),x⟩]) =
 ((ah x.af ->
 ((((!(decide ((1:Int)<=x.af/\x.af<=(7:Int))))=false) ->
 (ah x.af ->
 (((decide (x.af=(4:Int)))=true ->
 false=(bJ x))/\((decide (x.af=(4:Int)))=false ->
 (qY n x)))))/\(((!(decide ((1:Int)<=x.af/\x.af<=(7:Int))))=(!false)) ->
 ((true=true ->
 false=(bJ x))/\(true=false ->
 (qY n x))))))):=by kernel_rfl
theorem A0(n:Nat)(hE:aR [gB n,dz]):bu.Good (gB (n+1)):=by
 refine⟨aB jm rfl (by decide),?_⟩
 show ∀ (x:M),(cd x<n+1)->bL prog j8 [.ref ⟨(.st .expr),x⟩] (·=[⟨.bool,bJ x⟩])
 intro x hp
 refine bB (wr:=[]) (cl:=[]) (ro:=[]) hE jm x8 (s7 x) ?_
 rewrite [A6 n x]
 have f0:=ly x
 have f1:=all_zero bJ x.J
 refine λ a0=>⟨λ a1=>λ a2=>⟨λ a3=>?_,λ a3=>⟨⟨0,⟨?_,⟨⟨rfl,⟨?_,trivial⟩⟩,trivial⟩⟩⟩,λ k1 a4=>have a1c:=eu bJ zE x.J k1;have a1d:=fO bJ zE x.J k1;have a1e:=fu bJ x.J k1;have a1f:=ct zE x.J k1;λ a5=>λ a6=>⟨λ a7=>λ a8=>⟨?_,⟨?_,⟨λ a9=>?_,λ a9=>⟨?_,⟨k1+1,⟨?_,⟨?_,⟨⟨rfl,⟨?_,trivial⟩⟩,trivial⟩⟩⟩⟩⟩⟩⟩⟩,λ a7=>?_⟩⟩⟩,λ a1=>⟨λ a2=>?_,λ a2=>⟨⟨0,⟨?_,⟨⟨rfl,⟨?_,trivial⟩⟩,trivial⟩⟩⟩,λ k1 a3=>have U6:=eu bJ zE x.J k1;have U7:=fO bJ zE x.J k1;have U8:=fu bJ x.J k1;have Z1:=ct zE x.J k1;λ a4=>λ a5=>⟨λ a6=>λ a7=>⟨?_,⟨?_,⟨λ a8=>?_,λ a8=>⟨?_,⟨k1+1,⟨?_,⟨?_,⟨⟨rfl,⟨?_,trivial⟩⟩,trivial⟩⟩⟩⟩⟩⟩⟩⟩,λ a6=>?_⟩⟩⟩⟩
 all_goals try and_intros
 all_goals try rw[H2 x]
 all_goals first|rfl|trivial|(simp only[a1F,a1L,aZ,ah] at *;omega)|(simp_all [EF];done)|(simp_all [EF,aZ,ah];omega)
theorem I4 :∀ n,aR [gB n]
 | 0=>⟨⟨aB jm rfl (by decide),λ _ h=>absurd h (a2s _)⟩,trivial⟩
 | n+1=>by
  have ih:=I4  n
  exact⟨A0 n ⟨ih.1,oh,trivial⟩,trivial⟩
theorem qd :bu.Good eh :=
 ⟨aB jm rfl (by decide),λ x hp=>(I4  (cd x+1)).1.2 x (a2l _)⟩
def uS(t a:Int)(x:M):Bool:=decide (cQ x.af=(x.J.length:Int)) &&
 (if x.af=3 then decide (0<=x.al/\x.al<=t) else if x.af=4 then decide (0<=x.al/\x.al<=a) else decide (x.al=0)) &&
 (!decide (x.af=5)||bJ (x.J.getD 0 ⟨0,0,[]⟩))
mutual
def b9(t a:Int):M->Bool
 | ⟨k,n,ks⟩=>uS t a ⟨k,n,ks⟩&&Af t a ks
def Af(t a:Int):List M->Bool
 | []=>true
 | k::ks=>b9 t a k&&Af t a ks
end
theorem MX(t a:Int):∀ xs,Af t a xs=cG (b9 t a) xs
 | []=>rfl
 | x::xs=>by rw[Af,cG,MX t a xs]
theorem qL(t a:Int)(x:M):b9 t a x=(uS t a x&&cG (b9 t a) x.J):=by
 cases x;simp[b9,MX]
def aH(n:Int):Int:=IntKind.wrap .i64 (n - 1)
theorem zV(n:Int)(h : -9223372036854775807<=n/\n<=9223372036854775807):aH n=n - 1:=by
 simp[aH,IntKind.wrap,IntKind.signed,IntKind.bits];omega
def ll(n:Nat):bu:=⟨pE,[.r (.st .expr), .v (.int .i64)],λ (x:M) (left:Int)=>⟨(some (cd x<n/\0<=left/\left<=1048576),[⟨(.int .i64),iH (bd x) left⟩])⟩⟩
def pA:bu:=⟨pE,[.r (.st .expr), .v (.int .i64)],λ (x:M) (left:Int)=>⟨(some (0<=left/\left<=1048576),[⟨(.int .i64),iH (bd x) left⟩])⟩⟩
def AA(x:M)(left:Int):Nat->aW:=(λ zb=>if Nat.beq zb 0 then .mk (Nat) (λ k=>k<=x.J.length) (λ k=>x.J.length - k) [] [2,3,6,7] (λ k=>[(5, .az ⟨(.int .i64),((k:Int):Int)⟩),(1, .az ⟨(.int .i64),(iH (1+aw bd (x.J.take k)) left:Int)⟩)]) [0,1,4,5,8,9,10,11,12,13,14,15,16,17,18,19,20,21,22,23,24,25,26,27,28,29] (λ k=>[]) [] [] (λ k=>λ _ => .none) else .none)
abbrev wy(n:Nat)(x:M)(left:Int)(k1:Nat):Prop:=(x.J.length<=140737488355328 ->
 (aZ (k1:Int) x.J.length/\((cd (x.J.getD k1 zE)<n/\0<=(iH (1+aw bd (x.J.take k1)) left)/\(iH (1+aw bd (x.J.take k1)) left)<=1048576)/\(ah (iH (bd (x.J.getD k1 zE)) (iH (1+aw bd (x.J.take k1)) left)) ->
 (ah ((k1:Int)+(1:Int))/\(∃ k2:Nat,(k2<=x.J.length/\(x.J.length - k2<x.J.length - k1/\((x=x/\((iH (bd (x.J.getD k1 zE)) (iH (1+aw bd (x.J.take k1)) left))=(iH (1+aw bd (x.J.take k2)) left)/\((0:Int)=(0:Int)/\(((k1:Int)+(1:Int))=(k2:Int)/\True))))/\True)))))))))
theorem IS(n:Nat)(x:M)(left:Int):dd (bz [ll n]) (aD jw) (AA x left) 0 (bO (bz [ll n]) jw λ r=>bR r [⟨(.int .i64),iH (bd x) left⟩]) (aU jw [.ref ⟨(.st .expr),x⟩, .val ⟨(.int .i64),left⟩]) =
 ((ah (left - (1:Int))/\((∃ k1:Nat,(k1<=x.J.length/\((x=x/\((left - (1:Int))=(iH (1+aw bd (x.J.take k1)) left)/\((0:Int)=(0:Int)/\((0:Int)=(k1:Int)/\True))))/\True)))/\(∀ k1:Nat,(k1<=x.J.length ->
 (x.J.length<=140737488355328 ->
 (ah ((x.J.length:Int)) ->
 (((decide ((k1:Int)<((x.J.length:Int))))=true ->
 (((decide ((0:Int)<=(iH (1+aw bd (x.J.take k1)) left)))=true ->
 (wy n x left k1))/\((decide ((0:Int)<=(iH (1+aw bd (x.J.take k1)) left)))=false ->
 (iH (1+aw bd (x.J.take k1)) left)=(iH (bd x) left))))/\((decide ((k1:Int)<((x.J.length:Int))))=(!true) ->
 ((false=true ->
 (wy n x left k1))/\(false=false ->
 (iH (1+aw bd (x.J.take k1)) left)=(iH (bd x) left)))))))))))):=by kernel_rfl
theorem IC(n:Nat)(hE:aR [ll n]):bu.Good (ll (n+1)):=by
 refine⟨aB nY rfl (by decide),?_⟩
 show ∀ (x:M) (left:Int),(cd x<n+1/\0<=left/\left<=1048576)->bL prog pE [.ref ⟨(.st .expr),x⟩, .val ⟨(.int .i64),left⟩] (·=[⟨(.int .i64),iH (bd x) left⟩])
 intro x left hp
 refine bB (wr:=[]) (cl:=[]) (ro:=[]) hE nY Ev (AA x left) ?_
 rewrite [IS n x left]
 have f0:=ly x
 have f1:=qK bd x.J
 have f2:=pJ (1+aw bd (x.J.take 0)) left
 refine⟨?_,⟨⟨0,⟨?_,⟨⟨rfl,⟨?_,⟨rfl,⟨?_,trivial⟩⟩⟩⟩,trivial⟩⟩⟩,λ k1 a0=>have Jg:=jG bd zE x.J k1;have Bm:=cS bd x.J k1;have DM:=cS bd x.J (k1+1);have Jh:=nU bd x.J k1;have K5:=ct zE x.J k1;have K6:=pJ (1+aw bd (x.J.take k1)) left;have Qc:=pJ (1+aw bd (x.J.take (k1+1))) left;have Qd:=pJ (bd (x.J.getD k1 zE)) (iH (1+aw bd (x.J.take k1)) left);have Qe:=pJ (1+aw bd x.J) left;λ a1=>λ a2=>⟨λ a3=>⟨λ a4=>λ a5=>⟨?_,⟨?_,λ a6=>⟨?_,⟨k1+1,⟨?_,⟨?_,⟨⟨rfl,⟨?_,⟨rfl,⟨?_,trivial⟩⟩⟩⟩,trivial⟩⟩⟩⟩⟩⟩⟩,λ a4=>?_⟩,λ a3=>⟨λ a4=>λ a5=>⟨?_,⟨?_,λ a6=>⟨?_,⟨k1+1,⟨?_,⟨?_,⟨⟨rfl,⟨?_,⟨rfl,⟨?_,trivial⟩⟩⟩⟩,trivial⟩⟩⟩⟩⟩⟩⟩,λ a4=>?_⟩⟩⟩⟩
 all_goals try and_intros
 all_goals try rw[Fb x]
 all_goals first|rfl|trivial|omega|(simp only[a1F,a1L,aZ,ah,dD,eM,j0,fI] at *;omega)|(simp[aZ,ah] at *;omega)|grind
theorem I7 :∀ n,aR [ll n]
 | 0=>⟨⟨aB nY rfl (by decide),λ _ _ h=>absurd h.1 (a2s _)⟩,trivial⟩
 | n+1=>by
  have ih:=I7  n
  exact⟨IC n ⟨ih.1,trivial⟩,trivial⟩
theorem EJ :bu.Good pA :=
 ⟨aB nY rfl (by decide),λ x left hp=>(I7  (cd x+1)).1.2 x left (⟨a2l _,hp⟩)⟩
def jU(n:Nat):bu:=⟨oC,[.r (.st .expr)],λ (x:M)=>⟨(some (cd x<n/\bp x<=1048576),[⟨(.int .i64),(bp x:Int)⟩])⟩⟩
def ov:bu:=⟨oC,[.r (.st .expr)],λ (x:M)=>⟨(some (bp x<=1048576),[⟨(.int .i64),(bp x:Int)⟩])⟩⟩
def yI(x:M):Nat->aW:=(λ zb=>if Nat.beq zb 0 then .mk (Nat) (λ k=>k<=x.J.length) (λ k=>x.J.length - k) [] [1] (λ k=>[(4, .az ⟨(.int .i64),((k:Int):Int)⟩),(3, .az ⟨(.int .i64),((dI bp (x.J.take k):Int):Int)⟩)]) [0,2,3,4,5,6,7,8,9,10,11,12,13,14,15,16,17,18,19,20,21,22,23,24] (λ k=>[]) [] [] (λ k=>λ _ => .none) else .none)
theorem HI(n:Nat)(x:M):dd (bz [jU n,gR]) (aD iV) (yI x) 0 (bO (bz [jU n,gR]) iV λ r=>bR r [⟨(.int .i64),(bp x:Int)⟩]) (aU iV [.ref ⟨(.st .expr),x⟩]) =
 (((∃ k1:Nat,(k1<=x.J.length/\((x=x/\((0:Int)=(0:Int)/\((0:Int)=(dI bp (x.J.take k1):Int)/\((0:Int)=(k1:Int)/\True))))/\True)))/\(∀ k1:Nat,(k1<=x.J.length ->
 (x.J.length<=140737488355328 ->
 (ah ((x.J.length:Int)) ->
 (((decide ((k1:Int)<((x.J.length:Int))))=true ->
 (x.J.length<=140737488355328 ->
 (aZ (k1:Int) x.J.length/\((cd (x.J.getD k1 zE)<n/\bp (x.J.getD k1 zE)<=1048576)/\(ah ((bp (x.J.getD k1 zE):Int)) ->
 (ah (max (dI bp (x.J.take k1):Int) ((bp (x.J.getD k1 zE):Int))) ->
 (ah ((k1:Int)+(1:Int))/\(∃ k2:Nat,(k2<=x.J.length/\(x.J.length - k2<x.J.length - k1/\((x=x/\((0:Int)=(0:Int)/\((max (dI bp (x.J.take k1):Int) ((bp (x.J.getD k1 zE):Int)))=(dI bp (x.J.take k2):Int)/\(((k1:Int)+(1:Int))=(k2:Int)/\True))))/\True)))))))))))/\((decide ((k1:Int)<((x.J.length:Int))))=false ->
 (ah ((dI bp (x.J.take k1):Int)+(1:Int))/\((dI bp (x.J.take k1):Int)+(1:Int))=(bp x:Int)))))))))):=by kernel_rfl
theorem Hj(n:Nat)(hE:aR [jU n,gR]):bu.Good (jU (n+1)):=by
 refine⟨aB mV rfl (by decide),?_⟩
 show ∀ (x:M),(cd x<n+1/\bp x<=1048576)->bL prog oC [.ref ⟨(.st .expr),x⟩] (·=[⟨(.int .i64),(bp x:Int)⟩])
 intro x hp
 refine bB (wr:=[]) (cl:=[]) (ro:=[]) hE mV Df (yI x) ?_
 rewrite [HI n x]
 rw[jc x] at hp
 have f0:=ly x
 have f1:=zI bp x.J
 refine⟨⟨0,⟨?_,⟨⟨rfl,⟨rfl,⟨?_,⟨?_,trivial⟩⟩⟩⟩,trivial⟩⟩⟩,λ k1 a0=>have Jg:=nJ bp zE x.J k1;have Bm:=fN bp x.J k1;have DM:=fN bp x.J (k1+1);have Jh:=sa bp x.J k1;have K5:=ct zE x.J k1;have K6:=pR bp zE x.J k1;λ a1=>λ a2=>⟨λ a3=>λ a4=>⟨?_,⟨?_,λ a5=>λ a6=>⟨?_,⟨k1+1,⟨?_,⟨?_,⟨⟨rfl,⟨rfl,⟨?_,⟨?_,trivial⟩⟩⟩⟩,trivial⟩⟩⟩⟩⟩⟩⟩,λ a3=>⟨?_,?_⟩⟩⟩
 all_goals try and_intros
 all_goals try rw[jc x]
 all_goals first|rfl|trivial|omega|(simp only[a1F,a1L,aZ,ah,dD,eM,j0,fI] at *;omega)|(simp[aZ,ah] at *;omega)|grind
theorem FO :∀ n,aR [jU n]
 | 0=>⟨⟨aB mV rfl (by decide),λ _ h=>absurd h.1 (a2s _)⟩,trivial⟩
 | n+1=>by
  have ih:=FO  n
  exact⟨Hj n ⟨ih.1,wj,trivial⟩,trivial⟩
theorem Dp :bu.Good ov :=
 ⟨aB mV rfl (by decide),λ x hp=>(FO  (cd x+1)).1.2 x (⟨a2l _,hp⟩)⟩
def ln(n:Nat):bu:=⟨pF,[.v (.st .sig), .r (.st .expr)],λ (gg:bb) (x:M)=>⟨(some (cd x<n),[⟨.bool,b9 (aH gg.bw) (aH gg.aO) x⟩])⟩⟩
def pB:bu:=⟨pF,[.v (.st .sig), .r (.st .expr)],λ (gg:bb) (x:M)=>⟨(none,[⟨.bool,b9 (aH gg.bw) (aH gg.aO) x⟩])⟩⟩
def AB(gg:bb)(x:M):Nat->aW:=(λ zb=>if Nat.beq zb 1 then .mk (Nat) (λ k=>k<=x.J.length/\cG (b9 (aH gg.bw) (aH gg.aO)) (x.J.take k)=true) (λ k=>x.J.length - k) [] [0,3,6,7,8,9,10,11,12,13,14,15,16,17,18,19,20,21,22,23,24,25,26,27,28,29,30,31,32,33,34,35,36,37,38,39,40,41,42,43,44,45,46,47,48,49,50,51,52,53,54,55,56,57,58,59,60,61] (λ k=>[(5, .az ⟨(.int .i64),((k:Int):Int)⟩)]) [1,2,4,5,62,63,64,65,66,67,68,69,70,71,72,73,74,75,76,77,78,79] (λ k=>[]) [] [] (λ k=>λ _ => .none) else .none)
abbrev qZ(n:Nat)(gg:bb)(x:M):Prop:=((∃ k1:Nat,((k1<=x.J.length/\cG (b9 (aH gg.bw) (aH gg.aO)) (x.J.take k1)=true)/\((x=x/\(gg=gg/\((0:Int)=(k1:Int)/\True)))/\True)))/\(∀ k1:Nat,((k1<=x.J.length/\cG (b9 (aH gg.bw) (aH gg.aO)) (x.J.take k1)=true) ->
 (x.J.length<=140737488355328 ->
 (ah ((x.J.length:Int)) ->
 (((decide ((k1:Int)<((x.J.length:Int))))=true ->
 (aZ (k1:Int) x.J.length/\(x.J.length<=140737488355328 ->
 (cd (x.J.getD k1 zE)<n/\(((!(b9 (aH gg.bw) (aH gg.aO) (x.J.getD k1 zE)))=true ->
 false=(b9 (aH gg.bw) (aH gg.aO) x))/\((!(b9 (aH gg.bw) (aH gg.aO) (x.J.getD k1 zE)))=false ->
 (ah ((k1:Int)+(1:Int))/\(∃ k2:Nat,((k2<=x.J.length/\cG (b9 (aH gg.bw) (aH gg.aO)) (x.J.take k2)=true)/\(x.J.length - k2<x.J.length - k1/\((x=x/\(gg=gg/\(((k1:Int)+(1:Int))=(k2:Int)/\True)))/\True)))))))))))/\((decide ((k1:Int)<((x.J.length:Int))))=false ->
 true=(b9 (aH gg.bw) (aH gg.aO) x))))))))
theorem IT(n:Nat)(gg:bb)(x:M):dd (bz [ln n,mn,dz,eh] [29,39] [] [2]) (aD jx) (AB gg x) 0 (bO (bz [ln n,mn,dz,eh] [29,39] [] [2]) jx λ r=>bR r [⟨.bool,b9 (aH gg.bw) (aH gg.aO) x⟩]) (aU jx [.val ⟨(.st .sig),gg⟩, .ref ⟨(.st .expr),x⟩]) =
 ((x.J.length<=140737488355328 ->
 (ah ((x.J.length:Int)) ->
 (ah x.af ->
 (ah (cQ x.af) ->
 (((!(decide (((x.J.length:Int))=(cQ x.af))))=true ->
 false=(b9 (aH gg.bw) (aH gg.aO) x))/\((!(decide (((x.J.length:Int))=(cQ x.af))))=false ->
 (ah x.af ->
 (((decide (x.af=(3:Int)))=true ->
 (ah x.al ->
 (ah gg.bw ->
 ((decide ((0:Int)<=x.al/\x.al<=(IntKind.wrap .i64 (gg.bw - (1:Int)))))=(b9 (aH gg.bw) (aH gg.aO) x)))))/\((decide (x.af=(3:Int)))=false ->
 (((decide (x.af=(4:Int)))=true ->
 (ah x.al ->
 (ah gg.aO ->
 ((decide ((0:Int)<=x.al/\x.al<=(IntKind.wrap .i64 (gg.aO - (1:Int)))))=(b9 (aH gg.bw) (aH gg.aO) x)))))/\((decide (x.af=(4:Int)))=false ->
 (ah x.al ->
 (((!(decide (x.al=(0:Int))))=false ->
 (ah x.af ->
 (((decide (x.af=(5:Int)))=true ->
 (x.J.length<=140737488355328 ->
 (aZ (0:Int) x.J.length/\(((!(bJ (x.J.getD 0 zE)))=true ->
 false=(b9 (aH gg.bw) (aH gg.aO) x))/\((!(bJ (x.J.getD 0 zE)))=false ->
 (qZ n gg x))))))/\((decide (x.af=(5:Int)))=(!true) ->
 ((false=true ->
 false=(b9 (aH gg.bw) (aH gg.aO) x))/\(false=false ->
 (qZ n gg x)))))))/\((!(decide (x.al=(0:Int))))=(!false) ->
 ((true=true ->
 false=(b9 (aH gg.bw) (aH gg.aO) x))/\(true=false ->
 (qZ n gg x)))))))))))))))))):=by kernel_rfl
theorem ID(n:Nat)(hE:aR [ln n,mn,dz,eh]):bu.Good (ln (n+1)):=by
 refine⟨aB nZ rfl (by decide),?_⟩
 show ∀ (gg:bb) (x:M),(cd x<n+1)->bL prog pF [.val ⟨(.st .sig),gg⟩, .ref ⟨(.st .expr),x⟩] (·=[⟨.bool,b9 (aH gg.bw) (aH gg.aO) x⟩])
 intro gg x hp
 refine bB (wr:=[29,39]) (cl:=[]) (ro:=[2]) hE nZ Ew (AB gg x) ?_
 rewrite [IT n gg x]
 have f0:=ly x
 have f1:=all_zero (b9 (aH gg.bw) (aH gg.aO)) x.J
 refine λ a0=>λ a1=>λ a2=>λ a3=>⟨λ a4=>?_,λ a4=>λ a5=>⟨λ a6=>λ a7=>λ a8=>?_,λ a6=>⟨λ a7=>λ a8=>λ a9=>?_,λ a7=>λ a8=>⟨λ a9=>λ gl=>⟨λ jn=>λ a12=>⟨?_,⟨λ vB=>?_,λ vB=>⟨⟨0,⟨?_,⟨⟨rfl,⟨rfl,⟨?_,trivial⟩⟩⟩,trivial⟩⟩⟩,λ k1 sN=>have a0X:=eu (b9 (aH gg.bw) (aH gg.aO)) zE x.J k1;have a0Y:=fO (b9 (aH gg.bw) (aH gg.aO)) zE x.J k1;have a0Z:=fu (b9 (aH gg.bw) (aH gg.aO)) x.J k1;have a1a:=ct zE x.J k1;λ KR=>λ FI=>⟨λ P8=>⟨?_,λ HQ=>⟨?_,⟨λ KS=>?_,λ KS=>⟨?_,⟨k1+1,⟨?_,⟨?_,⟨⟨rfl,⟨rfl,⟨?_,trivial⟩⟩⟩,trivial⟩⟩⟩⟩⟩⟩⟩⟩,λ P8=>?_⟩⟩⟩⟩,λ jn=>⟨λ a12=>?_,λ a12=>⟨⟨0,⟨?_,⟨⟨rfl,⟨rfl,⟨?_,trivial⟩⟩⟩,trivial⟩⟩⟩,λ k1 vB=>have a0T:=eu (b9 (aH gg.bw) (aH gg.aO)) zE x.J k1;have a0U:=fO (b9 (aH gg.bw) (aH gg.aO)) zE x.J k1;have a0V:=fu (b9 (aH gg.bw) (aH gg.aO)) x.J k1;have a0W:=ct zE x.J k1;λ sN=>λ KR=>⟨λ FI=>⟨?_,λ P8=>⟨?_,⟨λ HQ=>?_,λ HQ=>⟨?_,⟨k1+1,⟨?_,⟨?_,⟨⟨rfl,⟨rfl,⟨?_,trivial⟩⟩⟩,trivial⟩⟩⟩⟩⟩⟩⟩⟩,λ FI=>?_⟩⟩⟩⟩,λ a9=>⟨λ gl=>?_,λ gl=>⟨⟨0,⟨?_,⟨⟨rfl,⟨rfl,⟨?_,trivial⟩⟩⟩,trivial⟩⟩⟩,λ k1 jn=>have U2:=eu (b9 (aH gg.bw) (aH gg.aO)) zE x.J k1;have U3:=fO (b9 (aH gg.bw) (aH gg.aO)) zE x.J k1;have U4:=fu (b9 (aH gg.bw) (aH gg.aO)) x.J k1;have U5:=ct zE x.J k1;λ a12=>λ vB=>⟨λ sN=>⟨?_,λ KR=>⟨?_,⟨λ FI=>?_,λ FI=>⟨?_,⟨k1+1,⟨?_,⟨?_,⟨⟨rfl,⟨rfl,⟨?_,trivial⟩⟩⟩,trivial⟩⟩⟩⟩⟩⟩⟩⟩,λ sN=>?_⟩⟩⟩⟩⟩⟩⟩
 all_goals try and_intros
 all_goals try rw[qL _ _ x]
 all_goals first|rfl|trivial|(simp only[decide_eq_true_eq,decide_eq_false_iff_not,aZ,ah] at *;omega)|(simp_all [uS,aH];done)|(simp_all [uS,aH,aZ,ah];omega)|grind [uS,aH,cQ,aZ,ah]
theorem I9 :∀ n,aR [ln n]
 | 0=>⟨⟨aB nZ rfl (by decide),λ _ _ h=>absurd h (a2s _)⟩,trivial⟩
 | n+1=>by
  have ih:=I9  n
  exact⟨ID n ⟨ih.1,EI,oh,qd,trivial⟩,trivial⟩
theorem EK :bu.Good pB :=
 ⟨aB nZ rfl (by decide),λ gg x hp=>(I9  (cd x+1)).1.2 gg x (a2l _)⟩
end
end Go.Proofs.YtaaamahdcpcofaaDoor

set_option maxRecDepth 4000
set_option maxHeartbeats 4000000
namespace Go.Proofs.YtaaamahdcpcofaaDoor
noncomputable section
def cf(gg:bb):Bool:=decide (0<=gg.bw/\gg.bw<=3)&&decide (0<=gg.aO/\gg.aO<=4)
def vN(gg:bb)(x:M)(av depth:Int):Bool:=b9 (aH gg.bw) (aH gg.aO) x&&decide ((bd x:Int)<=av)&&decide ((bp x:Int)<=depth)
def zZ(gg:bb)(x:M)(av depth:Int):Int:=bif vN gg x av depth then av - bd x else 0
def lb:bu:=⟨sd,[.v (.st .sig)],λ (gg:bb)=>⟨(none,[⟨.bool,cf gg⟩])⟩⟩
def yB(gg:bb):Nat->aW:=λ _ => .none
theorem HC(gg:bb):dd (bz [ef] [] [] [1]) (aD iO) (yB gg) 0 (bO (bz [ef] [] [] [1]) iO λ r=>bR r [⟨.bool,cf gg⟩]) (aU iO [.val ⟨(.st .sig),gg⟩]) =
 ((ah gg.bw ->
 ((((decide ((0:Int)<=gg.bw/\gg.bw<=(3:Int)))=true) ->
 (ah gg.aO ->
 ((decide ((0:Int)<=gg.aO/\gg.aO<=(4:Int)))=(cf gg))))/\(((decide ((0:Int)<=gg.bw/\gg.bw<=(3:Int)))=(!true)) ->
 false=(cf gg))))):=by kernel_rfl
theorem Hd(hE:aR [ef]):bu.Good lb:=by
 refine⟨aB vW rfl (by decide),?_⟩
 show ∀ (gg:bb),True->bL prog sd [.val ⟨(.st .sig),gg⟩] (·=[⟨.bool,cf gg⟩])
 intro gg _
 refine bB (wr:=[]) (cl:=[]) (ro:=[1]) hE vW C4 (yB gg) ?_
 rewrite [HC gg]
 refine λ a0=>⟨λ a1=>λ a2=>?_,λ a1=>?_⟩
 all_goals try and_intros
 all_goals first|rfl|trivial|(simp_all [cf];done)|(simp_all [cf];omega)
theorem Di:bu.Good lb:=Hd ⟨qR,trivial⟩
def ei:bu:=⟨vp,[.v (.st .sig)],λ (gg:bb)=>⟨(none,[⟨.bool,cf gg⟩])⟩⟩
def B4(gg:bb):Nat->aW:=λ _ => .none
theorem Kt(gg:bb):dd (bz [dz] [] [] [1]) (aD kW) (B4 gg) 0 (bO (bz [dz] [] [] [1]) kW λ r=>bR r [⟨.bool,cf gg⟩]) (aU kW [.val ⟨(.st .sig),gg⟩]) =
 ((ah gg.bw ->
 ((((decide ((0:Int)<=gg.bw/\gg.bw<=(3:Int)))=true) ->
 (ah gg.aO ->
 ((decide ((0:Int)<=gg.aO/\gg.aO<=(4:Int)))=(cf gg))))/\(((decide ((0:Int)<=gg.bw/\gg.bw<=(3:Int)))=(!true)) ->
 false=(cf gg))))):=by kernel_rfl
theorem Ki(hE:aR [dz]):bu.Good ei:=by
 refine⟨aB As rfl (by decide),?_⟩
 show ∀ (gg:bb),True->bL prog vp [.val ⟨(.st .sig),gg⟩] (·=[⟨.bool,cf gg⟩])
 intro gg _
 refine bB (wr:=[]) (cl:=[]) (ro:=[1]) hE As F6 (B4 gg) ?_
 rewrite [Kt gg]
 refine λ a0=>⟨λ a1=>λ a2=>?_,λ a1=>?_⟩
 all_goals try and_intros
 all_goals first|rfl|trivial|(simp_all [cf];done)|(simp_all [cf];omega)
theorem qS:bu.Good ei:=Ki ⟨oh,trivial⟩
end
end Go.Proofs.YtaaamahdcpcofaaDoor

set_option maxRecDepth 4000
set_option maxHeartbeats 4000000
namespace Go.Proofs.YtaaamahdcpcofaaDoor
noncomputable section
def zR(t a:Int)(x:M):Bool:=if x.af=3 then decide (0<=x.al/\x.al<=t) else if x.af=4 then decide (0<=x.al/\x.al<=a) else decide (x.al=0)
theorem rX(t a:Int)(x:M):uS t a x=(decide (cQ x.af=(x.J.length:Int))&&zR t a x&&(!decide (x.af=5)||bJ (x.J.getD 0 ⟨0,0,[]⟩))):=rfl
theorem vv(gg:bb)(x:M)(av depth:Int) :
  (b9 (aH gg.bw) (aH gg.aO) x=true/\(bd x:Int)<=av/\(bp x:Int)<=depth/\vN gg x av depth=true/\zZ gg x av depth=av - bd x) \/
  ((b9 (aH gg.bw) (aH gg.aO) x=false\/av<(bd x:Int)\/depth<(bp x:Int))/\vN gg x av depth=false/\zZ gg x av depth=0):=by
 unfold zZ vN
 cases b9 (aH gg.bw) (aH gg.aO) x
 .right;simp
 .rcases a5b av (bd x) with h|h
  .right;simp[h,a5r.2 h]
  .rcases a5b depth (bp x) with h'|h'
   .right;simp[h',a5r.2 h']
   .left;simp[h,h']
def mw(n:Nat):bu:=⟨rp,[.v (.st .sig), .v (.st .expr), .v (.int .i64), .v (.int .i64)],λ (gg:bb) (x:M) (av:Int) (depth:Int)=>⟨(some (cd x<n/\0<=av/\av<=1048576/\0<=depth/\depth<=1048576),[⟨(.int .i64),zZ gg x av depth⟩,⟨.bool,vN gg x av depth⟩])⟩⟩
def rf:bu:=⟨rp,[.v (.st .sig), .v (.st .expr), .v (.int .i64), .v (.int .i64)],λ (gg:bb) (x:M) (av:Int) (depth:Int)=>⟨(some (0<=av/\av<=1048576/\0<=depth/\depth<=1048576),[⟨(.int .i64),zZ gg x av depth⟩,⟨.bool,vN gg x av depth⟩])⟩⟩
def BZ(gg:bb)(x:M)(av:Int)(depth:Int):Nat->aW:=(λ zb=>if Nat.beq zb 100012 then .mk (Unit) (λ u=>cQ x.af=(x.J.length:Int)/\1<=av/\1<=depth/\zR (aH gg.bw) (aH gg.aO) x=true) (λ u=>0) [] [0,1,6,7,10,14,15,16,17,18,19,20,21,22,23,24,25,26,27,28,29,30,31,32,33,34,35,36,37,38,39,40,41,42,43,44,45,46,47,48,49,50,51] (λ u=>[]) [2,3,4,5,8,9,11,12,13,52,53,54,55,56,57,58,59,60,61,62,63,64,65,66,67,68,69,70,71,72,73,74,75,76,77,78,79,80,81,82,83,84,85] (λ u=>[]) [] [] (λ u=>(λ zb=>if Nat.beq zb 100014 then .mk (Unit) (λ u=>uS (aH gg.bw) (aH gg.aO) x=true/\1<=av/\1<=depth) (λ u=>0) [] [0,1,6,7,10,14,15,16,17,18,19,20,21,22,23,24,25,26,27,28,29,30,31,32,33,34,35,36,37,38,39,40,41,42,43,44,45,46,47,48,49,50,51,52,53,54,55,56,57,58,59,60,61,62] (λ u=>[]) [2,3,4,5,8,9,11,12,13,63,64,65,66,67,68,69,70,71,72,73,74,75,76,77,78,79,80,81,82,83,84,85] (λ u=>[]) [] [] (λ u=>(λ zb=>if Nat.beq zb 1 then .mk (Nat) (λ k=>k<=x.J.length/\cG (b9 (aH gg.bw) (aH gg.aO)) (x.J.take k)=true/\1+(aw bd (x.J.take k):Int)<=av/\1+(dI bp (x.J.take k):Int)<=depth) (λ k=>x.J.length - k) [] [0,1,5,6,7,10,14,15,16,17,18,19,20,21,22,23,24,25,26,27,28,29,30,31,32,33,34,35,36,37,38,39,40,41,42,43,44,45,46,47,48,49,50,51,52,53,54,55,56,57,58,59,60,61,62,63,64,65] (λ k=>[(68, .az ⟨(.int .i64),((k:Int):Int)⟩),(2, .az ⟨(.int .i64),(av - (1+(aw bd (x.J.take k):Int)):Int)⟩)]) [2,3,4,8,9,11,12,13,66,67,68,69,70,71,72,73,74,75,76,77,78,79,80,81,82,83,84,85] (λ k=>[]) [] [] (λ k=>λ _ => .none) else .none)) else .none)) else .none)
abbrev r8(gg:bb)(x:M)(av:Int)(depth:Int):Prop:=(∃ u1:Unit,((cQ x.af=(x.J.length:Int)/\1<=av/\1<=depth/\zR (aH gg.bw) (aH gg.aO) x=true)/\((av=av/\(depth=depth/\(gg=gg/\(x=x/\True))))/\True)))
abbrev yw(gg:bb)(x:M)(av:Int)(depth:Int):Prop:=(∃ u2:Unit,((uS (aH gg.bw) (aH gg.aO) x=true/\1<=av/\1<=depth)/\((av=av/\(depth=depth/\(gg=gg/\(x=x/\True))))/\True)))
abbrev yx(n:Nat)(gg:bb)(x:M)(av:Int)(depth:Int):Prop:=((ah x.af ->
 (((decide (x.af=(3:Int)))=true ->
 (ah x.al ->
 (ah gg.bw ->
 ((((!(decide ((0:Int)<=x.al/\x.al<=(IntKind.wrap .i64 (gg.bw - (1:Int))))))=true) ->
 ((0:Int)=(zZ gg x av depth)/\false=(vN gg x av depth)))/\(((!(decide ((0:Int)<=x.al/\x.al<=(IntKind.wrap .i64 (gg.bw - (1:Int))))))=false) ->
 (r8 gg x av depth))))))/\((decide (x.af=(3:Int)))=false ->
 (((decide (x.af=(4:Int)))=true ->
 (ah x.al ->
 (ah gg.aO ->
 ((((!(decide ((0:Int)<=x.al/\x.al<=(IntKind.wrap .i64 (gg.aO - (1:Int))))))=true) ->
 ((0:Int)=(zZ gg x av depth)/\false=(vN gg x av depth)))/\(((!(decide ((0:Int)<=x.al/\x.al<=(IntKind.wrap .i64 (gg.aO - (1:Int))))))=false) ->
 (r8 gg x av depth))))))/\((decide (x.af=(4:Int)))=false ->
 (ah x.al ->
 (((!(decide (x.al=(0:Int))))=true ->
 ((0:Int)=(zZ gg x av depth)/\false=(vN gg x av depth)))/\((!(decide (x.al=(0:Int))))=false ->
 (r8 gg x av depth)))))))))/\(∀ u1:Unit,((cQ x.af=(x.J.length:Int)/\1<=av/\1<=depth/\zR (aH gg.bw) (aH gg.aO) x=true) ->
 ((ah x.af ->
 (((decide (x.af=(5:Int)))=true ->
 (x.J.length<=140737488355328 ->
 (aZ (0:Int) x.J.length/\(((!(bJ (x.J.getD 0 zE)))=true ->
 ((0:Int)=(zZ gg x av depth)/\false=(vN gg x av depth)))/\((!(bJ (x.J.getD 0 zE)))=false ->
 (yw gg x av depth))))))/\((decide (x.af=(5:Int)))=(!true) ->
 ((false=true ->
 ((0:Int)=(zZ gg x av depth)/\false=(vN gg x av depth)))/\(false=false ->
 (yw gg x av depth))))))/\(∀ u2:Unit,((uS (aH gg.bw) (aH gg.aO) x=true/\1<=av/\1<=depth) ->
 (ah (av - (1:Int))/\(x.J.length<=140737488355328 ->
 (ah ((x.J.length:Int)) ->
 ((∃ k3:Nat,((k3<=x.J.length/\cG (b9 (aH gg.bw) (aH gg.aO)) (x.J.take k3)=true/\1+(aw bd (x.J.take k3):Int)<=av/\1+(dI bp (x.J.take k3):Int)<=depth)/\(((av - (1:Int))=(av - (1+(aw bd (x.J.take k3):Int)))/\(depth=depth/\(gg=gg/\(x.J=x.J/\(((x.J.length:Int))=((x.J.length:Int))/\((0:Int)=(k3:Int)/\True))))))/\True)))/\(∀ k3:Nat,((k3<=x.J.length/\cG (b9 (aH gg.bw) (aH gg.aO)) (x.J.take k3)=true/\1+(aw bd (x.J.take k3):Int)<=av/\1+(dI bp (x.J.take k3):Int)<=depth) ->
 (((decide ((k3:Int)<((x.J.length:Int))))=true ->
 (aZ (k3:Int) x.J.length/\(ah (depth - (1:Int))/\((cd (bH (x.J.getD k3 zE))<n/\0<=(av - (1+(aw bd (x.J.take k3):Int)))/\(av - (1+(aw bd (x.J.take k3):Int)))<=1048576/\0<=(depth - (1:Int))/\(depth - (1:Int))<=1048576)/\(ah (zZ gg (bH (x.J.getD k3 zE)) (av - (1+(aw bd (x.J.take k3):Int))) (depth - (1:Int))) ->
 (((!(vN gg (bH (x.J.getD k3 zE)) (av - (1+(aw bd (x.J.take k3):Int))) (depth - (1:Int))))=true ->
 ((0:Int)=(zZ gg x av depth)/\false=(vN gg x av depth)))/\((!(vN gg (bH (x.J.getD k3 zE)) (av - (1+(aw bd (x.J.take k3):Int))) (depth - (1:Int))))=false ->
 (ah ((k3:Int)+(1:Int))/\(∃ k4:Nat,((k4<=x.J.length/\cG (b9 (aH gg.bw) (aH gg.aO)) (x.J.take k4)=true/\1+(aw bd (x.J.take k4):Int)<=av/\1+(dI bp (x.J.take k4):Int)<=depth)/\(x.J.length - k4<x.J.length - k3/\(((zZ gg (bH (x.J.getD k3 zE)) (av - (1+(aw bd (x.J.take k3):Int))) (depth - (1:Int)))=(av - (1+(aw bd (x.J.take k4):Int)))/\(depth=depth/\(gg=gg/\(x.J=x.J/\(((x.J.length:Int))=((x.J.length:Int))/\(((k3:Int)+(1:Int))=(k4:Int)/\True))))))/\True))))))))))))/\((decide ((k3:Int)<((x.J.length:Int))))=false ->
 ((av - (1+(aw bd (x.J.take k3):Int)))=(zZ gg x av depth)/\true=(vN gg x av depth))))))))))))))))
abbrev yz(n:Nat)(gg:bb)(x:M)(av:Int)(depth:Int):Prop:=(ah x.af ->
 (ah (cQ x.af) ->
 (x.J.length<=140737488355328 ->
 (ah ((x.J.length:Int)) ->
 (((!(decide ((cQ x.af)=((x.J.length:Int)))))=true ->
 ((0:Int)=(zZ gg x av depth)/\false=(vN gg x av depth)))/\((!(decide ((cQ x.af)=((x.J.length:Int)))))=false ->
 (yx n gg x av depth)))))))
abbrev yA(n:Nat)(gg:bb)(x:M)(av:Int)(depth:Int):Prop:=((true=true ->
 ((0:Int)=(zZ gg x av depth)/\false=(vN gg x av depth)))/\(true=false ->
 (yx n gg x av depth)))
theorem Ko(n:Nat)(gg:bb)(x:M)(av:Int)(depth:Int):dd (bz [mw n,nH,ef,eN] [40,49] [] [4,5]) (aD kP) (BZ gg x av depth) 0 (bO (bz [mw n,nH,ef,eN] [40,49] [] [4,5]) kP λ r=>bR r [⟨(.int .i64),zZ gg x av depth⟩,⟨.bool,vN gg x av depth⟩]) (aU kP [.val ⟨(.st .sig),gg⟩, .val ⟨(.st .expr),x⟩, .val ⟨(.int .i64),av⟩, .val ⟨(.int .i64),depth⟩]) =
 ((((decide (av=(0:Int)))=false ->
 (((decide (depth=(0:Int)))=false ->
 (yz n gg x av depth))/\((decide (depth=(0:Int)))=(!false) ->
 (yA n gg x av depth))))/\((decide (av=(0:Int)))=(!false) ->
 ((true=false ->
 (yz n gg x av depth))/\(true=(!false) ->
 (yA n gg x av depth)))))):=by kernel_rfl
theorem Kd(n:Nat)(hE:aR [mw n,nH,ef,eN]):bu.Good (mw (n+1)):=by
 refine⟨aB pr rfl (by decide),?_⟩
 show ∀ (gg:bb) (x:M) (av:Int) (depth:Int),(cd x<n+1/\0<=av/\av<=1048576/\0<=depth/\depth<=1048576)->bL prog rp [.val ⟨(.st .sig),gg⟩, .val ⟨(.st .expr),x⟩, .val ⟨(.int .i64),av⟩, .val ⟨(.int .i64),depth⟩] (·=[⟨(.int .i64),zZ gg x av depth⟩,⟨.bool,vN gg x av depth⟩])
 intro gg x av depth hp
 refine bB (wr:=[40,49]) (cl:=[]) (ro:=[4,5]) hE pr F1 (BZ gg x av depth) ?_
 rewrite [Ko n gg x av depth]
 have fs:=vv gg x av depth
 rw[qL _ _ x,Fb x,jc x] at fs
 have f0:=ly x
 have f1:=qK bd x.J
 have f2:=zI bp x.J
 have f3:=all_zero (b9 (aH gg.bw) (aH gg.aO)) x.J
 refine⟨λ a0=>⟨λ a1=>λ a2=>λ a3=>λ a4=>λ a5=>⟨λ a6=>⟨?_,?_⟩,λ a6=>⟨λ a7=>⟨λ a8=>λ a9=>λ gl=>⟨λ jn=>⟨?_,?_⟩,λ jn=>⟨(),⟨?_,⟨⟨rfl,⟨rfl,⟨rfl,⟨rfl,trivial⟩⟩⟩⟩,trivial⟩⟩⟩⟩,λ a8=>⟨λ a9=>λ gl=>λ jn=>⟨λ a12=>⟨?_,?_⟩,λ a12=>⟨(),⟨?_,⟨⟨rfl,⟨rfl,⟨rfl,⟨rfl,trivial⟩⟩⟩⟩,trivial⟩⟩⟩⟩,λ a9=>λ gl=>⟨λ jn=>⟨?_,?_⟩,λ jn=>⟨(),⟨?_,⟨⟨rfl,⟨rfl,⟨rfl,⟨rfl,trivial⟩⟩⟩⟩,trivial⟩⟩⟩⟩⟩⟩,λ u1=>λ a7=>⟨λ a8=>⟨λ a9=>λ gl=>⟨?_,⟨λ jn=>⟨?_,?_⟩,λ jn=>⟨(),⟨?_,⟨⟨rfl,⟨rfl,⟨rfl,⟨rfl,trivial⟩⟩⟩⟩,trivial⟩⟩⟩⟩⟩,λ a9=>⟨λ gl=>⟨?_,?_⟩,λ gl=>⟨(),⟨?_,⟨⟨rfl,⟨rfl,⟨rfl,⟨rfl,trivial⟩⟩⟩⟩,trivial⟩⟩⟩⟩⟩,λ u2=>λ a8=>⟨?_,λ a9=>λ gl=>⟨⟨0,⟨?_,⟨⟨?_,⟨rfl,⟨rfl,⟨rfl,⟨rfl,⟨?_,trivial⟩⟩⟩⟩⟩⟩,trivial⟩⟩⟩,λ k3 jn=>have U2:=eu (b9 (aH gg.bw) (aH gg.aO)) zE x.J k3;have U3:=fO (b9 (aH gg.bw) (aH gg.aO)) zE x.J k3;have U4:=fu (b9 (aH gg.bw) (aH gg.aO)) x.J k3;have U5:=ct zE x.J k3;have Yw:=jG bd zE x.J k3;have Yx:=cS bd x.J (k3+1);have Yy:=nU bd x.J k3;have Yz:=nJ bp zE x.J k3;have YA:=fN bp x.J (k3+1);have YB:=sa bp x.J k3;have WY:=vv gg (x.J.getD k3 zE) (av - (1+(aw bd (x.J.take k3):Int))) (depth - 1);⟨λ a12=>⟨?_,⟨?_,⟨?_,λ vB=>⟨λ sN=>⟨?_,?_⟩,λ sN=>⟨?_,⟨k3+1,⟨?_,⟨?_,⟨⟨?_,⟨rfl,⟨rfl,⟨rfl,⟨rfl,⟨?_,trivial⟩⟩⟩⟩⟩⟩,trivial⟩⟩⟩⟩⟩⟩⟩⟩⟩,λ a12=>⟨?_,?_⟩⟩⟩⟩⟩⟩⟩,λ a1=>⟨λ a2=>⟨?_,?_⟩,λ a2=>⟨λ a3=>⟨λ a4=>λ a5=>λ a6=>⟨λ a7=>⟨?_,?_⟩,λ a7=>⟨(),⟨?_,⟨⟨rfl,⟨rfl,⟨rfl,⟨rfl,trivial⟩⟩⟩⟩,trivial⟩⟩⟩⟩,λ a4=>⟨λ a5=>λ a6=>λ a7=>⟨λ a8=>⟨?_,?_⟩,λ a8=>⟨(),⟨?_,⟨⟨rfl,⟨rfl,⟨rfl,⟨rfl,trivial⟩⟩⟩⟩,trivial⟩⟩⟩⟩,λ a5=>λ a6=>⟨λ a7=>⟨?_,?_⟩,λ a7=>⟨(),⟨?_,⟨⟨rfl,⟨rfl,⟨rfl,⟨rfl,trivial⟩⟩⟩⟩,trivial⟩⟩⟩⟩⟩⟩,λ u1=>λ a3=>⟨λ a4=>⟨λ a5=>λ a6=>⟨?_,⟨λ a7=>⟨?_,?_⟩,λ a7=>⟨(),⟨?_,⟨⟨rfl,⟨rfl,⟨rfl,⟨rfl,trivial⟩⟩⟩⟩,trivial⟩⟩⟩⟩⟩,λ a5=>⟨λ a6=>⟨?_,?_⟩,λ a6=>⟨(),⟨?_,⟨⟨rfl,⟨rfl,⟨rfl,⟨rfl,trivial⟩⟩⟩⟩,trivial⟩⟩⟩⟩⟩,λ u2=>λ a4=>⟨?_,λ a5=>λ a6=>⟨⟨0,⟨?_,⟨⟨?_,⟨rfl,⟨rfl,⟨rfl,⟨rfl,⟨?_,trivial⟩⟩⟩⟩⟩⟩,trivial⟩⟩⟩,λ k3 a7=>have U9:=eu (b9 (aH gg.bw) (aH gg.aO)) zE x.J k3;have Va:=fO (b9 (aH gg.bw) (aH gg.aO)) zE x.J k3;have Vd:=fu (b9 (aH gg.bw) (aH gg.aO)) x.J k3;have Ve:=ct zE x.J k3;have XT:=jG bd zE x.J k3;have XU:=cS bd x.J (k3+1);have XV:=nU bd x.J k3;have XW:=nJ bp zE x.J k3;have XX:=fN bp x.J (k3+1);have XY:=sa bp x.J k3;have Vb:=vv gg (x.J.getD k3 zE) (av - (1+(aw bd (x.J.take k3):Int))) (depth - 1);⟨λ a8=>⟨?_,⟨?_,⟨?_,λ a9=>⟨λ gl=>⟨?_,?_⟩,λ gl=>⟨?_,⟨k3+1,⟨?_,⟨?_,⟨⟨?_,⟨rfl,⟨rfl,⟨rfl,⟨rfl,⟨?_,trivial⟩⟩⟩⟩⟩⟩,trivial⟩⟩⟩⟩⟩⟩⟩⟩⟩,λ a8=>⟨?_,?_⟩⟩⟩⟩⟩⟩⟩⟩,λ a0=>⟨λ a1=>λ a2=>λ a3=>λ a4=>λ a5=>⟨λ a6=>⟨?_,?_⟩,λ a6=>⟨λ a7=>⟨λ a8=>λ a9=>λ gl=>⟨λ jn=>⟨?_,?_⟩,λ jn=>⟨(),⟨?_,⟨⟨rfl,⟨rfl,⟨rfl,⟨rfl,trivial⟩⟩⟩⟩,trivial⟩⟩⟩⟩,λ a8=>⟨λ a9=>λ gl=>λ jn=>⟨λ a12=>⟨?_,?_⟩,λ a12=>⟨(),⟨?_,⟨⟨rfl,⟨rfl,⟨rfl,⟨rfl,trivial⟩⟩⟩⟩,trivial⟩⟩⟩⟩,λ a9=>λ gl=>⟨λ jn=>⟨?_,?_⟩,λ jn=>⟨(),⟨?_,⟨⟨rfl,⟨rfl,⟨rfl,⟨rfl,trivial⟩⟩⟩⟩,trivial⟩⟩⟩⟩⟩⟩,λ u1=>λ a7=>⟨λ a8=>⟨λ a9=>λ gl=>⟨?_,⟨λ jn=>⟨?_,?_⟩,λ jn=>⟨(),⟨?_,⟨⟨rfl,⟨rfl,⟨rfl,⟨rfl,trivial⟩⟩⟩⟩,trivial⟩⟩⟩⟩⟩,λ a9=>⟨λ gl=>⟨?_,?_⟩,λ gl=>⟨(),⟨?_,⟨⟨rfl,⟨rfl,⟨rfl,⟨rfl,trivial⟩⟩⟩⟩,trivial⟩⟩⟩⟩⟩,λ u2=>λ a8=>⟨?_,λ a9=>λ gl=>⟨⟨0,⟨?_,⟨⟨?_,⟨rfl,⟨rfl,⟨rfl,⟨rfl,⟨?_,trivial⟩⟩⟩⟩⟩⟩,trivial⟩⟩⟩,λ k3 jn=>have U2:=eu (b9 (aH gg.bw) (aH gg.aO)) zE x.J k3;have U3:=fO (b9 (aH gg.bw) (aH gg.aO)) zE x.J k3;have U4:=fu (b9 (aH gg.bw) (aH gg.aO)) x.J k3;have U5:=ct zE x.J k3;have Yw:=jG bd zE x.J k3;have Yx:=cS bd x.J (k3+1);have Yy:=nU bd x.J k3;have Yz:=nJ bp zE x.J k3;have YA:=fN bp x.J (k3+1);have YB:=sa bp x.J k3;have WY:=vv gg (x.J.getD k3 zE) (av - (1+(aw bd (x.J.take k3):Int))) (depth - 1);⟨λ a12=>⟨?_,⟨?_,⟨?_,λ vB=>⟨λ sN=>⟨?_,?_⟩,λ sN=>⟨?_,⟨k3+1,⟨?_,⟨?_,⟨⟨?_,⟨rfl,⟨rfl,⟨rfl,⟨rfl,⟨?_,trivial⟩⟩⟩⟩⟩⟩,trivial⟩⟩⟩⟩⟩⟩⟩⟩⟩,λ a12=>⟨?_,?_⟩⟩⟩⟩⟩⟩⟩,λ a1=>⟨λ a2=>⟨?_,?_⟩,λ a2=>⟨λ a3=>⟨λ a4=>λ a5=>λ a6=>⟨λ a7=>⟨?_,?_⟩,λ a7=>⟨(),⟨?_,⟨⟨rfl,⟨rfl,⟨rfl,⟨rfl,trivial⟩⟩⟩⟩,trivial⟩⟩⟩⟩,λ a4=>⟨λ a5=>λ a6=>λ a7=>⟨λ a8=>⟨?_,?_⟩,λ a8=>⟨(),⟨?_,⟨⟨rfl,⟨rfl,⟨rfl,⟨rfl,trivial⟩⟩⟩⟩,trivial⟩⟩⟩⟩,λ a5=>λ a6=>⟨λ a7=>⟨?_,?_⟩,λ a7=>⟨(),⟨?_,⟨⟨rfl,⟨rfl,⟨rfl,⟨rfl,trivial⟩⟩⟩⟩,trivial⟩⟩⟩⟩⟩⟩,λ u1=>λ a3=>⟨λ a4=>⟨λ a5=>λ a6=>⟨?_,⟨λ a7=>⟨?_,?_⟩,λ a7=>⟨(),⟨?_,⟨⟨rfl,⟨rfl,⟨rfl,⟨rfl,trivial⟩⟩⟩⟩,trivial⟩⟩⟩⟩⟩,λ a5=>⟨λ a6=>⟨?_,?_⟩,λ a6=>⟨(),⟨?_,⟨⟨rfl,⟨rfl,⟨rfl,⟨rfl,trivial⟩⟩⟩⟩,trivial⟩⟩⟩⟩⟩,λ u2=>λ a4=>⟨?_,λ a5=>λ a6=>⟨⟨0,⟨?_,⟨⟨?_,⟨rfl,⟨rfl,⟨rfl,⟨rfl,⟨?_,trivial⟩⟩⟩⟩⟩⟩,trivial⟩⟩⟩,λ k3 a7=>have U9:=eu (b9 (aH gg.bw) (aH gg.aO)) zE x.J k3;have Va:=fO (b9 (aH gg.bw) (aH gg.aO)) zE x.J k3;have Vd:=fu (b9 (aH gg.bw) (aH gg.aO)) x.J k3;have Ve:=ct zE x.J k3;have XT:=jG bd zE x.J k3;have XU:=cS bd x.J (k3+1);have XV:=nU bd x.J k3;have XW:=nJ bp zE x.J k3;have XX:=fN bp x.J (k3+1);have XY:=sa bp x.J k3;have Vb:=vv gg (x.J.getD k3 zE) (av - (1+(aw bd (x.J.take k3):Int))) (depth - 1);⟨λ a8=>⟨?_,⟨?_,⟨?_,λ a9=>⟨λ gl=>⟨?_,?_⟩,λ gl=>⟨?_,⟨k3+1,⟨?_,⟨?_,⟨⟨?_,⟨rfl,⟨rfl,⟨rfl,⟨rfl,⟨?_,trivial⟩⟩⟩⟩⟩⟩,trivial⟩⟩⟩⟩⟩⟩⟩⟩⟩,λ a8=>⟨?_,?_⟩⟩⟩⟩⟩⟩⟩⟩⟩
 all_goals try and_intros
 all_goals try simp only[M.eta,ai.eta,aG,bo] at *
 all_goals ((try simp only[aH] at *);generalize IntKind.wrap .i64 (gg.bw - 1)=T at *;generalize IntKind.wrap .i64 (gg.aO - 1)=A at *;first|rfl|trivial|(simp only[decide_eq_true_eq,decide_eq_false_iff_not,aZ,ah] at *;omega)|(rcases fs with ⟨t1,t2,t3,t4,t5⟩|⟨t1,t4,t5⟩<;>(try rw[t4])<;>(try rw[t5])<;>clear t4 t5<;>simp only[decide_eq_true_eq,decide_eq_false_iff_not,rX,zR,Bool.and_eq_true,Bool.and_eq_false_iff,Bool.not_eq_true',Bool.not_eq_false',ah] at *<;>first|rfl|omega|grind|grind [cQ]))
theorem DJ :∀ n,aR [mw n]
 | 0=>⟨⟨aB pr rfl (by decide),λ _ _ _ _ h=>absurd h.1 (a2s _)⟩,trivial⟩
 | n+1=>by
  have ih:=DJ  n
  exact⟨Kd n ⟨ih.1,Gt,qR,qQ,trivial⟩,trivial⟩
theorem Gu :bu.Good rf :=
 ⟨aB pr rfl (by decide),λ gg x av depth hp=>(DJ  (cd x+1)).1.2 gg x av depth (⟨a2l _,hp⟩)⟩
end
end Go.Proofs.YtaaamahdcpcofaaDoor

namespace Go.Proofs.YtaaamahdcpcofaaDoor
noncomputable section
end
end Go.Proofs.YtaaamahdcpcofaaDoor

set_option maxRecDepth 4000
set_option maxHeartbeats 4000000
namespace Go.Proofs.YtaaamahdcpcofaaDoor
noncomputable section
theorem z6(gg:bb):cf gg=true↔(0<=gg.bw/\gg.bw<=3)/\(0<=gg.aO/\gg.aO<=4):=by
 simp[cf]
def J5(gg:bb)(x:M):Bool:=vN gg x 200 40
def Hc(gg:bb)(x:M):Bool:=cf gg&&J5 gg x
def E5(gg:bb)(x:M):Bool:=J5 gg x&&bJ x
def Nj(gg:bb)(x:M):Bool:=Hc gg x&&bJ x
theorem L4(gg:bb)(x:M):J5 gg x=true↔b9 (aH gg.bw) (aH gg.aO) x=true/\bd x<=200/\bp x<=40:=by
 simp only[J5,vN,a1z,a1F]
 constructor
 .rintro⟨⟨a,b⟩,c⟩;exact⟨a,by omega,by omega⟩
 .rintro⟨a,b,c⟩;exact⟨⟨a,by omega⟩,by omega⟩
theorem QB(t a t' a':Int)(h1:t<=t')(h2:a<=a')(x:M)(h:uS t a x=true):uS t' a' x=true:=by
 rw[rX] at h ⊢
 simp only[a1z] at h ⊢
 refine⟨⟨h.1.1,?_⟩,h.2⟩
 have:=h.1.2
 unfold zR at this ⊢
 split
 .rename_i e;rw[a1S e] at this;simp only[a1F] at this ⊢;omega
 .rename_i e;rw[a1B e] at this
  split
  .rename_i e';rw[a1S e'] at this;simp only[a1F] at this ⊢;omega
  .rename_i e';rw[a1B e'] at this;exact this
mutual
theorem Cx(t a t' a':Int)(h1:t<=t')(h2:a<=a'):∀ x:M,b9 t a x=true->b9 t' a' x=true
 | ⟨k,n,ks⟩=>λ h=>by
  simp only[b9,a1z] at h ⊢
  exact⟨QB t a t' a' h1 h2 _ h.1,HA t a t' a' h1 h2 ks h.2⟩
theorem HA(t a t' a':Int)(h1:t<=t')(h2:a<=a'):∀ xs:List M,Af t a xs=true->Af t' a' xs=true
 | []=>λ _=>rfl
 | x::xs=>λ h=>by
  simp only[Af,a1z] at h ⊢
  exact⟨Cx t a t' a' h1 h2 x h.1,HA t a t' a' h1 h2 xs h.2⟩
end
def nC:bu:=⟨vj,[.v (.st .sig), .v (.st .expr)],λ (gg:bb) (x:M)=>⟨(none,[⟨.bool,J5 gg x⟩])⟩⟩
def BU(gg:bb)(x:M):Nat->aW:=λ _ => .none
theorem Kk(gg:bb)(x:M):dd (bz [rf] [] [] [2,3]) (aD kL) (BU gg x) 0 (bO (bz [rf] [] [] [2,3]) kL λ r=>bR r [⟨.bool,J5 gg x⟩]) (aU kL [.val ⟨(.st .sig),gg⟩, .val ⟨(.st .expr),x⟩]) =
 (((0<=(200:Int)/\(200:Int)<=1048576/\0<=(40:Int)/\(40:Int)<=1048576)/\(ah (zZ gg x (200:Int) (40:Int)) ->
 (vN gg x (200:Int) (40:Int))=(J5 gg x)))):=by kernel_rfl
theorem J9(hE:aR [rf]):bu.Good nC:=by
 refine⟨aB Am rfl (by decide),?_⟩
 show ∀ (gg:bb) (x:M),True->bL prog vj [.val ⟨(.st .sig),gg⟩, .val ⟨(.st .expr),x⟩] (·=[⟨.bool,J5 gg x⟩])
 intro gg x _
 refine bB (wr:=[]) (cl:=[]) (ro:=[2,3]) hE Am FX (BU gg x) ?_
 rewrite [Kk gg x]
 refine⟨?_,λ a0=>?_⟩
 all_goals try and_intros
 all_goals first|rfl|trivial|omega|(simp only[a1F,a1L,aZ,ah,dD,eM,j0,fI] at *;omega)|(simp[aZ,ah] at *;omega)|grind
theorem Gq:bu.Good nC:=J9 ⟨Gu,trivial⟩
def pc:bu:=⟨xj,[.v (.st .sig), .r (.st .expr)],λ (gg:bb) (x:M)=>⟨(none,[⟨.bool,Hc gg x⟩])⟩⟩
def D3(gg:bb)(x:M):Nat->aW:=λ _ => .none
abbrev Av(gg:bb)(x:M):Prop:=(bp x<=1048576/\(ah ((bp x:Int)) ->
 (((decide (((bp x:Int))<=(40:Int)))=true ->
 (b9 (aH gg.bw) (aH gg.aO) x)=(Hc gg x))/\((decide (((bp x:Int))<=(40:Int)))=(!true) ->
 false=(Hc gg x)))))
theorem M3(gg:bb)(x:M):dd (bz [ei,pA,ov,pB] [] [] [2]) (aD mI) (D3 gg x) 0 (bO (bz [ei,pA,ov,pB] [] [] [2]) mI λ r=>bR r [⟨.bool,Hc gg x⟩]) (aU mI [.val ⟨(.st .sig),gg⟩, .ref ⟨(.st .expr),x⟩]) =
 ((((cf gg)=true ->
 ((0<=(200:Int)/\(200:Int)<=1048576)/\(ah (iH (bd x) (200:Int)) ->
 (((decide ((0:Int)<=(iH (bd x) (200:Int))))=true ->
 (Av gg x))/\((decide ((0:Int)<=(iH (bd x) (200:Int))))=(!true) ->
 ((false=true ->
 (b9 (aH gg.bw) (aH gg.aO) x)=(Hc gg x))/\(false=(!true) ->
 false=(Hc gg x))))))))/\((cf gg)=(!true) ->
 ((false=true ->
 (Av gg x))/\(false=(!true) ->
 ((false=true ->
 (b9 (aH gg.bw) (aH gg.aO) x)=(Hc gg x))/\(false=(!true) ->
 false=(Hc gg x)))))))):=by kernel_rfl
theorem Mw(hE:aR [ei,pA,ov,pB]):bu.Good pc:=by
 refine⟨aB Bk rfl (by decide),?_⟩
 show ∀ (gg:bb) (x:M),True->bL prog xj [.val ⟨(.st .sig),gg⟩, .ref ⟨(.st .expr),x⟩] (·=[⟨.bool,Hc gg x⟩])
 intro gg x _
 refine bB (wr:=[]) (cl:=[]) (ro:=[2]) hE Bk HW (D3 gg x) ?_
 rewrite [M3 gg x]
 have f1:=pJ (bd x) 200
 have f2:=Gd x
 have f3:Hc gg x=(cf gg&&(b9 (aH gg.bw) (aH gg.aO) x&&decide ((bd x:Int)<=200)&&decide ((bp x:Int)<=40))):=rfl
 refine⟨λ a0=>⟨?_,λ a1=>⟨λ a2=>⟨?_,λ a3=>⟨λ a4=>?_,λ a4=>?_⟩⟩,λ a2=>⟨λ a3=>?_,λ a3=>?_⟩⟩⟩,λ a0=>⟨λ a1=>⟨?_,λ a2=>⟨λ a3=>?_,λ a3=>?_⟩⟩,λ a1=>⟨λ a2=>?_,λ a2=>?_⟩⟩⟩
 all_goals try and_intros
 all_goals try rw[f3]
 all_goals first|rfl|trivial|omega|(simp only[a1F,a1L,a2k,a2Q] at *;omega)|grind
theorem Ie:bu.Good pc:=Mw ⟨qS,EJ,Dp,EK,trivial⟩
def iz:bu:=⟨oY,[.v (.st .sig), .v (.st .expr)],λ (gg:bb) (x:M)=>⟨(none,[⟨.bool,E5 gg x⟩])⟩⟩
def tV(gg:bb)(x:M):Nat->aW:=λ _ => .none
theorem Cz(gg:bb)(x:M):dd (bz [nC,eN] [] [] [2,3]) (aD fY) (tV gg x) 0 (bO (bz [nC,eN] [] [] [2,3]) fY λ r=>bR r [⟨.bool,E5 gg x⟩]) (aU fY [.val ⟨(.st .sig),gg⟩, .val ⟨(.st .expr),x⟩]) =
 ((((J5 gg x)=true ->
 (bJ x)=(E5 gg x))/\((J5 gg x)=(!true) ->
 false=(E5 gg x)))):=by kernel_rfl
theorem Cl(hE:aR [nC,eN]):bu.Good iz:=by
 refine⟨aB sP rfl (by decide),?_⟩
 show ∀ (gg:bb) (x:M),True->bL prog oY [.val ⟨(.st .sig),gg⟩, .val ⟨(.st .expr),x⟩] (·=[⟨.bool,E5 gg x⟩])
 intro gg x _
 refine bB (wr:=[]) (cl:=[]) (ro:=[2,3]) hE sP za (tV gg x) ?_
 rewrite [Cz gg x]
 refine⟨λ a0=>?_,λ a0=>?_⟩
 all_goals try and_intros
 all_goals first|rfl|trivial|(simp_all [E5];done)
theorem zu:bu.Good iz:=Cl ⟨Gq,qQ,trivial⟩
def mq:bu:=⟨tK,[.v (.st .sig), .r (.st .expr)],λ (gg:bb) (x:M)=>⟨(none,[⟨.bool,Nj gg x⟩])⟩⟩
def AE(gg:bb)(x:M):Nat->aW:=λ _ => .none
theorem IV(gg:bb)(x:M):dd (bz [pc,eh] [] [] [2]) (aD jz) (AE gg x) 0 (bO (bz [pc,eh] [] [] [2]) jz λ r=>bR r [⟨.bool,Nj gg x⟩]) (aU jz [.val ⟨(.st .sig),gg⟩, .ref ⟨(.st .expr),x⟩]) =
 ((((Hc gg x)=true ->
 (bJ x)=(Nj gg x))/\((Hc gg x)=(!true) ->
 false=(Nj gg x)))):=by kernel_rfl
theorem IF(hE:aR [pc,eh]):bu.Good mq:=by
 refine⟨aB xW rfl (by decide),?_⟩
 show ∀ (gg:bb) (x:M),True->bL prog tK [.val ⟨(.st .sig),gg⟩, .ref ⟨(.st .expr),x⟩] (·=[⟨.bool,Nj gg x⟩])
 intro gg x _
 refine bB (wr:=[]) (cl:=[]) (ro:=[2]) hE xW Ey (AE gg x) ?_
 rewrite [IV gg x]
 refine⟨λ a0=>?_,λ a0=>?_⟩
 all_goals try and_intros
 all_goals first|rfl|trivial|(simp_all [Nj];done)
theorem EM:bu.Good mq:=IF ⟨Ie,qd,trivial⟩
end
end Go.Proofs.YtaaamahdcpcofaaDoor

set_option maxRecDepth 4000
set_option maxHeartbeats 4000000
namespace Go.Proofs.YtaaamahdcpcofaaDoor
open Go.RowKit Go.Proofs
theorem Qg:(Tryd.prog.info? 89).map (·.size)=some 2:=by kernel_rfl
theorem Vg:liesAt Tryd.prog Tryd.prog.depth 89 (2 / Tryd.prog.cellsOf 89) 0 89 1=true:=by kernel_rfl
theorem Vf:(Tryd.prog.info? 5).map (λ i=>(i.zero,i.size,i.bytes))=some (some (.int .u8 0),1,1):=by kernel_rfl
def kH(b:Nat)(w w':World):Prop:=∀ k cs T fz,w.heap[k]?=some (.cells cs T fz)->T≠5->k≠b->w'.heap[k]?=w.heap[k]?
theorem kH.refl(b:Nat)(w:World):kH b w w:=λ _ _ _ _ _ _ _=>rfl
theorem kH.trans{b:Nat}{w w1 w2:World}(h:kH b w w1)(k:kH b w1 w2):kH b w w2:=λ i cs T fz hi hT hb=>by
 have e:=h i cs T fz hi hT hb
 rw[k i cs T fz (e.trans hi) hT hb,e]
theorem kH.setCell{b:Nat}{w w1:World}(h:kH b w w1)(o:Nat)(v:Value):kH b w (w1.setCell ⟨b,o,none⟩ v):=λ i cs T fz hi hT hb=>by
 rw[Below.heap_setCell w1 _ v i hb]
 exact h i cs T fz hi hT hb
theorem wJ{w:World}{k:Nat}{x:Obj}(h:w.heap[k]?=some x):k<w.heap.size:=by
 rcases a2B k w.heap.size with h'|h'
 .exact h'
 .simp[a2P h'] at h
theorem kH.alloc{b:Nat}{w w1:World}(h:kH b w w1)(o:Obj):kH b w (w1.alloc o):=λ i cs T fz hi hT hb=>by
 have e:=h i cs T fz hi hT hb
 rw[<-e]
 exact Lib.alloc_old w1 o i (wJ (e.trans hi))
set_option maxRecDepth 100000 in
theorem JT(b:Nat)(w:World)(h0:w.cell? ⟨b,0,none⟩=some (.pointer (some ⟨b,0,none⟩))) :
  Calls Tryd.prog 77 #[.pointer (some ⟨b,0,none⟩)] w λ e w'=>e = .returned (.tuple #[])/\w'=w:=by
 obtain⟨j,hj,_⟩:=a2r.1 Qg
 go_enter Tryd.func77,Tryd.ntmps77
 go_wp2
 rw[Lib.run_neq_ptr_same w _ Tryd.underlying86 hj]
 go_wp2
 go_end0
 exact⟨rfl,rfl⟩
set_option maxRecDepth 100000 in
theorem H3(b:Nat)(w:World)(h0:w.cell? ⟨b,0,none⟩=some (.pointer none))(Dv:w.shape? b=some (89,2))(hfz:w.frozen? ⟨b,0,none⟩=false) :
  Calls Tryd.prog 77 #[.pointer (some ⟨b,0,none⟩)] w λ e w'=>e = .returned (.tuple #[])/\w'=w.setCell ⟨b,0,none⟩ (.pointer (some ⟨b,0,none⟩)):=by
 obtain⟨j,hj,hjs⟩:=a2r.1 Qg
 go_enter Tryd.func77,Tryd.ntmps77
 go_wp2
 rw[Lib.run_to_unsafe w ⟨b,0,none⟩ Tryd.underlying86 Tryd.underlying117 hj (by rw[hjs];decide) Dv (Nat.zero_lt_succ 1)]
 simp only[Result.andThen]
 rw[a5f]
 go_wp2
 rw[run_callFunc_extern Tryd.func85 (by kernel_rfl) (by kernel_rfl) (by kernel_rfl) (e:=Extern.AbiNoEscape.same) (by kernel_rfl)]
 rw[Lib.run_noEscape]
 simp only[Result.andThen]
 rw[a5f]
 go_wp2
 rw[Lib.run_from_unsafe w ⟨b,0,none⟩ Tryd.underlying117 Tryd.underlying86 hj Dv Vg]
 simp only[Result.andThen]
 rw[a5f]
 go_wp2
 go_end0
 exact⟨rfl,rfl⟩
theorem RP(B b:Nat)(bs:List Value)(w:World)(h:Lib.IsBuilder 89 5 B b bs w) :
  Calls Tryd.prog 77 #[.pointer (some ⟨b,0,none⟩)] w λ e w'=>e = .returned (.tuple #[])/\(Lib.BuilderAt 89 5 B b (.pointer (some ⟨b,0,none⟩)) bs w'/\Below B w w'/\kH b w w'):=by
 rcases h with h|h
 .refine (H3 b w h.cell0 h.shape h.frozen0).mono ?_
  rintro e w' ⟨rfl,rfl⟩
  exact⟨rfl,h.used _,(a4U B w).setCell (p:=⟨b,0,none⟩) h.1 _,(kH.refl b w).setCell 0 _⟩
 .refine (JT b w h.cell0).mono ?_
  rintro e w' ⟨rfl,rfl⟩
  exact⟨rfl,h,a4U B _,kH.refl b _⟩
set_option maxRecDepth 100000 in
theorem writeString(B b:Nat)(bs:List Value)(s:ByteArray)(w:World)(h:Lib.IsBuilder 89 5 B b bs w)(hlen:bs.length+s.size<=140737488355328)(kk:B<=w.heap.size) :
  Calls Tryd.prog 67 #[.pointer (some ⟨b,0,none⟩), .string s] w λ e w'=>e = .returned (.tuple #[.int .i64 s.size, .nilIface])/\(Lib.IsBuilder 89 5 B b (bs++Lib.strCells s) w'/\Below B w w'/\kH b w w'):=by
 obtain⟨i0,hi,hz⟩:=a2r.1 Vf
 simp only[a1y] at hz
 obtain⟨hz0,Xr,Zu⟩:=hz
 go_enter Tryd.func67,Tryd.ntmps67
 go_wp2_with (go_at_call 77;refine (RP B b bs _ h).mono ?_)
 rintro e w1 ⟨rfl,h1,zx,Ij⟩
 obtain⟨hB,v,Xa,sY,fP⟩:=h1
 have c0:w1.cell? ⟨b,0,none⟩=some (.pointer (some ⟨b,0,none⟩)):=by rw[a4n Xa];rfl
 have c1:w1.cell? ⟨b,1,none⟩=some v:=by rw[a4n Xa];rfl
 go_wp2_with (at_builtin;refine Lib.wpList_append_own_string _ rfl _ _ 87 9 rfl B 5 i0 Tryd.underlying87 Tryd.underlying9 hi hz0 Xr Zu _ _ _ rfl sY s rfl ?c3 ?c4 ?c5 ?_)
 case c3=>unfold maxLen;omega
 case c4=>omega
 case c5=>have:=zx.size;omega
 intro v' w2 VV Sc _
 have bC:b<w1.heap.size:=wJ Xa
 have ET:w2.heap[b]?=some (.cells #[.pointer (some ⟨b,0,none⟩),v] 89 (0,0)):=by
  rw[Sc.block b bC (λ e=>fP e.symm)]
  exact Xa
 have d0:w2.cell? ⟨b,0,none⟩=some (.pointer (some ⟨b,0,none⟩)):=by rw[a4n ET];rfl
 have d1:w2.cell? ⟨b,1,none⟩=some v:=by rw[a4n ET];rfl
 have f1:w2.frozen? ⟨b,1,none⟩=false:=Lib.frozen_of_heap ET 1
 have hk2:kH b w1 w2:=λ i cs T fz hi hT hib=>Sc.block i (wJ hi) λ e=>by
  rcases sY.2 with ⟨hv,_⟩|⟨g,cap,cur,hv,_,hg,_⟩
  .rw[hv] at e;cases e
  .rw[hv] at e
   injection e with e
   subst e
   rw[hg] at hi
   simp only[a1w,Obj.cells.injEq] at hi
   exact hT hi.2.1.symm
 obtain⟨ao,n',cap,rfl⟩:∃ ao n' cap,v' = .slice ao n' cap:=by
  rcases VV.2 with ⟨hv,_⟩|⟨g,cap,cur,hv,_⟩
  .exact⟨_,_,_,hv⟩
  .exact⟨_,_,_,hv⟩
 go_wp2
 go_ret2
 refine⟨rfl,?_,?_,?_⟩
 .exact Or.inr (Lib.BuilderAt.put (T:=89) (e:=5) hB ET (bs':=bs++Lib.strCells s) (by simpa [Lib.strCells_length] using VV) (by decide))
 .exact (zx.grown Sc (by have:=zx.size;omega) (λ k hk=>(sY.lt k hk).1)).setCell (p:=⟨b,1,none⟩) hB _
 .exact (Ij.trans hk2).setCell 1 _
end Go.Proofs.YtaaamahdcpcofaaDoor

namespace Go.Proofs
open Go.Shelf
def Tryd.GX:Go.Shelf.Ren:=⟨λ|169=>58|n=>n,λ|70=>86|9=>9|0=>0|72=>89|37=>87|127=>97|3=>3|5=>5|n=>n,λ|n=>n⟩
theorem Tryd.We:Go.Proofs.Lays.n169 Tryd.prog Tryd.GX:={
 mixed:=by kernel_rfl
 f169:=Tryd.func58.trans (congrArg some (by kernel_rfl))
 t0:=Tryd.underlying0
 a0:=Tryd.isAgg0
 z0:=Tryd.sizeOf0
 v0:=Tryd.zeroValue0
 t3:=Tryd.underlying3
 a3:=Tryd.isAgg3
 z3:=Tryd.sizeOf3
 v3:=Tryd.zeroValue3
 t9:=Tryd.underlying9
 a9:=Tryd.isAgg9
 z9:=Tryd.sizeOf9
 v9:=Tryd.zeroValue9
 t37:=Tryd.underlying87
 a37:=Tryd.isAgg87
 z37:=Tryd.sizeOf87
 v37:=Tryd.zeroValue87
 t70:=Tryd.underlying86
 a70:=Tryd.isAgg86
 z70:=Tryd.sizeOf86
 v70:=Tryd.zeroValue86
 t72:=Tryd.underlying89
 a72:=Tryd.isAgg89
 z72:=Tryd.sizeOf89
 v72:=Tryd.zeroValue89
 t127:=Tryd.underlying97
 a127:=Tryd.isAgg97
 z127:=Tryd.sizeOf97
 v127:=Tryd.zeroValue97 }
theorem Tryd.Ek:Builder.Extra Tryd.prog Tryd.GX:={
 sizeBuilder:=by kernel_rfl
 liesBuilder:=by kernel_rfl
 t5:=Tryd.underlying5
 a5:=Tryd.isAgg5
 z5:=Tryd.sizeOf5
 v5:=Tryd.zeroValue5
 infoByte:=by kernel_rfl
 cellsByte:=by kernel_rfl
 sizeByte:=by kernel_rfl
 neB5:=by decide }
open Go.RowKit in
theorem Tryd.Builder_String_any(B b:Nat)(l:List UInt8)(w:World)(h:Lib.IsBuilder 89 5 B b (Lib.byteCells l) w)(kk:B<=w.heap.size) :
  Calls Tryd.prog 58 #[.pointer (some ⟨b,0,none⟩)] w λ e w'=>e = .returned (.string ⟨l.toArray⟩)/\Below B w w':=Any.Builder_String_any Tryd.We Tryd.Ek B b l w h kk
def Tryd.Pt:Go.Shelf.Ren:=⟨λ|246=>66|283=>73|284=>74|285=>75|286=>76|129=>81|317=>80|318=>82|319=>83|320=>84|337=>86|338=>87|n=>n,λ|2=>2|3=>3|9=>9|4=>4|171=>103|0=>0|53=>104|37=>87|5=>5|173=>107|212=>111|51=>112|20=>20|213=>113|46=>115|232=>120|233=>121|n=>n,λ|17=>0|18=>1|19=>2|n=>n⟩
theorem Tryd.Wf:Go.Proofs.Lays.n246 Tryd.prog Tryd.Pt:={
 mixed:=by kernel_rfl
 f129:=Tryd.func81.trans (congrArg some (by kernel_rfl))
 f246:=Tryd.func66.trans (congrArg some (by kernel_rfl))
 f283:=Tryd.func73.trans (congrArg some (by kernel_rfl))
 f284:=Tryd.func74.trans (congrArg some (by kernel_rfl))
 f285:=Tryd.func75.trans (congrArg some (by kernel_rfl))
 f286:=Tryd.func76.trans (congrArg some (by kernel_rfl))
 f317:=Tryd.func80.trans (congrArg some (by kernel_rfl))
 f318:=Tryd.func82.trans (congrArg some (by kernel_rfl))
 f319:=Tryd.func83.trans (congrArg some (by kernel_rfl))
 f320:=Tryd.func84.trans (congrArg some (by kernel_rfl))
 f337:=Tryd.func86.trans (congrArg some (by kernel_rfl))
 f338:=Tryd.func87.trans (congrArg some (by kernel_rfl))
 t0:=Tryd.underlying0
 a0:=Tryd.isAgg0
 z0:=Tryd.sizeOf0
 v0:=Tryd.zeroValue0
 t2:=Tryd.underlying2
 a2:=Tryd.isAgg2
 z2:=Tryd.sizeOf2
 v2:=Tryd.zeroValue2
 t3:=Tryd.underlying3
 a3:=Tryd.isAgg3
 z3:=Tryd.sizeOf3
 v3:=Tryd.zeroValue3
 t4:=Tryd.underlying4
 a4:=Tryd.isAgg4
 z4:=Tryd.sizeOf4
 v4:=Tryd.zeroValue4
 t5:=Tryd.underlying5
 a5:=Tryd.isAgg5
 z5:=Tryd.sizeOf5
 v5:=Tryd.zeroValue5
 t9:=Tryd.underlying9
 a9:=Tryd.isAgg9
 z9:=Tryd.sizeOf9
 v9:=Tryd.zeroValue9
 t20:=Tryd.underlying20
 a20:=Tryd.isAgg20
 z20:=Tryd.sizeOf20
 v20:=Tryd.zeroValue20
 t37:=Tryd.underlying87
 a37:=Tryd.isAgg87
 z37:=Tryd.sizeOf87
 v37:=Tryd.zeroValue87
 t46:=Tryd.underlying115
 a46:=Tryd.isAgg115
 z46:=Tryd.sizeOf115
 v46:=Tryd.zeroValue115
 t51:=Tryd.underlying112
 a51:=Tryd.isAgg112
 z51:=Tryd.sizeOf112
 v51:=Tryd.zeroValue112
 t53:=Tryd.underlying104
 a53:=Tryd.isAgg104
 z53:=Tryd.sizeOf104
 v53:=Tryd.zeroValue104
 t171:=Tryd.underlying103
 a171:=Tryd.isAgg103
 z171:=Tryd.sizeOf103
 v171:=Tryd.zeroValue103
 t173:=Tryd.underlying107
 a173:=Tryd.isAgg107
 z173:=Tryd.sizeOf107
 v173:=Tryd.zeroValue107
 t212:=Tryd.underlying111
 a212:=Tryd.isAgg111
 z212:=Tryd.sizeOf111
 v212:=Tryd.zeroValue111
 t213:=Tryd.underlying113
 a213:=Tryd.isAgg113
 z213:=Tryd.sizeOf113
 t232:=Tryd.underlying120
 a232:=Tryd.isAgg120
 z232:=Tryd.sizeOf120
 v232:=Tryd.zeroValue120
 t233:=Tryd.underlying121
 a233:=Tryd.isAgg121
 z233:=Tryd.sizeOf121
 v233:=Tryd.zeroValue121
 g17:=by kernel_rfl
 g18:=by kernel_rfl
 g19:=by kernel_rfl }
open Go.RowKit Go.Sort Go.Lib in
theorem Tryd.internal_strconv_FormatInt_10_small(i:Nat)(hi:i<100)(w:World) :
  Calls Tryd.prog 66 #[.int .i64 i, .int .i64 10] w λ e w'=>e = .returned (.string ⟨(Lib.decDigits i).toArray⟩)/\w'=w:=Any.internal_strconv_FormatInt_10_small Tryd.Wf i hi w
end Go.Proofs

set_option maxRecDepth 4000
set_option maxHeartbeats 4000000
namespace Go.Proofs.YtaaamahdcpcofaaDoor
open Go.RowKit Go.Proofs
theorem K7{B b:Nat}{p:Value}{bs:List Value}{w:World}(h:Lib.BuilderAt 89 5 B b p bs w)(o:Obj):Lib.BuilderAt 89 5 B b p bs (w.alloc o):=by
 obtain⟨hB,v,hb,sY,fP⟩:=h
 exact⟨hB,v,by rw[Lib.alloc_old w o b (wJ hb)];exact hb,sY.alloc _,fP⟩
abbrev tZ(B b:Nat)(l:List UInt8)(w:World):Prop:=Lib.IsBuilder 89 5 B b (Lib.byteCells l) w
theorem nB{B b:Nat}{l:List UInt8}{w:World}(h:tZ B b l w)(o:Obj):tZ B b l (w.alloc o):=h.imp (λ h=>K7 h o) (λ h=>K7 h o)
theorem GW{B b:Nat}{l:List UInt8}{w:World}(h:tZ B b l w):b<w.heap.size:=by
 rcases h with h|h<;>exact h.lt
theorem qc{B:Nat}{w:World}(h:B<=w.heap.size)(o:Obj):B<=(w.alloc o).heap.size:=by simp;omega
theorem ya{b:Nat}{w w1:World}{cs:Array Value}(h:kH b (w.alloc (.cells cs 26)) w1)(hb:b<w.heap.size)(j:Nat){v:Value}(hj:cs[j]?=some v):w1.cell? ⟨w.heap.size,j,none⟩=some v:=by
 have e:=h w.heap.size cs 26 (0,0) (a4b w _) (by decide) (by omega)
 rw[a4e (a:=⟨w.heap.size,j,none⟩) e,a4n (a4b w _)]
 exact hj
structure Wr(B b:Nat)(l t:List UInt8)(w w':World):Prop where
 Iq:tZ B b (l++t) w'
 oP:Below B w w'
 aQ:kH b w w'
theorem Wr.trans{B b:Nat}{l t u:List UInt8}{w w1 w2:World}(h:Wr B b l t w w1)(k:Wr B b (l++t) u w1 w2):Wr B b l (t++u) w w2 :=
 ⟨by rw[<-a2t];exact k.Iq,h.oP.trans k.oP,h.aQ.trans k.aQ⟩
theorem Wr.alloc{B b:Nat}{l t:List UInt8}{w w1:World}{o:Obj}(h:Wr B b l t (w.alloc o) w1)(kk:B<=w.heap.size):Wr B b l t w w1 :=
 ⟨h.Iq,((a4U B w).alloc kk _).trans h.oP,((kH.refl b w).alloc _).trans h.aQ⟩
theorem ws(B b:Nat)(l:List UInt8)(s:ByteArray)(w:World)(h:tZ B b l w)(hlen:l.length+s.data.toList.length<=140737488355328)(kk:B<=w.heap.size) :
  Calls Tryd.prog 67 #[.pointer (some ⟨b,0,none⟩), .string s] w λ e w'=>e = .returned (.tuple #[.int .i64 s.size, .nilIface])/\Wr B b l s.data.toList w w':=by
 refine (writeString B b _ s w h (by simpa [Lib.byteCells_length] using hlen) kk).mono ?_
 rintro e w' ⟨rfl,h1,h2,h3⟩
 refine⟨rfl,?_,h2,h3⟩
 have:Lib.byteCells l++Lib.strCells s=Lib.byteCells (l++s.data.toList):=by simp[Lib.byteCells,Lib.strCells]
 rw[tZ,<-this];exact h1
abbrev C2(B b:Nat)(v:Value)(l t:List UInt8)(w:World):Prop :=
 Calls Tryd.prog 57 #[.pointer (some ⟨b,0,none⟩),v] w λ e w'=>e = .returned (.tuple #[])/\Wr B b l t w w'
set_option maxRecDepth 100000 in
theorem Ia(i:Nat)(hi:i<100)(w:World) :
  Calls Tryd.prog 56 #[.int .i64 i, .int .i64 10] w λ e w'=>e = .returned (.string ⟨(Lib.decDigits i).toArray⟩)/\w'=w:=by
 go_enter Tryd.func56,Tryd.ntmps56
 go_wp2_with (go_at_call 66;refine (Tryd.internal_strconv_FormatInt_10_small i hi _).mono ?_)
 rintro e w1 ⟨he,hw⟩;subst he hw
 go_wp2
 go_ret
 exact⟨rfl,rfl⟩
set_option maxRecDepth 100000 in
theorem uG(i:Nat)(hi:i<100)(w:World) :
  Calls Tryd.prog 37 #[.int .i64 i] w λ e w'=>e = .returned (.string ⟨(Lib.decDigits i).toArray⟩)/\w'=w:=by
 go_enter Tryd.func37,Tryd.ntmps37
 go_wp2_with (go_at_call 56;refine (Ia i hi _).mono ?_)
 rintro e w1 ⟨he,hw⟩;subst he hw
 go_wp2
 go_ret
 exact⟨rfl,rfl⟩
set_option maxRecDepth 100000 in
theorem we1(B b:Nat)(l:List UInt8)(n:Int)(sl:Value)(w:World)(h:tZ B b l w)(hlen:l.length+1<=140737488355328)(kk:B<=w.heap.size) :
  C2 B b (.agg #[.int .i64 1, .int .i64 n,sl]) l [48] w:=by
 go_enter Tryd.func57,Tryd.ntmps57
 go_wp2_with (go_at_call 67;refine (ws B b l _ _ (nB h _) (by exact hlen) (qc kk _)).mono ?_)
 intro e w1 he h1;subst he
 go_wp2
 go_end0
 exact⟨rfl,h1.alloc kk⟩
set_option maxRecDepth 100000 in
theorem we2(B b:Nat)(l:List UInt8)(n:Int)(sl:Value)(w:World)(h:tZ B b l w)(hlen:l.length+1<=140737488355328)(kk:B<=w.heap.size) :
  C2 B b (.agg #[.int .i64 2, .int .i64 n,sl]) l [49] w:=by
 go_enter Tryd.func57,Tryd.ntmps57
 go_wp2_with (go_at_call 67;refine (ws B b l _ _ (nB h _) (by exact hlen) (qc kk _)).mono ?_)
 intro e w1 he h1;subst he
 go_wp2
 go_end0
 exact⟨rfl,h1.alloc kk⟩
set_option maxRecDepth 100000 in
theorem we3(B b:Nat)(l:List UInt8)(i:Nat)(hi:i<100)(sl:Value)(w:World)(h:tZ B b l w)(hlen:l.length+((Lib.decDigits i).length+1)<=140737488355328)(kk:B<=w.heap.size) :
  C2 B b (.agg #[.int .i64 3, .int .i64 i,sl]) l (116::Lib.decDigits i) w:=by
 go_enter Tryd.func57,Tryd.ntmps57
 go_wp2_with (go_at_call 37;refine (uG i hi _).mono ?_)
 rintro e w1 ⟨he,hw⟩;subst he hw
 go_wp2_with (go_at_call 67;refine (ws B b l _ _ (nB h _) (by simp;omega) (qc kk _)).mono ?_)
 rintro e w1 ⟨he,h1⟩;subst he
 go_wp2
 go_end0
 exact⟨rfl,by simpa using h1.alloc kk⟩
set_option maxRecDepth 100000 in
theorem we4(B b:Nat)(l:List UInt8)(i:Nat)(hi:i<100)(sl:Value)(w:World)(h:tZ B b l w)(hlen:l.length+((Lib.decDigits i).length+1)<=140737488355328)(kk:B<=w.heap.size) :
  C2 B b (.agg #[.int .i64 4, .int .i64 i,sl]) l (97::Lib.decDigits i) w:=by
 go_enter Tryd.func57,Tryd.ntmps57
 go_wp2_with (go_at_call 37;refine (uG i hi _).mono ?_)
 rintro e w1 ⟨he,hw⟩;subst he hw
 go_wp2_with (go_at_call 67;refine (ws B b l _ _ (nB h _) (by simp;omega) (qc kk _)).mono ?_)
 rintro e w1 ⟨he,h1⟩;subst he
 go_wp2
 go_end0
 exact⟨rfl,by simpa using h1.alloc kk⟩
set_option maxRecDepth 100000 in
theorem we5(B b:Nat)(l t:List UInt8)(n:Int)(kb ko cap:Nat)(c0 c1 c2:Value)(w:World)(h:tZ B b l w)(hlen:l.length+(t.length+1)<=140737488355328)(kk:B<=w.heap.size)
  (ui:∀ w1,Below B w w1->∀ j v,[c0,c1,c2][j]?=some v->w1.cell? ⟨kb,ko+0+j,none⟩=some v)
  (So:∀ w1 l1,Below B w w1->tZ B b l1 w1->B<=w1.heap.size->l1.length+t.length<=140737488355328->C2 B b (.agg #[c0,c1,c2]) l1 t w1)
  : C2 B b (.agg #[.int .i64 5, .int .i64 n, .slice (some ⟨kb,ko,none⟩) 1 cap]) l (126::t) w:=by
 go_enter Tryd.func57,Tryd.ntmps57
 go_wp2_with (go_at_call 67;refine (ws B b l _ _ (nB h _) (by simp;omega) (qc kk _)).mono ?_)
 intro e w1 he h1;subst he
 have WZ:=ya h1.aQ (GW h) 2 rfl
 have ZJ:w1.cell? ⟨kb,ko,none⟩=some c0:=by simpa [Nat.add_assoc] using ui w1 (h1.alloc kk).oP 0 _ rfl
 have ZK:w1.cell? ⟨kb,ko+1,none⟩=some c1:=by simpa [Nat.add_assoc] using ui w1 (h1.alloc kk).oP 1 _ rfl
 have ZL:w1.cell? ⟨kb,ko+2,none⟩=some c2:=by simpa [Nat.add_assoc] using ui w1 (h1.alloc kk).oP 2 _ rfl
 go_wp2_with (go_at_call 57;refine (So w1 _ (h1.alloc kk).oP h1.Iq (by have:=(h1.alloc kk).oP.size;omega) (by simp;omega)).mono ?_)
 rintro e w2 ⟨he,h2⟩;subst he
 go_wp2
 go_end0
 exact⟨rfl,((h1.alloc kk).trans h2)⟩
set_option maxRecDepth 100000 in
theorem we8(B b:Nat)(l t:List UInt8)(n:Int)(kb ko cap:Nat)(c0 c1 c2:Value)(w:World)(h:tZ B b l w)(hlen:l.length+(t.length+1)<=140737488355328)(kk:B<=w.heap.size)
  (ui:∀ w1,Below B w w1->∀ j v,[c0,c1,c2][j]?=some v->w1.cell? ⟨kb,ko+0+j,none⟩=some v)
  (So:∀ w1 l1,Below B w w1->tZ B b l1 w1->B<=w1.heap.size->l1.length+t.length<=140737488355328->C2 B b (.agg #[c0,c1,c2]) l1 t w1)
  : C2 B b (.agg #[.int .i64 8, .int .i64 n, .slice (some ⟨kb,ko,none⟩) 1 cap]) l (t++[42]) w:=by
 have Ii:Below B w (w.alloc (.cells #[.int .i64 8, .int .i64 n, .slice (some ⟨kb,ko,none⟩) 1 cap] 26)):=(a4U B w).alloc kk _
 have ZJ:(w.alloc (.cells #[.int .i64 8, .int .i64 n, .slice (some ⟨kb,ko,none⟩) 1 cap] 26)).cell? ⟨kb,ko,none⟩=some c0:=by simpa [Nat.add_assoc] using ui (w.alloc (.cells #[.int .i64 8, .int .i64 n, .slice (some ⟨kb,ko,none⟩) 1 cap] 26)) Ii 0 _ rfl
 have ZK:(w.alloc (.cells #[.int .i64 8, .int .i64 n, .slice (some ⟨kb,ko,none⟩) 1 cap] 26)).cell? ⟨kb,ko+1,none⟩=some c1:=by simpa [Nat.add_assoc] using ui (w.alloc (.cells #[.int .i64 8, .int .i64 n, .slice (some ⟨kb,ko,none⟩) 1 cap] 26)) Ii 1 _ rfl
 have ZL:(w.alloc (.cells #[.int .i64 8, .int .i64 n, .slice (some ⟨kb,ko,none⟩) 1 cap] 26)).cell? ⟨kb,ko+2,none⟩=some c2:=by simpa [Nat.add_assoc] using ui (w.alloc (.cells #[.int .i64 8, .int .i64 n, .slice (some ⟨kb,ko,none⟩) 1 cap] 26)) Ii 2 _ rfl
 go_enter Tryd.func57,Tryd.ntmps57
 go_wp2_with (go_at_call 57;refine (So _ _ Ii (nB h _) (qc kk _) (by omega)).mono ?_)
 rintro e w1 ⟨he,h1⟩;subst he
 go_wp2_with (go_at_call 67;refine (ws B b _ _ _ h1.Iq (by simp;omega) (by have:=(h1.alloc kk).oP.size;omega)).mono ?_)
 intro e w2 he h2;subst he
 go_wp2
 go_end0
 exact⟨rfl,((h1.alloc kk).trans h2)⟩
set_option maxRecDepth 100000 in
theorem we6(B b:Nat)(l t u:List UInt8)(n:Int)(kb ko cap:Nat)(c0 c1 c2 d0 d1 d2:Value)(w:World)(h:tZ B b l w)(hlen:l.length+(t.length+u.length+5)<=140737488355328)(kk:B<=w.heap.size)
  (ui:∀ w1,Below B w w1->∀ j v,[c0,c1,c2][j]?=some v->w1.cell? ⟨kb,ko+0+j,none⟩=some v)
  (So:∀ w1 l1,Below B w w1->tZ B b l1 w1->B<=w1.heap.size->l1.length+t.length<=140737488355328->C2 B b (.agg #[c0,c1,c2]) l1 t w1)
  (Ij:∀ w1,Below B w w1->∀ j v,[d0,d1,d2][j]?=some v->w1.cell? ⟨kb,ko+3+j,none⟩=some v)
  (Zw:∀ w1 l1,Below B w w1->tZ B b l1 w1->B<=w1.heap.size->l1.length+u.length<=140737488355328->C2 B b (.agg #[d0,d1,d2]) l1 u w1)
  : C2 B b (.agg #[.int .i64 6, .int .i64 n, .slice (some ⟨kb,ko,none⟩) 2 cap]) l ([40]++(t++([32,43,32]++(u++[41])))) w:=by
 go_enter Tryd.func57,Tryd.ntmps57
 go_wp2_with (go_at_call 67;refine (ws B b l _ _ (nB h _) (by simp;omega) (qc kk _)).mono ?_)
 intro e w1 he h1;subst he
 have e1:=ya h1.aQ (GW h) 2 rfl
 have ZJ:w1.cell? ⟨kb,ko,none⟩=some c0:=by simpa [Nat.add_assoc] using ui w1 (h1.alloc kk).oP 0 _ rfl
 have ZK:w1.cell? ⟨kb,ko+1,none⟩=some c1:=by simpa [Nat.add_assoc] using ui w1 (h1.alloc kk).oP 1 _ rfl
 have ZL:w1.cell? ⟨kb,ko+2,none⟩=some c2:=by simpa [Nat.add_assoc] using ui w1 (h1.alloc kk).oP 2 _ rfl
 have g1:=h1.alloc kk
 have s1:B<=w1.heap.size:=by have:=g1.oP.size;omega
 go_wp2_with (go_at_call 57;refine (So w1 _ g1.oP h1.Iq s1 (by simp;omega)).mono ?_)
 rintro e w2 ⟨he,h2⟩;subst he
 have s2:B<=w2.heap.size:=by have:=h2.oP.size;omega
 go_wp2_with (go_at_call 67;refine (ws B b _ _ _ h2.Iq (by simp;omega) s2).mono ?_)
 intro e w3 he h3;subst he
 have e3:=ya (h1.aQ.trans (h2.aQ.trans h3.aQ)) (GW h) 2 rfl
 have g3:=g1.oP.trans (h2.oP.trans h3.oP)
 have ZM:w3.cell? ⟨kb,ko+3,none⟩=some d0:=by simpa [Nat.add_assoc] using Ij w3 g3 0 _ rfl
 have ZN:w3.cell? ⟨kb,ko+4,none⟩=some d1:=by simpa [Nat.add_assoc] using Ij w3 g3 1 _ rfl
 have q12:w3.cell? ⟨kb,ko+5,none⟩=some d2:=by simpa [Nat.add_assoc] using Ij w3 g3 2 _ rfl
 have s3:B<=w3.heap.size:=by have:=h3.oP.size;omega
 go_wp2_with (go_at_call 57;refine (Zw w3 _ g3 h3.Iq s3 (by simp;omega)).mono ?_)
 rintro e w4 ⟨he,h4⟩;subst he
 have s4:B<=w4.heap.size:=by have:=h4.oP.size;omega
 go_wp2_with (go_at_call 67;refine (ws B b _ _ _ h4.Iq (by simp;omega) s4).mono ?_)
 intro e w5 he h5;subst he
 go_wp2
 go_end0
 have j2:Wr B b (l++[40]) t w1 w2:=by simpa using h2
 have j3:Wr B b (l++[40]++t) [32,43,32] w2 w3:=by simpa using h3
 have j4:Wr B b (l++[40]++t++[32,43,32]) u w3 w4:=by simpa using h4
 have j5:Wr B b (l++[40]++t++[32,43,32]++u) [41] w4 w5:=by simpa using h5
 exact⟨rfl,g1.trans (j2.trans (j3.trans (j4.trans j5)))⟩
set_option maxRecDepth 100000 in
theorem we7(B b:Nat)(l t u:List UInt8)(n:Int)(kb ko cap:Nat)(c0 c1 c2 d0 d1 d2:Value)(w:World)(h:tZ B b l w)(hlen:l.length+(t.length+u.length+3)<=140737488355328)(kk:B<=w.heap.size)
  (ui:∀ w1,Below B w w1->∀ j v,[c0,c1,c2][j]?=some v->w1.cell? ⟨kb,ko+0+j,none⟩=some v)
  (So:∀ w1 l1,Below B w w1->tZ B b l1 w1->B<=w1.heap.size->l1.length+t.length<=140737488355328->C2 B b (.agg #[c0,c1,c2]) l1 t w1)
  (Ij:∀ w1,Below B w w1->∀ j v,[d0,d1,d2][j]?=some v->w1.cell? ⟨kb,ko+3+j,none⟩=some v)
  (Zw:∀ w1 l1,Below B w w1->tZ B b l1 w1->B<=w1.heap.size->l1.length+u.length<=140737488355328->C2 B b (.agg #[d0,d1,d2]) l1 u w1)
  : C2 B b (.agg #[.int .i64 7, .int .i64 n, .slice (some ⟨kb,ko,none⟩) 2 cap]) l ([40]++(t++([32]++(u++[41])))) w:=by
 go_enter Tryd.func57,Tryd.ntmps57
 go_wp2_with (go_at_call 67;refine (ws B b l _ _ (nB h _) (by simp;omega) (qc kk _)).mono ?_)
 intro e w1 he h1;subst he
 have e1:=ya h1.aQ (GW h) 2 rfl
 have ZJ:w1.cell? ⟨kb,ko,none⟩=some c0:=by simpa [Nat.add_assoc] using ui w1 (h1.alloc kk).oP 0 _ rfl
 have ZK:w1.cell? ⟨kb,ko+1,none⟩=some c1:=by simpa [Nat.add_assoc] using ui w1 (h1.alloc kk).oP 1 _ rfl
 have ZL:w1.cell? ⟨kb,ko+2,none⟩=some c2:=by simpa [Nat.add_assoc] using ui w1 (h1.alloc kk).oP 2 _ rfl
 have g1:=h1.alloc kk
 have s1:B<=w1.heap.size:=by have:=g1.oP.size;omega
 go_wp2_with (go_at_call 57;refine (So w1 _ g1.oP h1.Iq s1 (by simp;omega)).mono ?_)
 rintro e w2 ⟨he,h2⟩;subst he
 have s2:B<=w2.heap.size:=by have:=h2.oP.size;omega
 go_wp2_with (go_at_call 67;refine (ws B b _ _ _ h2.Iq (by simp;omega) s2).mono ?_)
 intro e w3 he h3;subst he
 have e3:=ya (h1.aQ.trans (h2.aQ.trans h3.aQ)) (GW h) 2 rfl
 have g3:=g1.oP.trans (h2.oP.trans h3.oP)
 have ZM:w3.cell? ⟨kb,ko+3,none⟩=some d0:=by simpa [Nat.add_assoc] using Ij w3 g3 0 _ rfl
 have ZN:w3.cell? ⟨kb,ko+4,none⟩=some d1:=by simpa [Nat.add_assoc] using Ij w3 g3 1 _ rfl
 have q12:w3.cell? ⟨kb,ko+5,none⟩=some d2:=by simpa [Nat.add_assoc] using Ij w3 g3 2 _ rfl
 have s3:B<=w3.heap.size:=by have:=h3.oP.size;omega
 go_wp2_with (go_at_call 57;refine (Zw w3 _ g3 h3.Iq s3 (by simp;omega)).mono ?_)
 rintro e w4 ⟨he,h4⟩;subst he
 have s4:B<=w4.heap.size:=by have:=h4.oP.size;omega
 go_wp2_with (go_at_call 67;refine (ws B b _ _ _ h4.Iq (by simp;omega) s4).mono ?_)
 intro e w5 he h5;subst he
 go_wp2
 go_end0
 have j2:Wr B b (l++[40]) t w1 w2:=by simpa using h2
 have j3:Wr B b (l++[40]++t) [32] w2 w3:=by simpa using h3
 have j4:Wr B b (l++[40]++t++[32]) u w3 w4:=by simpa using h4
 have j5:Wr B b (l++[40]++t++[32]++u) [41] w4 w5:=by simpa using h5
 exact⟨rfl,g1.trans (j2.trans (j3.trans (j4.trans j5)))⟩
end Go.Proofs.YtaaamahdcpcofaaDoor

set_option maxRecDepth 4000
set_option maxHeartbeats 4000000
namespace Go.Proofs.YtaaamahdcpcofaaDoor
noncomputable section
open Go.RowKit Go.Proofs
def od(n:Int):List UInt8:=Lib.decDigits n.toNat
def Np(k n:Int)(p q:List UInt8):List UInt8:=if k=1 then [48] else if k=2 then [49] else if k=3 then 116::od n else if k=4 then 97::od n else if k=5 then 126::p
 else if k=6 then [40]++(p++([32,43,32]++(q++[41]))) else if k=7 then [40]++(p++([32]++(q++[41]))) else p++[42]
mutual
def br:M->List UInt8
 | ⟨k,n,ks⟩=>Np k n ((JM ks).getD 0 []) ((JM ks).getD 1 [])
def JM:List M->List (List UInt8)
 | []=>[]
 | k::ks=>br k::JM ks
end
theorem pX(z:M):∀ (xs:List M) (i:Nat),i<xs.length->(JM xs).getD i []=br (xs.getD i z)
 | [],i,h=>by simp at h
 | x::xs,0,h=>by simp[JM]
 | x::xs,i+1,h=>by
  have:=pX z xs i (by simpa using h)
  simpa [JM] using this
theorem XO(x:M):br x=Np x.af x.al ((JM x.J).getD 0 []) ((JM x.J).getD 1 []):=by
 cases x;rfl
def dx(x:M):Bool:=b9 9 9 x
def wi(x:M)(i:Nat):Prop:=dx (x.J.getD i zE)=true/\cd (x.J.getD i zE)<cd x
theorem uM(x:M)(h:dx x=true)(i:Nat)(hi:i<x.J.length):wi x i:=by
 unfold wi
 simp only[dx] at h ⊢
 rw[qL] at h
 simp only[a1z] at h
 refine⟨HR _ _ _ _ hi h.2,?_⟩
 have:=ct (zE:M) x.J i hi
 have:=ly x
 omega
theorem iB(x:M)(h:dx x=true):((x.af=3\/x.af=4)->0<=x.al/\x.al<=9) /\
  ((x.af=5\/x.af=8)->x.J.length=1/\wi x 0)/\((x.af=6\/x.af=7)->x.J.length=2/\wi x 0/\wi x 1) /\
  (x.af=1\/x.af=2\/x.af=3\/x.af=4\/x.af=5\/x.af=6\/x.af=7\/x.af=8):=by
 have hk:=uM x h
 simp only[dx] at h
 rw[qL,rX] at h
 simp only[a1z,a1F] at h
 obtain⟨⟨⟨h1,h2⟩,_⟩,_⟩:=h
 refine⟨λ e=>?_,λ e=>?_,λ e=>?_,?_⟩
 .rcases e with e|e<;>simpa [zR,e] using h2
 .have TQ:x.J.length=1:=by
   rcases e with e|e<;>rw[e] at h1<;>simp[cQ] at h1<;>omega
  exact⟨TQ,hk 0 (by omega)⟩
 .have TQ:x.J.length=2:=by
   rcases e with e|e<;>rw[e] at h1<;>simp[cQ] at h1<;>omega
  exact⟨TQ,hk 0 (by omega),hk 1 (by omega)⟩
 .unfold cQ at h1
  split at h1
  .omega
  .split at h1
   .omega
   .split at h1<;>omega
theorem dN(x:M)(h:dx x=true):(x.af=1->br x=[48])/\(x.af=2->br x=[49])/\(x.af=3->br x=116::od x.al)/\(x.af=4->br x=97::od x.al) /\
  (x.af=5->br x=126::br (x.J.getD 0 zE)) /\
  (x.af=6->br x=[40]++(br (x.J.getD 0 zE)++([32,43,32]++(br (x.J.getD 1 zE)++[41])))) /\
  (x.af=7->br x=[40]++(br (x.J.getD 0 zE)++([32]++(br (x.J.getD 1 zE)++[41])))) /\
  (x.af=8->br x=br (x.J.getD 0 zE)++[42]):=by
 have hf:=iB x h
 rw[XO]
 refine⟨λ e=>?_,λ e=>?_,λ e=>?_,λ e=>?_,λ e=>?_,λ e=>?_,λ e=>?_,λ e=>?_⟩
 .simp[Np,e]
 .simp[Np,e]
 .simp[Np,e]
 .simp[Np,e]
 .have:=(hf.2.1 (.inl e)).1
  rw[pX zE x.J 0 (by omega)];simp[Np,e]
 .have:=(hf.2.2.1 (.inl e)).1
  rw[pX zE x.J 0 (by omega),pX zE x.J 1 (by omega)];simp[Np,e]
 .have:=(hf.2.2.1 (.inr e)).1
  rw[pX zE x.J 0 (by omega),pX zE x.J 1 (by omega)];simp[Np,e]
 .have:=(hf.2.1 (.inr e)).1
  rw[pX zE x.J 0 (by omega)];simp[Np,e]
theorem Gf(n:Int)(h:0<=n/\n<=9):(od n).length=1:=by
 unfold od
 rw[Lib.decDigits_one (by omega)];rfl
theorem Yn(f:M->Nat)(z:M)(xs:List M)(h:xs.length=2):aw f xs=f (xs.getD 0 z)+f (xs.getD 1 z):=by
 match xs,h with
 | [a,b],_=>simp[aw]
theorem Ym(f:M->Nat)(z:M)(xs:List M)(h:xs.length=1):aw f xs=f (xs.getD 0 z):=by
 match xs,h with
 | [a],_=>simp[aw]
theorem tu:∀ (N:Nat) (x:M),cd x<N->dx x=true->(br x).length<=5 * bd x
 | 0,x,h,_=>by omega
 | N+1,x,hN,h=>by
  have hf:=iB x h
  have ht:=dN x h
  have hn:=Fb x
  rcases hf.2.2.2 with e|e|e|e|e|e|e|e
  .rw[ht.1 e];simp;omega
  .rw[ht.2.1 e];simp;omega
  .rw[ht.2.2.1 e];have:=Gf _ (hf.1 (.inl e));simp;omega
  .rw[ht.2.2.2.1 e];have:=Gf _ (hf.1 (.inr e));simp;omega
  .rw[ht.2.2.2.2.1 e]
   obtain⟨hl,h0⟩:=hf.2.1 (.inl e)
   have i0:=tu N _ (by have:=h0.2;omega) h0.1
   rw[Ym _ zE _ hl] at hn
   simp only[a1M];omega
  .rw[ht.2.2.2.2.2.1 e]
   obtain⟨hl,h0,h1⟩:=hf.2.2.1 (.inl e)
   have i0:=tu N _ (by have:=h0.2;omega) h0.1
   have i1:=tu N _ (by have:=h1.2;omega) h1.1
   rw[Yn _ zE _ hl] at hn
   simp only[a1T,a1M,a2b];omega
  .rw[ht.2.2.2.2.2.2.1 e]
   obtain⟨hl,h0,h1⟩:=hf.2.2.1 (.inr e)
   have i0:=tu N _ (by have:=h0.2;omega) h0.1
   have i1:=tu N _ (by have:=h1.2;omega) h1.1
   rw[Yn _ zE _ hl] at hn
   simp only[a1T,a1M,a2b];omega
  .rw[ht.2.2.2.2.2.2.2 e]
   obtain⟨hl,h0⟩:=hf.2.1 (.inr e)
   have i0:=tu N _ (by have:=h0.2;omega) h0.1
   rw[Ym _ zE _ hl] at hn
   simp only[a1T,a1M,a2b];omega
theorem Ri{w:World}{S:Nat->Prop}{x:M}{cs:List Value}(h:Rd w S x.aT cs):∃ a cap,cs=[.int .i64 x.af, .int .i64 x.al, .slice a x.J.length cap] /\
  (x.J=[]\/∃ b o,a=some ⟨b,o,none⟩/\S b/\dJ w S (x.J.map M.aT) b o):=by
 cases x with
 | mk k n ks =>
  simp only[M.aT,Rd,dB] at h
  obtain⟨v0,r0,rfl,⟨h0,_⟩,v1,r1,rfl,⟨h1,_⟩,v2,r2,rfl,⟨a,cap,h2,_,_,_,h3⟩,rfl⟩:=h
  simp only[a1C,a1H] at h0 h1 h2
  subst h0 h1 h2
  rw[M.tq] at *
  refine⟨a,cap,by simp,h3.imp (λ h=>by simpa using h) id⟩
theorem XI{w:World}{S:Nat->Prop}{x:M}{b o:Nat}(h:dJ w S (x.J.map M.aT) b o)(i:Nat)(hi:i<x.J.length) :
  ∃ c0 c1 c2,Rd w S (x.J.getD i zE).aT [c0,c1,c2]/\dk w b (o+3 * i) [c0,c1,c2]:=by
 obtain⟨cs,h1,h2,h3⟩:=dJ.at_ (n:=3) _ b o h (λ d hd=>by
  obtain⟨y,_,rfl⟩:=a1D.1 hd
  cases y;rfl) i (x.J.getD i zE).aT (by simp[a3d,a2j,a2m hi])
 match cs,h1 with
 | [c0,c1,c2],_=>exact⟨c0,c1,c2,h2,by rw[Nat.mul_comm];exact h3⟩
theorem Ei(B b:Nat)(S:Nat->Prop)(hS:∀ k,S k->k<B):∀ (N:Nat) (x:M),cd x<N->dx x=true->∀ (l:List UInt8) (w:World) (cs:List Value),tZ B b l w->B<=w.heap.size ->
  l.length+(br x).length<=140737488355328->Rd w S x.aT cs->C2 B b (.agg cs.toArray) l (br x) w
 | 0,x,h,_=>by omega
 | N+1,x,hN,h=>by
  intro l w cs hI hB hl hr
  have hf:=iB x h
  have ht:=dN x h
  obtain⟨a,cap,rfl,hk⟩:=Ri hr
  have Dx:∀ i,i<x.J.length->wi x i->∃ kb ko c0 c1 c2,a=some ⟨kb,ko,none⟩/\(∀ j,j≠i->True)/\(∀ w1,Below B w w1->∀ j v,[c0,c1,c2][j]?=some v->w1.cell? ⟨kb,ko+3 * i+j,none⟩=some v) /\
    (∀ w1 l1,Below B w w1->tZ B b l1 w1->B<=w1.heap.size->l1.length+(br (x.J.getD i zE)).length<=140737488355328->C2 B b (.agg #[c0,c1,c2]) l1 (br (x.J.getD i zE)) w1):=by
   intro i hi hg
   rcases hk with hk|⟨kb,ko,rfl,hSk,lJ⟩
   .rw[hk] at hi;simp at hi
   .obtain⟨c0,c1,c2,h1,h2⟩:=XI lJ i hi
    refine⟨kb,ko,c0,c1,c2,rfl,λ _ _=>trivial,λ w1 hw j v hj=>?_,λ w1 l1 hw hI1 hB1 VK=>?_⟩
    .exact h2.aQ (hw.block kb (hS kb hSk)) j v hj
    .exact Ei B b S hS N _ (by have:=hg.2;omega) hg.1 l1 w1 [c0,c1,c2] hI1 hB1 VK (h1.aQ (λ _ h=>h) (λ k hk=>hw.block k (hS k hk)))
  rcases hf.2.2.2 with e|e|e|e|e|e|e|e
  .rw[ht.1 e] at hl ⊢;rw[e];exact we1 B b l _ _ w hI hl hB
  .rw[ht.2.1 e] at hl ⊢;rw[e];exact we2 B b l _ _ w hI hl hB
  .have hn:=hf.1 (.inl e)
   rw[ht.2.2.1 e] at hl ⊢;rw[e,show x.al=((x.al.toNat:Nat):Int) by omega];exact we3 B b l _ (by omega) _ w hI (by simpa [od] using hl) hB
  .have hn:=hf.1 (.inr e)
   rw[ht.2.2.2.1 e] at hl ⊢;rw[e,show x.al=((x.al.toNat:Nat):Int) by omega];exact we4 B b l _ (by omega) _ w hI (by simpa [od] using hl) hB
  .obtain⟨hn,h0⟩:=hf.2.1 (.inl e)
   obtain⟨kb,ko,c0,c1,c2,rfl,_,q1,q2⟩:=Dx 0 (by omega) h0
   rw[ht.2.2.2.2.1 e] at hl ⊢;rw[e,hn];exact we5 B b l _ _ kb ko cap c0 c1 c2 w hI (by simpa using hl) hB q1 q2
  .obtain⟨hn,h0,h1⟩:=hf.2.2.1 (.inl e)
   obtain⟨kb,ko,c0,c1,c2,rfl,_,q1,q2⟩:=Dx 0 (by omega) h0
   obtain⟨kb',ko',d0,d1,d2,eq,_,p1,p2⟩:=Dx 1 (by omega) h1
   cases eq
   rw[ht.2.2.2.2.2.1 e] at hl ⊢;rw[e,hn];exact we6 B b l _ _ _ kb ko cap c0 c1 c2 d0 d1 d2 w hI (by simp at hl ⊢;omega) hB q1 q2 p1 p2
  .obtain⟨hn,h0,h1⟩:=hf.2.2.1 (.inr e)
   obtain⟨kb,ko,c0,c1,c2,rfl,_,q1,q2⟩:=Dx 0 (by omega) h0
   obtain⟨kb',ko',d0,d1,d2,eq,_,p1,p2⟩:=Dx 1 (by omega) h1
   cases eq
   rw[ht.2.2.2.2.2.2.1 e] at hl ⊢;rw[e,hn];exact we7 B b l _ _ _ kb ko cap c0 c1 c2 d0 d1 d2 w hI (by simp at hl ⊢;omega) hB q1 q2 p1 p2
  .obtain⟨hn,h0⟩:=hf.2.1 (.inr e)
   obtain⟨kb,ko,c0,c1,c2,rfl,_,q1,q2⟩:=Dx 0 (by omega) h0
   rw[ht.2.2.2.2.2.2.2 e] at hl ⊢;rw[e,hn];exact we8 B b l _ _ kb ko cap c0 c1 c2 w hI (by simpa using hl) hB q1 q2
def rh:bu:=⟨Cd,[.v (.st .expr)],λ (x:M)=>⟨(some (dx x=true/\(br x).length<=1000000),[⟨.str,br x⟩])⟩⟩
set_option maxRecDepth 100000 in
theorem PT(x:M)(w:World)(S:Nat->Prop)(hS:∀ b,S b->b<w.heap.size)(hg:dx x=true)(hl:(br x).length<=1000000)(cs:List Value)(hr:Rd w S x.aT cs) :
  Calls Tryd.prog 38 #[.agg cs.toArray] w λ e w'=>e = .returned (.string ⟨(br x).toArray⟩)/\Below w.heap.size w w':=by
 obtain⟨a,cap,rfl,hk⟩:=Ri hr
 have hI:∀ o:Obj,tZ (w.heap.size+1) (w.heap.size+1) [] ((w.alloc o).alloc (.cells #[.pointer none, .slice none 0 0] 89)):=λ o=>by
  have:=Lib.fresh_isBuilder 89 5 (w.alloc o)
  rw[show (w.alloc o).heap.size=w.heap.size+1 by simp] at this
  exact this
 have hB:∀ o p:Obj,w.heap.size+1<=((w.alloc o).alloc p).heap.size:=λ o p=>by simp
 have hw:∀ o p:Obj,Below w.heap.size w ((w.alloc o).alloc p):=λ o p=>((a4U _ w).alloc (a2u _) o).alloc (by simp) p
 go_enter Tryd.func38,Tryd.ntmps38
 go_wp2_with (go_at_call 57;refine (Ei (w.heap.size+1) (w.heap.size+1) S (λ k hk=>Nat.lt_succ_of_lt (hS k hk)) (cd x+1) x (a2l _) hg [] _ _ (hI _) (hB _ _) (by simp;omega) (hr.aQ (λ _ h=>h) (λ k hk=>(hw _ _).block k (hS k hk)))).mono ?_)
 rintro e w1 ⟨he,h1⟩;subst he
 have b1:Below w.heap.size w w1:=(hw _ _).trans (h1.oP.mono (a5h _))
 have g1:tZ (w.heap.size+1) (w.heap.size+1) (br x) w1:=by simpa using h1.Iq
 have z1:w.heap.size+1<=w1.heap.size:=a4a (hB _ _) h1.oP.size
 clear h1
 go_wp2_with (go_at_call 58;refine (Tryd.Builder_String_any (w.heap.size+1) (w.heap.size+1) (br x) w1 g1 z1).mono ?_)
 rintro e w2 ⟨he,h2⟩;subst he
 go_wp2
 go_ret
 exact⟨rfl,b1.trans (h2.mono (a5h _))⟩
theorem OS{w w':World}(h:Below w.heap.size w w'):cP (λ _=>False) w w':=⟨h.os,h.tape,h.output,h.size,λ b hb _=>h.block b hb⟩
theorem Tq{w:World}{S:Nat->Prop}(l:List UInt8)(h:l.length<=140737488355328):fM w S ⟨.str,l⟩ (.string ⟨l.toArray⟩) :=
 ⟨⟨l.toArray⟩,rfl,by simp,by simpa [ByteArray.size] using h⟩
theorem Gv:bu.Good rh:=by
 refine⟨aB JP rfl (by decide),?_⟩
 intro x hp w S dc ⟨hS,_⟩ ha
 match dc,ha with
 | [v],ha =>
  obtain⟨⟨cs,rfl,hr⟩,_⟩:=ha
  refine (PT x w S hS hp.1 hp.2 cs hr).mono ?_
  rintro e w' ⟨rfl,hb⟩
  exact⟨_,S,_,rfl,rfl,OS hb,λ _ _=>a3G,λ b h=>a2c (hS b h) hb.size,Tq (w:=w') (S:=S) _ (by have:=hp.2;omega)⟩
def pz:bu:=⟨AL,[.v (.int .i64)],λ (n:Int)=>⟨(some (0<=n/\n<=9),[⟨.str,od n⟩])⟩⟩
theorem EH:bu.Good pz:=by
 refine⟨aB HS rfl (by decide),?_⟩
 intro (n:Int) hp w S dc ⟨hS,_⟩ ha
 match dc,ha with
 | [v],ha =>
  obtain⟨⟨hv,_⟩,_⟩:=ha
  simp only[a1C,a1H] at hv
  have hp:0<=n/\n<=9:=hp
  subst hv
  have:=uG n.toNat (by omega) w
  rw[show ((n.toNat:Nat):Int)=n by omega] at this
  refine this.mono ?_
  rintro e w' ⟨rfl,rfl⟩
  exact⟨_,S,_,rfl,rfl,cP.refl _ _,λ _ _=>a3G,hS,Tq (w:=w') (S:=S) (od n) (by rw[Gf n hp];decide)⟩
def tk(x:M)(i:Nat):M:=x.J.getD i zE
structure TK(x:M)(i:Nat):Prop where
 kt:dx (x.J.getD i zE)=true
 less:cd (x.J.getD i zE)<cd x
 len:(br (x.J.getD i zE)).length<=(br x).length
end
end Go.Proofs.YtaaamahdcpcofaaDoor



set_option maxRecDepth 4000
set_option maxHeartbeats 4000000
namespace Go.Proofs.YtaaamahdcpcofaaDoor
noncomputable section
open Go.RowKit Go.Proofs
def bt(n:Int):UInt8:=UInt8.ofNat n.toNat
def cZ:bu:=⟨fK,[.v .str, .v .str],λ (s:List UInt8) (p:List UInt8)=>⟨(none,[⟨.bool,decide (p.length<=s.length)&&decide (s.take p.length=p)⟩])⟩⟩
def jo(s:List UInt8)(p:List UInt8):Nat->aW:=λ _ => .none
theorem pY(s:List UInt8)(p:List UInt8):dd (bz []) (aD cA) (jo s p) 0 (bO (bz []) cA λ r=>bR r [⟨.bool,decide (p.length<=s.length)&&decide (s.take p.length=p)⟩]) (aU cA [.val ⟨.str,s⟩, .val ⟨.str,p⟩]) =
 ((ah ((s.length:Int)) ->
 (ah ((p.length:Int)) ->
 (((decide (((p.length:Int))<=((s.length:Int))))=true ->
 (ah ((p.length:Int)) ->
 (eM (0:Int) ((p.length:Int)) s.length/\(decide (((s.take (Int.toNat ((p.length:Int)))).drop 0)=p))=(decide (p.length<=s.length)&&decide (s.take p.length=p)))))/\((decide (((p.length:Int))<=((s.length:Int))))=(!true) ->
 false=(decide (p.length<=s.length)&&decide (s.take p.length=p))))))):=by kernel_rfl
theorem pS(hE:aR []):bu.Good cZ:=by
 refine⟨aB jb rfl (by decide),?_⟩
 show ∀ (s:List UInt8) (p:List UInt8),True->bL prog fK [.val ⟨.str,s⟩, .val ⟨.str,p⟩] (·=[⟨.bool,decide (p.length<=s.length)&&decide (s.take p.length=p)⟩])
 intro s p _
 refine bB (wr:=[]) (cl:=[]) (ro:=[]) hE jb oQ (jo s p) ?_
 rewrite [pY s p]
 refine λ a0=>λ a1=>⟨λ a2=>λ a3=>⟨?_,?_⟩,λ a2=>?_⟩
 all_goals try and_intros
 all_goals first|rfl|trivial|omega|(simp only[a1F,a1L,aZ,ah,eM,fI,a1T,a1M,a2b] at *;first|omega|grind)|grind
theorem oR:bu.Good cZ:=pS trivial
def gS:bu:=⟨nN,[.v .str, .v .str],λ (s:List UInt8) (p:List UInt8)=>⟨(none,[⟨.bool,decide (p.length<=s.length)&&decide (s.take p.length=p)⟩])⟩⟩
def s8(s:List UInt8)(p:List UInt8):Nat->aW:=λ _ => .none
theorem A7(s:List UInt8)(p:List UInt8):dd (bz [cZ]) (aD fA) (s8 s p) 0 (bO (bz [cZ]) fA λ r=>bR r [⟨.bool,decide (p.length<=s.length)&&decide (s.take p.length=p)⟩]) (aU fA [.val ⟨.str,s⟩, .val ⟨.str,p⟩]) =
 ((decide (p.length<=s.length)&&decide (s.take p.length=p))=(decide (p.length<=s.length)&&decide (s.take p.length=p))):=by kernel_rfl
theorem A1(hE:aR [cZ]):bu.Good gS:=by
 refine⟨aB rJ rfl (by decide),?_⟩
 show ∀ (s:List UInt8) (p:List UInt8),True->bL prog nN [.val ⟨.str,s⟩, .val ⟨.str,p⟩] (·=[⟨.bool,decide (p.length<=s.length)&&decide (s.take p.length=p)⟩])
 intro s p _
 refine bB (wr:=[]) (cl:=[]) (ro:=[]) hE rJ x9 (s8 s p) ?_
 rewrite [A7 s p]
 refine ?_
 all_goals try and_intros
 all_goals first|rfl|trivial|omega|(simp only[a1F,a1L,aZ,ah,dD,eM,j0,fI] at *;omega)|(simp[aZ,ah] at *;omega)|grind
theorem yj:bu.Good gS:=A1 ⟨oR,trivial⟩
end
end Go.Proofs.YtaaamahdcpcofaaDoor

set_option maxRecDepth 4000
set_option maxHeartbeats 4000000
namespace Go.Proofs.YtaaamahdcpcofaaDoor
noncomputable section
def gm(b:UInt8):Bool:=decide (48<=b.toNat)&&decide (b.toNat<=57)
def gW(s:List UInt8):Int:=s.foldl (λ n b=>n * 10+((b.toNat:Int) - 48)) 0
def j9(m:Int)(s:List UInt8):Bool:=decide (1<=s.length)&&decide ((s.length:Int)<=m) && !(decide (1<s.length)&&decide ((s.getD 0 0).toNat=48))&&cG gm s
def ia(m:Int)(s:List UInt8):Int:=bif j9 m s then gW s else 0
theorem Lj(s:List UInt8)(k:Nat)(h:k<s.length):gW (s.take (k+1))=gW (s.take k) * 10+(((s.getD k 0).toNat:Int) - 48):=by
 rw[nW 0 s k h]
 simp[gW,List.foldl_append]
theorem Qn:∀ (k:Nat) (s:List UInt8),k<=s.length->cG gm (s.take k)=true->0<=gW (s.take k)/\gW (s.take k)<10 ^ k
 | 0,s,_,_=>by simp[gW]
 | k+1,s,h,ha=>by
  have h1:=eu gm 0 s k (by omega)
  rw[ha] at h1
  have TQ:=h1.symm
  simp only[a1z] at TQ
  obtain⟨h2,h3⟩:=TQ
  have ih:=Qn k s (by omega) h2
  rw[Lj s k (by omega)]
  simp only[gm,a1z,a1F] at h3
  have:(10:Int) ^ (k+1)=10 ^ k * 10:=by rw[Int.pow_succ]
  omega
theorem Qo(s:List UInt8)(k:Nat)(h:k<=s.length)(h9:s.length<=9)(ha:cG gm (s.take k)=true):0<=gW (s.take k)/\gW (s.take k)<=1000000000:=by
 have:=Qn k s h ha
 have h2:(10:Int) ^ k<=10 ^ 9:=by
  have:(10:Nat) ^ k<=10 ^ 9:=Nat.pow_le_pow_right (by decide) (by omega)
  exact_mod_cast this
 omega
theorem Tb(s:List UInt8)(k:Nat):gm (s.getD k 0)=(decide (48<=(s.getD k 0).toNat)&&decide ((s.getD k 0).toNat<=57)):=rfl
theorem XQ:IntKind.u8.min=0:=rfl
theorem XP:IntKind.u8.max=255:=rfl
theorem Sp(n:Int):dD .u8 n↔0<=n/\n<=255:=a3G
theorem Pp(n:Int):dD .i64 n↔ah n:=a3G
theorem yP(m:Int)(s:List UInt8):j9 m s=(decide (1<=s.length)&&decide ((s.length:Int)<=m) && !(decide (1<s.length)&&decide ((s.getD 0 0).toNat=48))&&cG gm s):=rfl
theorem To(m:Int)(s:List UInt8)(h:¬ (1<=s.length/\(s.length:Int)<=m/\¬ (1<s.length/\(s.getD 0 0).toNat=48))):ia m s=0/\j9 m s=false:=by
 have e:j9 m s=false:=by
  cases hb:j9 m s with
  | false=>rfl
  | true =>
   rw[yP] at hb
   simp only[a1z,a1F,a2k,a4d,a1L] at hb
   exact absurd ⟨hb.1.1.1,hb.1.1.2,λ h=>by rcases hb.1.2 with g|g<;>omega⟩ h
 exact⟨by simp[ia,e],e⟩
structure Ch(m:Int)(s:List UInt8)(k:Nat):Prop where
 len:k<=s.length/\s.length<=9
 ok:1<=s.length/\(s.length:Int)<=m/\¬ (1<s.length/\(s.getD 0 0).toNat=48)
 all:cG gm (s.take k)=true
theorem Ul(m:Int)(s:List UInt8)(h:1<=s.length/\(s.length:Int)<=m/\¬ (1<s.length/\(s.getD 0 0).toNat=48))(hm:m<=9):Ch m s 0 :=
 ⟨⟨by omega,by omega⟩,h,by simp[cG]⟩
theorem Q5(m:Int)(s:List UInt8)(k:Nat)(h:Ch m s k)(hk:k<s.length)(hb:(s.getD k 0).toNat<48\/57<(s.getD k 0).toNat):ia m s=0/\j9 m s=false:=by
 have e:cG gm s=false:=fO gm 0 s k hk (by rw[Tb,a4d,a1L,a1L];omega)
 have e':j9 m s=false:=by rw[yP,e];simp
 exact⟨by simp[ia,e'],e'⟩
theorem Ix(m:Int)(s:List UInt8)(k:Nat)(h:Ch m s k)(hk:k<s.length)(h1:48<=(s.getD k 0).toNat)(h2:(s.getD k 0).toNat<=57):Ch m s (k+1)/\gW (s.take (k+1))=gW (s.take k) * 10+(((s.getD k 0).toNat:Int) - 48) :=
 ⟨⟨⟨hk,h.len.2⟩,h.ok,by rw[eu gm 0 s k hk,h.all,Tb,a2v h1,a2v h2];rfl⟩,Lj s k hk⟩
theorem Q6(m:Int)(s:List UInt8)(k:Nat)(h:Ch m s k)(hk:s.length<=k):ia m s=gW (s.take k)/\j9 m s=true:=by
 have e:s.take k=s:=a2F hk
 have ha:=h.all
 rw[e] at ha
 have e':j9 m s=true:=by
  rw[yP,ha]
  have:=h.ok
  simp only[a1z,a1F,a2k,a4d,a1L]
  exact⟨⟨⟨this.1,this.2.1⟩,(a2B 1 s.length).elim (λ g => .inr (by omega)) (λ g => .inl (by omega))⟩,trivial⟩
 exact⟨by rw[e];simp[ia,e'],e'⟩
theorem XF(m:Int)(s:List UInt8)(k:Nat)(h:Ch m s k):k<=s.length/\0<=gW (s.take k)/\gW (s.take k)<=1000000000 :=
 ⟨h.len.1,Qo s k h.len.1 h.len.2 h.all⟩
def jR:bu:=⟨ry,[.v .str],λ (s:List UInt8)=>⟨(none,[⟨(.int .i64),ia 9 s⟩,⟨.bool,j9 9 s⟩])⟩⟩
def wF(s:List UInt8):Nat->aW:=(λ zb=>if Nat.beq zb 0 then .mk (Nat) (λ k=>Ch 9 s k) (λ k=>s.length - k) [] [1,6,7,8,9,10,11,12,13,14,15,16,17,18,19,20,21,22,23] (λ k=>[(5, .az ⟨(.int .i64),((k:Int):Int)⟩),(4, .az ⟨(.int .i64),(gW (s.take k):Int)⟩)]) [0,2,3,4,5,24,25,26,27,28,29,30,31,32,33,34,35,36,37,38,39,40,41,42,43,44,45,46,47,48] (λ k=>[]) [] [] (λ k=>λ _ => .none) else .none)
abbrev tS(s:List UInt8)(k1:Nat):Prop:=(ah ((gW (s.take k1)) * (10:Int))/\(aZ (k1:Int) s.length/\(dD .u8 ((((s.getD k1 0).toNat:Int)) - (48:Int))/\(ah ((((s.getD k1 0).toNat:Int)) - (48:Int))/\(ah (((gW (s.take k1)) * (10:Int))+((((s.getD k1 0).toNat:Int)) - (48:Int)))/\(ah ((k1:Int)+(1:Int))/\(∃ k2:Nat,(Ch 9 s k2/\(s.length - k2<s.length - k1/\((s=s/\((((gW (s.take k1)) * (10:Int))+((((s.getD k1 0).toNat:Int)) - (48:Int)))=(gW (s.take k2))/\(((k1:Int)+(1:Int))=(k2:Int)/\True)))/\True))))))))))
abbrev kA(s:List UInt8):Prop:=((∃ k1:Nat,(Ch 9 s k1/\((s=s/\((0:Int)=(gW (s.take k1))/\((0:Int)=(k1:Int)/\True)))/\True)))/\(∀ k1:Nat,(Ch 9 s k1 ->
 (ah ((s.length:Int)) ->
 (((decide ((k1:Int)<((s.length:Int))))=true ->
 (aZ (k1:Int) s.length/\(((decide ((((s.getD k1 0).toNat:Int))<(48:Int)))=false ->
 (aZ (k1:Int) s.length/\(((decide ((57:Int)<(((s.getD k1 0).toNat:Int))))=true ->
 ((0:Int)=(ia 9 s)/\false=(j9 9 s)))/\((decide ((57:Int)<(((s.getD k1 0).toNat:Int))))=false ->
 (tS s k1)))))/\((decide ((((s.getD k1 0).toNat:Int))<(48:Int)))=(!false) ->
 ((true=true ->
 ((0:Int)=(ia 9 s)/\false=(j9 9 s)))/\(true=false ->
 (tS s k1)))))))/\((decide ((k1:Int)<((s.length:Int))))=false ->
 ((gW (s.take k1))=(ia 9 s)/\true=(j9 9 s))))))))
abbrev tT(s:List UInt8):Prop:=(aZ (0:Int) s.length/\(((decide ((((s.getD 0 0).toNat:Int))=(48:Int)))=true ->
 (ah ((s.length:Int)) ->
 (((decide ((1:Int)<((s.length:Int))))=true ->
 ((0:Int)=(ia 9 s)/\false=(j9 9 s)))/\((decide ((1:Int)<((s.length:Int))))=false ->
 (kA s)))))/\((decide ((((s.getD 0 0).toNat:Int))=(48:Int)))=(!true) ->
 ((false=true ->
 ((0:Int)=(ia 9 s)/\false=(j9 9 s)))/\(false=false ->
 (kA s))))))
theorem Fy(s:List UInt8):dd (bz []) (aD gZ) (wF s) 0 (bO (bz []) gZ λ r=>bR r [⟨(.int .i64),ia 9 s⟩,⟨.bool,j9 9 s⟩]) (aU gZ [.val ⟨.str,s⟩]) =
 ((ah ((s.length:Int)) ->
 (((decide (((s.length:Int))<(1:Int)))=false ->
 (ah ((s.length:Int)) ->
 (((decide ((9:Int)<((s.length:Int))))=false ->
 (tT s))/\((decide ((9:Int)<((s.length:Int))))=(!false) ->
 ((true=true ->
 ((0:Int)=(ia 9 s)/\false=(j9 9 s)))/\(true=false ->
 (kA s)))))))/\((decide (((s.length:Int))<(1:Int)))=(!false) ->
 ((true=false ->
 (tT s))/\(true=(!false) ->
 ((true=true ->
 ((0:Int)=(ia 9 s)/\false=(j9 9 s)))/\(true=false ->
 (kA s))))))))):=by kernel_rfl
theorem Fg(hE:aR []):bu.Good jR:=by
 refine⟨aB uz rfl (by decide),?_⟩
 show ∀ (s:List UInt8),True->bL prog ry [.val ⟨.str,s⟩] (·=[⟨(.int .i64),ia 9 s⟩,⟨.bool,j9 9 s⟩])
 intro s _
 refine bB (wr:=[]) (cl:=[]) (ro:=[]) hE uz Bs (wF s) ?_
 rewrite [Fy s]
 have f1:gW (s.take 0)=0:=by simp[gW]
 refine λ a0=>⟨λ a1=>λ a2=>⟨λ a3=>⟨?_,⟨λ a4=>λ a5=>⟨λ a6=>⟨?_,?_⟩,λ a6=>⟨⟨0,⟨?_,⟨⟨rfl,⟨?_,⟨?_,trivial⟩⟩⟩,trivial⟩⟩⟩,λ k1=>λ a7=>λ a8=>⟨λ a9=>⟨?_,⟨λ gl=>⟨?_,⟨λ jn=>⟨?_,?_⟩,λ jn=>⟨?_,⟨?_,⟨?_,⟨?_,⟨?_,⟨?_,⟨k1+1,⟨?_,⟨?_,⟨⟨rfl,⟨?_,⟨?_,trivial⟩⟩⟩,trivial⟩⟩⟩⟩⟩⟩⟩⟩⟩⟩⟩⟩,λ gl=>⟨λ jn=>⟨?_,?_⟩,λ jn=>⟨?_,⟨?_,⟨?_,⟨?_,⟨?_,⟨?_,⟨k1+1,⟨?_,⟨?_,⟨⟨rfl,⟨?_,⟨?_,trivial⟩⟩⟩,trivial⟩⟩⟩⟩⟩⟩⟩⟩⟩⟩⟩⟩⟩,λ a9=>⟨?_,?_⟩⟩⟩⟩,λ a4=>⟨λ a5=>⟨?_,?_⟩,λ a5=>⟨⟨0,⟨?_,⟨⟨rfl,⟨?_,⟨?_,trivial⟩⟩⟩,trivial⟩⟩⟩,λ k1=>λ a6=>λ a7=>⟨λ a8=>⟨?_,⟨λ a9=>⟨?_,⟨λ gl=>⟨?_,?_⟩,λ gl=>⟨?_,⟨?_,⟨?_,⟨?_,⟨?_,⟨?_,⟨k1+1,⟨?_,⟨?_,⟨⟨rfl,⟨?_,⟨?_,trivial⟩⟩⟩,trivial⟩⟩⟩⟩⟩⟩⟩⟩⟩⟩⟩⟩,λ a9=>⟨λ gl=>⟨?_,?_⟩,λ gl=>⟨?_,⟨?_,⟨?_,⟨?_,⟨?_,⟨?_,⟨k1+1,⟨?_,⟨?_,⟨⟨rfl,⟨?_,⟨?_,trivial⟩⟩⟩,trivial⟩⟩⟩⟩⟩⟩⟩⟩⟩⟩⟩⟩⟩,λ a8=>⟨?_,?_⟩⟩⟩⟩⟩⟩,λ a3=>⟨λ a4=>⟨?_,?_⟩,λ a4=>⟨⟨0,⟨?_,⟨⟨rfl,⟨?_,⟨?_,trivial⟩⟩⟩,trivial⟩⟩⟩,λ k1=>λ a5=>λ a6=>⟨λ a7=>⟨?_,⟨λ a8=>⟨?_,⟨λ a9=>⟨?_,?_⟩,λ a9=>⟨?_,⟨?_,⟨?_,⟨?_,⟨?_,⟨?_,⟨k1+1,⟨?_,⟨?_,⟨⟨rfl,⟨?_,⟨?_,trivial⟩⟩⟩,trivial⟩⟩⟩⟩⟩⟩⟩⟩⟩⟩⟩⟩,λ a8=>⟨λ a9=>⟨?_,?_⟩,λ a9=>⟨?_,⟨?_,⟨?_,⟨?_,⟨?_,⟨?_,⟨k1+1,⟨?_,⟨?_,⟨⟨rfl,⟨?_,⟨?_,trivial⟩⟩⟩,trivial⟩⟩⟩⟩⟩⟩⟩⟩⟩⟩⟩⟩⟩,λ a7=>⟨?_,?_⟩⟩⟩⟩⟩,λ a1=>⟨λ a2=>⟨?_,⟨λ a3=>λ a4=>⟨λ a5=>⟨?_,?_⟩,λ a5=>⟨⟨0,⟨?_,⟨⟨rfl,⟨?_,⟨?_,trivial⟩⟩⟩,trivial⟩⟩⟩,λ k1=>λ a6=>λ a7=>⟨λ a8=>⟨?_,⟨λ a9=>⟨?_,⟨λ gl=>⟨?_,?_⟩,λ gl=>⟨?_,⟨?_,⟨?_,⟨?_,⟨?_,⟨?_,⟨k1+1,⟨?_,⟨?_,⟨⟨rfl,⟨?_,⟨?_,trivial⟩⟩⟩,trivial⟩⟩⟩⟩⟩⟩⟩⟩⟩⟩⟩⟩,λ a9=>⟨λ gl=>⟨?_,?_⟩,λ gl=>⟨?_,⟨?_,⟨?_,⟨?_,⟨?_,⟨?_,⟨k1+1,⟨?_,⟨?_,⟨⟨rfl,⟨?_,⟨?_,trivial⟩⟩⟩,trivial⟩⟩⟩⟩⟩⟩⟩⟩⟩⟩⟩⟩⟩,λ a8=>⟨?_,?_⟩⟩⟩⟩,λ a3=>⟨λ a4=>⟨?_,?_⟩,λ a4=>⟨⟨0,⟨?_,⟨⟨rfl,⟨?_,⟨?_,trivial⟩⟩⟩,trivial⟩⟩⟩,λ k1=>λ a5=>λ a6=>⟨λ a7=>⟨?_,⟨λ a8=>⟨?_,⟨λ a9=>⟨?_,?_⟩,λ a9=>⟨?_,⟨?_,⟨?_,⟨?_,⟨?_,⟨?_,⟨k1+1,⟨?_,⟨?_,⟨⟨rfl,⟨?_,⟨?_,trivial⟩⟩⟩,trivial⟩⟩⟩⟩⟩⟩⟩⟩⟩⟩⟩⟩,λ a8=>⟨λ a9=>⟨?_,?_⟩,λ a9=>⟨?_,⟨?_,⟨?_,⟨?_,⟨?_,⟨?_,⟨k1+1,⟨?_,⟨?_,⟨⟨rfl,⟨?_,⟨?_,trivial⟩⟩⟩,trivial⟩⟩⟩⟩⟩⟩⟩⟩⟩⟩⟩⟩⟩,λ a7=>⟨?_,?_⟩⟩⟩⟩⟩⟩,λ a2=>⟨λ a3=>⟨?_,?_⟩,λ a3=>⟨⟨0,⟨?_,⟨⟨rfl,⟨?_,⟨?_,trivial⟩⟩⟩,trivial⟩⟩⟩,λ k1=>λ a4=>λ a5=>⟨λ a6=>⟨?_,⟨λ a7=>⟨?_,⟨λ a8=>⟨?_,?_⟩,λ a8=>⟨?_,⟨?_,⟨?_,⟨?_,⟨?_,⟨?_,⟨k1+1,⟨?_,⟨?_,⟨⟨rfl,⟨?_,⟨?_,trivial⟩⟩⟩,trivial⟩⟩⟩⟩⟩⟩⟩⟩⟩⟩⟩⟩,λ a7=>⟨λ a8=>⟨?_,?_⟩,λ a8=>⟨?_,⟨?_,⟨?_,⟨?_,⟨?_,⟨?_,⟨k1+1,⟨?_,⟨?_,⟨⟨rfl,⟨?_,⟨?_,trivial⟩⟩⟩,trivial⟩⟩⟩⟩⟩⟩⟩⟩⟩⟩⟩⟩⟩,λ a6=>⟨?_,?_⟩⟩⟩⟩⟩⟩
 all_goals try and_intros
 all_goals first|rfl|trivial|omega|((try simp only[a1Q,a1O,a1F,a1L,aZ,Sp,Pp,ah,XQ,XP] at *);first|omega|exact (To 9 s (by omega)).1.symm|exact (To 9 s (by omega)).2.symm|exact Ul 9 s (by omega) (by omega)|(have hq:Ch 9 s k1:=(by with_reducible assumption);have hl:=XF 9 s k1 hq;first|omega|exact (Q5 9 s k1 hq (by omega) (by omega)).1.symm|exact (Q5 9 s k1 hq (by omega) (by omega)).2.symm|exact (Ix 9 s k1 hq (by omega) (by omega) (by omega)).1|exact (Ix 9 s k1 hq (by omega) (by omega) (by omega)).2.symm|(rw[(Ix 9 s k1 hq (by omega) (by omega) (by omega)).2];omega)|exact (Q6 9 s k1 hq (by omega)).1.symm|exact (Q6 9 s k1 hq (by omega)).2.symm))
theorem BJ:bu.Good jR:=Fg trivial
end
end Go.Proofs.YtaaamahdcpcofaaDoor

namespace Go.Proofs.YtaaamahdcpcofaaDoor
noncomputable section
theorem Uk(s:List UInt8)(h:j9 9 s=true)(h9:gW s<=9):j9 1 s=true:=by
 rw[yP] at h ⊢
 simp only[a1z,a1F,a2k,a4d,a1L] at h ⊢
 obtain⟨⟨⟨h1,h2⟩,h3⟩,h4⟩:=h
 refine⟨⟨⟨h1,?_⟩,h3⟩,h4⟩
 rcases a2B 1 s.length with hl|hl
 .exfalso
  match s,hl,h3,h4,h9 with
  | a::b::r,_,h3,h4,h9 =>
   have ha:gm a=true:=by simp[cG] at h4;exact h4.1
   have ha':=ha
   simp only[gm,a1z,a1F] at ha
   have W7:a.toNat≠48:=by rcases h3 with h3|h3<;>simp at h3<;>omega
   have key:∀ (r:List UInt8) (n:Int),1<=n->cG gm r=true->n<=r.foldl (λ n b=>n * 10+((b.toNat:Int) - 48)) n:=by
    intro r
    induction r with
    | nil=>intro n _ _;exact Int.le_refl _
    | cons c r ih =>
     intro n hn hr
     simp only[cG,a1z] at hr
     have hc:=hr.1
     simp only[gm,a1z,a1F] at hc
     have:=ih (n * 10+((c.toNat:Int) - 48)) (by omega) hr.2
     simp only[a4s];omega
   simp only[cG,a1z] at h4
   have hb:=h4.2.1
   simp only[gm,a1z,a1F] at hb
   have:=key r (((0 * 10+((a.toNat:Int) - 48)) * 10)+((b.toNat:Int) - 48)) (by omega) h4.2.2
   simp only[gW,a4s] at h9
   omega
 .omega
end
end Go.Proofs.YtaaamahdcpcofaaDoor

namespace Go.Proofs.YtaaamahdcpcofaaDoor
noncomputable section
abbrev zX:M:=M.mk (0:Int) (0:Int) []
def aE(t:List UInt8)(a:Nat)(s:List UInt8):Bool:=decide (s.length<=(t.drop a).length)&&decide ((t.drop a).take s.length=s)
theorem cE{t:List UInt8}{a:Nat}{s r:List UInt8}(h:t.drop a=s++r):aE t a s=true:=by
 unfold aE;rw[h];simp
theorem tp(t:List UInt8)(a:Nat)(s:List UInt8):aE t a s=true↔∃ r,t.drop a=s++r:=by
 constructor
 .intro h
  simp only[aE,a1z,a1F] at h
  refine⟨(t.drop a).drop s.length,?_⟩
  conv=>rhs;lhs;rw[<-h.2]
  rw[a3c]
 .rintro⟨r,h⟩;exact cE h
theorem kG{t:List UInt8}{a:Nat}{b c:UInt8}{r:List UInt8}(h:t.drop a=b::r)(hn:b≠c)(s:List UInt8):aE t a (c::s)=false:=by
 cases e:aE t a (c::s) with
 | false=>rfl
 | true =>
  obtain⟨r',h'⟩:=(tp _ _ _).1 e
  rw[h] at h'
  simp only[a2I,a1C] at h'
  exact absurd h'.1 hn
def dO(c:UInt8):List UInt8->Nat
 | []=>0
 | b::l=>if b=c then dO c l+1 else 0
def Uj(c:UInt8)(r:List UInt8):Prop:=∀ b l,r=b::l->b≠c
theorem Ga(c:UInt8)(r:List UInt8)(h:Uj c r):∀ n,dO c (List.replicate n c++r)=n
 | 0=>by
  cases r with
  | nil=>rfl
  | cons b l=>simp[dO,h b l rfl]
 | n+1=>by simp[a3D,dO,Ga c r h n]
theorem cb{t w r:List UInt8}{a:Nat}(h:t.drop a=w++r):t.drop (a+w.length)=r:=by
 rw[<-a3n,h];simp
structure RI where
 e:M
 ok:Bool
 a:Nat
def aP(k:Int):Nat->M->M
 | 0,e=>e
 | n+1,e=>aP k n (M.mk k 0 [e])
theorem ep(k:Int):∀ (n:Nat) (e:M),aP k (n+1) e=M.mk k 0 [aP k n e]
 | 0,e=>rfl
 | n+1,e=>by
  show aP k (n+1) (M.mk k 0 [e])=_
  rw[ep k n (M.mk k 0 [e])];rfl
def lT(core:Nat->RI)(t:List UInt8)(a:Nat):RI :=
 if 40<dO 126 (t.drop a) then ⟨zX,false,a+dO 126 (t.drop a)⟩ else
 if 41<dO 42 (t.drop (core (a+dO 126 (t.drop a))).a) then ⟨zX,false,(core (a+dO 126 (t.drop a))).a+42⟩ else
 ⟨aP 8 (dO 42 (t.drop (core (a+dO 126 (t.drop a))).a)) (aP 5 (dO 126 (t.drop a)) (core (a+dO 126 (t.drop a))).e),(core (a+dO 126 (t.drop a))).ok,(core (a+dO 126 (t.drop a))).a+dO 42 (t.drop (core (a+dO 126 (t.drop a))).a)⟩
def gv(t:List UInt8)(a:Nat):Bool:=decide (a<t.length)&&decide (48<=(t.getD a 0).toNat)&&decide ((t.getD a 0).toNat<=57)
def r9(k:Int)(t:List UInt8)(a:Nat):RI:=bif gv t a then ⟨M.mk k (((t.getD a 0).toNat:Int) - 48) [],true,a+1⟩ else ⟨M.mk k 0 [],false,a⟩
def rB(k:Int)(t:List UInt8)(x y:RI):RI:=bif x.ok&&y.ok&&aE t y.a [41] then ⟨M.mk k 0 [x.e,y.e],true,y.a+1⟩ else ⟨M.mk k 0 [x.e,y.e],false,y.a⟩
def dU(t:List UInt8):Nat->Nat->RI
 | 0,a=>⟨zX,false,a⟩
 | d+1,a=>if aE t a [48]=true then ⟨M.mk 1 0 [],true,a+1⟩ else if aE t a [49]=true then ⟨M.mk 2 0 [],true,a+1⟩ else
  if aE t a [116]=true then r9 3 t (a+1) else if aE t a [97]=true then r9 4 t (a+1) else if aE t a [40]=false then ⟨zX,false,a⟩ else
  if aE t (lT (dU t d) t (a+1)).a [32,43,32]=true then rB 6 t (lT (dU t d) t (a+1)) (lT (dU t d) t ((lT (dU t d) t (a+1)).a+3)) else
  if aE t (lT (dU t d) t (a+1)).a [32]=true then rB 7 t (lT (dU t d) t (a+1)) (lT (dU t d) t ((lT (dU t d) t (a+1)).a+1)) else
  ⟨zX,false,(lT (dU t d) t (a+1)).a⟩
def H5(k:Int):Prop:=k=1\/k=2\/k=3\/k=4\/k=6\/k=7
theorem mK(x:M)(h:dx x=true)(e:¬ x.af=3)(e':¬ x.af=4):x.al=0:=by
 simp only[dx] at h
 rw[qL,rX] at h
 simp only[a1z,a1F] at h
 have:=h.1.1.2
 rw[zR,a1B e,a1B e'] at this
 simpa using this
theorem pL(x:M)(h:dx x=true)(e:x.af=1\/x.af=2\/x.af=3\/x.af=4):x.J=[]:=by
 simp only[dx] at h
 rw[qL,rX] at h
 simp only[a1z,a1F] at h
 have h1:=h.1.1.1
 have:x.J.length=0:=by rcases e with e|e|e|e<;>rw[e] at h1<;>simp[cQ] at h1<;>omega
 exact a2D this
theorem TP(x:M)(h:dx x=true)(e:x.af=5):bJ (x.J.getD 0 zE)=true:=by
 simp only[dx] at h
 rw[qL,rX] at h
 simp only[a1z,a1F] at h
 have:=h.1.2
 simpa [e] using this
theorem Hl(x:M)(h:x.J.length=1):x.J=[x.J.getD 0 zE]:=by
 cases x with
 | mk k n ks =>
  match ks,h with
  | [a],_=>rfl
theorem CZ(x:M)(h:x.J.length=2):x.J=[x.J.getD 0 zE,x.J.getD 1 zE]:=by
 cases x with
 | mk k n ks =>
  match ks,h with
  | [a,b],_=>rfl
theorem iM(x:M)(k n:Int)(ks:List M)(h1:x.af=k)(h2:x.al=n)(h3:x.J=ks):x=M.mk k n ks:=by
 cases x;simp at h1 h2 h3;simp[h1,h2,h3]
theorem MF:∀ (N:Nat) (x:M),cd x<N->dx x=true->∃ m n c,x=aP 8 m (aP 5 n c)/\dx c=true/\H5 c.af/\cd c<=cd x/\bp c+m+n=bp x /\
  br x=List.replicate n 126++(br c++List.replicate m 42)
 | 0,x,h,_=>by omega
 | N+1,x,hN,h=>by
  have hf:=iB x h
  have ht:=dN x h
  by_cases h8:x.af=8
  .obtain⟨hl,hk⟩:=hf.2.1 (.inr h8)
   obtain⟨m,n,c,e1,e2,e3,e4,e5,e6⟩:=MF N _ (by have:=hk.2;omega) hk.1
   have hx:x=M.mk 8 0 [x.J.getD 0 zE]:=iM x 8 0 _ h8 (mK x h (by omega) (by omega)) (Hl x hl)
   refine⟨m+1,n,c,?_,e2,e3,by have:=hk.2;omega,?_,?_⟩
   .rw[ep,<-e1];exact hx
   .rw[jc x,Hl x hl];simp only[dI];omega
   .rw[ht.2.2.2.2.2.2.2 h8,e6,a4h];simp
  .by_cases h5:x.af=5
   .obtain⟨hl,hk⟩:=hf.2.1 (.inl h5)
    obtain⟨m,n,c,e1,e2,e3,e4,e5,e6⟩:=MF N _ (by have:=hk.2;omega) hk.1
    have hx:x=M.mk 5 0 [x.J.getD 0 zE]:=iM x 5 0 _ h5 (mK x h (by omega) (by omega)) (Hl x hl)
    have hm:m=0:=by
     cases m with
     | zero=>rfl
     | succ m =>
      have hc:=TP x h h5
      rw[e1,ep,H2] at hc
      simp[EF] at hc
    subst hm
    refine⟨0,n+1,c,?_,e2,e3,by have:=hk.2;omega,?_,?_⟩
    .show x=aP 5 (n+1) c
     rw[ep]
     have e1':x.J.getD 0 zE=aP 5 n c:=e1
     rw[<-e1'];exact hx
    .rw[jc x,Hl x hl];simp only[dI];omega
    .rw[ht.2.2.2.2.1 h5,e6,a3D];simp
   .exact⟨0,0,x,rfl,h,by have:=hf.2.2.2;unfold H5;omega,Nat.le_refl _,by omega,by simp⟩
theorem zp{t:List UInt8}{a:Nat}{b:UInt8}{r:List UInt8}(h:t.drop a=b::r):a<t.length/\t.getD a 0=b:=by
 have hl:a<t.length:=by
  rcases a2B a t.length with g|g
  .exact g
  .rw[a3u g] at h;cases h
 refine⟨hl,?_⟩
 rw[a3h hl] at h
 simp only[a1C] at h
 rw[a2j,a2m hl,<-h.1];rfl
theorem Jo(c:M)(h:dx c=true)(hk:H5 c.af):∃ b l,br c=b::l/\b≠126/\b≠43:=by
 have ht:=dN c h
 rcases hk with e|e|e|e|e|e
 .exact⟨_,_,ht.1 e,by decide,by decide⟩
 .exact⟨_,_,ht.2.1 e,by decide,by decide⟩
 .exact⟨_,_,ht.2.2.1 e,by decide,by decide⟩
 .exact⟨_,_,ht.2.2.2.1 e,by decide,by decide⟩
 .exact⟨_,_,ht.2.2.2.2.2.1 e,by decide,by decide⟩
 .exact⟨_,_,ht.2.2.2.2.2.2.1 e,by decide,by decide⟩
theorem Lq(x:M)(h:dx x=true):∃ b l,br x=b::l/\b≠43:=by
 obtain⟨m,n,c,_,h2,h3,_,_,h6⟩:=MF (cd x+1) x (a2l _) h
 obtain⟨b,l,g1,_,g3⟩:=Jo c h2 h3
 cases n with
 | zero=>exact⟨b,_,by rw[h6,g1];rfl,g3⟩
 | succ n=>exact⟨126,_,by rw[h6,a3D];rfl,by decide⟩
theorem NP(core:Nat->RI)(t:List UInt8)(a:Nat)(r:List UInt8)(x c:M)(m n:Nat)(hx:x=aP 8 m (aP 5 n c))(hc:dx c=true)(hk:H5 c.af)
  (V2:br x=List.replicate n 126++(br c++List.replicate m 42)) (hm:m<=40) (hn:n<=40) (hr:Uj 42 r) (hd:t.drop a=br x++r)
  (YW:∀ r',t.drop (a+n)=br c++r'->core (a+n)=⟨c,true,a+n+(br c).length⟩):lT core t a=⟨x,true,a+(br x).length⟩:=by
 obtain⟨b,l,g1,g2,_⟩:=Jo c hc hk
 have Sa:t.drop a=List.replicate n 126++(br c++(List.replicate m 42++r)):=by rw[hd,V2];simp
 have VD:t.drop (a+n)=br c++(List.replicate m 42++r):=by
  have:=cb Sa
  simpa using this
 have hd3:=cb VD
 have GM:dO 126 (t.drop a)=n:=by
  rw[Sa]
  refine Ga 126 _ ?_ n
  intro b' l' e
  rw[g1] at e
  simp only[a2I,a1C] at e
  rw[<-e.1];exact g2
 have VO:dO 42 (t.drop (a+n+(br c).length))=m:=by rw[hd3];exact Ga 42 r hr m
 have R9:=YW _ VD
 unfold lT
 rw[GM,R9]
 simp only[VO]
 rw[a1B (by omega),a1B (by omega),<-hx]
 have:(br x).length=n+((br c).length+m):=by rw[V2];simp
 simp only[RI.mk.injEq,a1Z]
 omega
theorem NI:∀ (N:Nat) (c:M),cd c<N->dx c=true->H5 c.af->∀ (t:List UInt8) (d a:Nat) (r:List UInt8),bp c<=d->bp c<=40->t.drop a=br c++r->dU t d a=⟨c,true,a+(br c).length⟩
 | 0,c,h,_,_=>by omega
 | N+1,c,hN,h,hk=>by
  intro t d a r hd h40 ht
  have hf:=iB c h
  have hx:=dN c h
  have LL:=jc c
  obtain⟨d,rfl⟩:∃ d',d=d'+1:=⟨d - 1,by omega⟩
  have Dx:∀ i,i<c.J.length->wi c i->∀ (a:Nat) (r:List UInt8),Uj 42 r->t.drop a=br (c.J.getD i zE)++r ->
    lT (dU t d) t a=⟨c.J.getD i zE,true,a+(br (c.J.getD i zE)).length⟩:=by
   intro i hi hg a r hr TW
   obtain⟨m,n,c',e1,e2,e3,e4,e5,e6⟩:=MF _ _ (a2l _) hg.1
   have hdk:=pR bp zE c.J i hi
   exact NP (dU t d) t a r _ c' m n e1 e2 e3 e6 (by omega) (by omega) hr TW (λ r' LS=>NI N c' (by have:=hg.2;omega) e2 e3 t d (a+n) r' (by omega) (by omega) LS)
  rcases hk with e|e|e|e|e|e
  .rw[hx.1 e] at ht ⊢
   have hc:=iM c 1 0 [] e (mK c h (by omega) (by omega)) (pL c h (by omega))
   rw[dU,a1S (cE (s:=[48]) ht),<-hc];rfl
  .rw[hx.2.1 e] at ht ⊢
   have hc:=iM c 2 0 [] e (mK c h (by omega) (by omega)) (pL c h (by omega))
   rw[dU,a1B (by rw[kG (b:=49) ht (by decide)];decide),a1S (cE (s:=[49]) ht),<-hc];rfl
  .have hn:=hf.1 (.inl e)
   have hg:od c.al=[UInt8.ofNat (48+c.al.toNat)]:=by unfold od;rw[Lib.decDigits_one (by omega)]
   rw[hx.2.2.1 e,hg] at ht ⊢
   have h2:t.drop (a+1)=UInt8.ofNat (48+c.al.toNat)::r:=cb (w:=[116]) ht
   obtain⟨g1,g2⟩:=zp h2
   have hb:(UInt8.ofNat (48+c.al.toNat)).toNat=48+c.al.toNat:=by rw[a3Y];omega
   rw[dU,a1B (by rw[kG (b:=116) ht (by decide)];decide),a1B (by rw[kG (b:=116) ht (by decide)];decide),a1S (cE (s:=[116]) ht)]
   have TX:gv t (a+1)=true:=by unfold gv;rw[g2,hb,decide_eq_true g1,decide_eq_true (by omega),decide_eq_true (by omega)];rfl
   unfold r9
   rw[TX,g2,hb]
   have hc:=iM c 3 c.al [] e rfl (pL c h (by omega))
   rw[show (((48+c.al.toNat:Nat):Int) - 48)=c.al by omega,<-hc];rfl
  .have hn:=hf.1 (.inr e)
   have hg:od c.al=[UInt8.ofNat (48+c.al.toNat)]:=by unfold od;rw[Lib.decDigits_one (by omega)]
   rw[hx.2.2.2.1 e,hg] at ht ⊢
   have h2:t.drop (a+1)=UInt8.ofNat (48+c.al.toNat)::r:=cb (w:=[97]) ht
   obtain⟨g1,g2⟩:=zp h2
   have hb:(UInt8.ofNat (48+c.al.toNat)).toNat=48+c.al.toNat:=by rw[a3Y];omega
   rw[dU,a1B (by rw[kG (b:=97) ht (by decide)];decide),a1B (by rw[kG (b:=97) ht (by decide)];decide),a1B (by rw[kG (b:=97) ht (by decide)];decide),a1S (cE (s:=[97]) ht)]
   have TX:gv t (a+1)=true:=by unfold gv;rw[g2,hb,decide_eq_true g1,decide_eq_true (by omega),decide_eq_true (by omega)];rfl
   unfold r9
   rw[TX,g2,hb]
   have hc:=iM c 4 c.al [] e rfl (pL c h (by omega))
   rw[show (((48+c.al.toNat:Nat):Int) - 48)=c.al by omega,<-hc];rfl
  .obtain⟨hl,k0,k1⟩:=hf.2.2.1 (.inl e)
   have hc:=iM c 6 0 _ e (mK c h (by omega) (by omega)) (CZ c hl)
   rw[hx.2.2.2.2.2.1 e] at ht ⊢
   have p0:t.drop a=40::(br (c.J.getD 0 zE)++([32,43,32]++(br (c.J.getD 1 zE)++([41]++r)))):=by rw[ht];simp
   have p1:t.drop (a+1)=br (c.J.getD 0 zE)++([32,43,32]++(br (c.J.getD 1 zE)++([41]++r))):=cb (w:=[40]) p0
   have q1:=Dx 0 (by omega) k0 (a+1) _ (λ b l g=>by simp at g;rw[<-g.1];decide) p1
   have p2:=cb p1
   have p3:=cb p2
   have q2:=Dx 1 (by omega) k1 _ _ (λ b l g=>by simp at g;rw[<-g.1];decide) p3
   have p4:=cb p3
   rw[dU,a1B (by rw[kG p0 (by decide)];decide),a1B (by rw[kG p0 (by decide)];decide),a1B (by rw[kG p0 (by decide)];decide),a1B (by rw[kG p0 (by decide)];decide),
    a1B (by rw[cE (s:=[40]) p0];decide)]
   rw[q1]
   simp only
   rw[a1S (cE p2)]
   have ZO:lT (dU t d) t (a+1+(br (c.J.getD 0 zE)).length+3)=_:=q2
   rw[ZO]
   unfold rB
   simp only
   rw[show aE t _ [41]=true from cE (s:=[41]) p4]
   simp only[a2V,a2R,RI.mk.injEq,a1Z,<-hc]
   simp only[a1T,a1M,a2b];omega
  .obtain⟨hl,k0,k1⟩:=hf.2.2.1 (.inr e)
   have hc:=iM c 7 0 _ e (mK c h (by omega) (by omega)) (CZ c hl)
   rw[hx.2.2.2.2.2.2.1 e] at ht ⊢
   have p0:t.drop a=40::(br (c.J.getD 0 zE)++([32]++(br (c.J.getD 1 zE)++([41]++r)))):=by rw[ht];simp
   have p1:t.drop (a+1)=br (c.J.getD 0 zE)++([32]++(br (c.J.getD 1 zE)++([41]++r))):=cb (w:=[40]) p0
   have q1:=Dx 0 (by omega) k0 (a+1) _ (λ b l g=>by simp at g;rw[<-g.1];decide) p1
   have p2:=cb p1
   have p3:=cb p2
   have q2:=Dx 1 (by omega) k1 _ _ (λ b l g=>by simp at g;rw[<-g.1];decide) p3
   have p4:=cb p3
   have ky:aE t (a+[40].length+(br (c.J.getD 0 zE)).length) [32,43,32]=false:=by
    cases hb:aE t (a+[40].length+(br (c.J.getD 0 zE)).length) [32,43,32] with
    | false=>rfl
    | true =>
     obtain⟨r',h'⟩:=(tp _ _ _).1 hb
     obtain⟨b,l,f1,f2⟩:=Lq _ k1.1
     have p2':=p2
     rw[f1] at p2'
     have h3:=p2'.symm.trans h'
     simp only[a2I,a2K,a1C,a1Z] at h3
     exact absurd h3.1 f2
   rw[dU,a1B (by rw[kG p0 (by decide)];decide),a1B (by rw[kG p0 (by decide)];decide),a1B (by rw[kG p0 (by decide)];decide),a1B (by rw[kG p0 (by decide)];decide),
    a1B (by rw[cE (s:=[40]) p0];decide)]
   rw[q1]
   simp only
   rw[a1B (by rw[show aE t (a+1+(br (c.J.getD 0 zE)).length) [32,43,32]=false from ky];decide),a1S (cE p2)]
   have ZO:lT (dU t d) t (a+1+(br (c.J.getD 0 zE)).length+1)=_:=q2
   rw[ZO]
   unfold rB
   simp only
   rw[show aE t _ [41]=true from cE (s:=[41]) p4]
   simp only[a2V,a2R,RI.mk.injEq,a1Z,<-hc]
   simp only[a1T,a1M,a2b];omega
end
end Go.Proofs.YtaaamahdcpcofaaDoor

namespace Go.Proofs.YtaaamahdcpcofaaDoor
noncomputable section
def bE(t:List UInt8)(a:Nat):Int:=if a<t.length then ((t.getD a 0).toNat:Int) else 0
structure RS where
 e:M
 a:Nat
 L:Nat
 bad:Bool
def o7:List UInt8->Nat
 | []=>0
 | b::l=>if gm b=true then o7 l+1 else 0
def Mo(t:List UInt8)(a:Nat):List UInt8:=(t.drop (a+1)).take (o7 (t.drop (a+1)))
def bP(t:List UInt8)(a L:Nat):RS:=⟨M.mk (if bE t a=97 then 4 else 3) (ia 9 (Mo t a)) [],a+1+o7 (t.drop (a+1)),L,!j9 9 (Mo t a)⟩
def bh(t:List UInt8)(a:Nat)(c:Int):Nat:=if bE t a=c then a+1 else a
def bF(t:List UInt8)(a:Nat)(c:Int)(bad:Bool):Bool:=if bE t a=c then bad else true
def xB(t:List UInt8)(r:RS):RS:=if r.bad=true then ⟨r.e,r.a,r.L - 1,true⟩ else ⟨aP 8 (dO 42 (t.drop r.a)) r.e,r.a+dO 42 (t.drop r.a),r.L - 1,false⟩
def eZ(inner:Nat->Nat->RS)(t:List UInt8)(a L:Nat)(bad:Bool):RS:=if bad=true\/100<L+1 then ⟨zX,a,L+1,true⟩ else xB t (inner a (L+1))
def xy(inner:Nat->Nat->RS)(t:List UInt8)(x:RS)(k:Int)(a:Nat)(bad:Bool):RS :=
 ⟨M.mk k 0 [x.e,(eZ inner t a x.L bad).e],bh t (eZ inner t a x.L bad).a 41,(eZ inner t a x.L bad).L,bF t (eZ inner t a x.L bad).a 41 (eZ inner t a x.L bad).bad⟩
def tN(inner:Nat->Nat->RS)(t:List UInt8)(x:RS):RS :=
 if bE t (bh t x.a 32)=43 then xy inner t x 6 (bh t (bh t x.a 32+1) 32) (bF t (bh t x.a 32+1) 32 (bF t x.a 32 x.bad)) else xy inner t x 7 (bh t x.a 32) (bF t x.a 32 x.bad)
def cz(t:List UInt8):Nat->Nat->Nat->RS
 | g,a,L=>if bE t a=48 then ⟨M.mk 1 0 [],a+1,L,false⟩ else if bE t a=49 then ⟨M.mk 2 0 [],a+1,L,false⟩ else
  if bE t a=116\/bE t a=97 then bP t a L else
  if bE t a=126 then (match g with
   | 0=>⟨zX,a+1,L+1,true⟩
   | g+1=>⟨M.mk 5 0 [(cz t g (a+1) (L+1)).e],(cz t g (a+1) (L+1)).a,(cz t g (a+1) (L+1)).L - 1,(cz t g (a+1) (L+1)).bad⟩) else
  if bE t a=40 then (match g with
   | 0=>tN (λ _ _=>⟨zX,0,0,true⟩) t (eZ (λ _ _=>⟨zX,0,0,true⟩) t (a+1) L false)
   | g+1=>tN (cz t g) t (eZ (cz t g) t (a+1) L false)) else ⟨zX,a,L,true⟩
theorem fH{t:List UInt8}{a:Nat}{b:UInt8}{r:List UInt8}(h:t.drop a=b::r):bE t a=(b.toNat:Int):=by
 obtain⟨h1,h2⟩:=zp h
 unfold bE;rw[if_pos h1,h2]
theorem tj(t:List UInt8)(a:Nat)(c:UInt8)(hc:c≠0)(h:bE t a=(c.toNat:Int)):∃ r,t.drop a=c::r:=by
 unfold bE at h
 split at h
 .rename_i hl
  refine⟨t.drop (a+1),?_⟩
  rw[a3h hl]
  rw[a2j,a2m hl] at h
  have:t[a]=c:=UInt8.toNat_inj.1 (by simpa using Int.ofNat_inj.1 h)
  rw[this]
 .exfalso
  have:c.toNat=0:=by omega
  exact hc (UInt8.toNat_inj.1 this)
theorem PV(t:List UInt8)(a:Nat)(c:UInt8)(hc:c≠0)(bad:Bool)(h:bF t a (c.toNat:Int) bad=false):bad=false/\bh t a (c.toNat:Int)=a+1/\∃ r,t.drop a=c::r:=by
 unfold bF at h
 unfold bh
 split at h
 .rename_i e
  rw[a1S e]
  exact⟨h,rfl,tj t a c hc e⟩
 .cases h
theorem sK{t:List UInt8}{a:Nat}{c:UInt8}{r:List UInt8}(h:t.drop a=c::r)(bad:Bool):bh t a (c.toNat:Int)=a+1/\bF t a (c.toNat:Int) bad=bad:=by
 unfold bh bF;rw[if_pos (fH h),if_pos (fH h)];exact⟨rfl,rfl⟩
theorem NH(c:UInt8):∀ l:List UInt8,l=List.replicate (dO c l) c++l.drop (dO c l)
 | []=>rfl
 | b::l=>by
  unfold dO
  split
  .rename_i e
   subst e
   rw[a3D,a4q,a2I,<-NH b l]
  .rfl
structure En(t:List UInt8)(a L:Nat)(r:RS):Prop where
 ex:r.bad=false->r.L=L/\∃ W,t.drop a=W++t.drop r.a/\(dx r.e=true->W=br r.e)
theorem Jr:∀ (m:Nat) (e:M),dx (aP 8 m e)=true->dx e=true/\br (aP 8 m e)=br e++List.replicate m 42
 | 0,e,h=>⟨h,by simp[aP]⟩
 | m+1,e,h=>by
  rw[ep] at h ⊢
  have hk:=uM _ h 0 (by simp)
  have hx:=(dN _ h).2.2.2.2.2.2.2 rfl
  obtain⟨h1,h2⟩:=Jr m e hk.1
  refine⟨h1,?_⟩
  rw[hx]
  show br (aP 8 m e)++[42]=_
  rw[h2,a4h,a2t]
theorem UD(t:List UInt8)(a L:Nat)(r:RS)(h:En t a (L+1) r):En t a L (xB t r):=by
 refine⟨λ hb=>?_⟩
 unfold xB at hb ⊢
 cases e:r.bad
 .rw[e] at hb
  simp only[a1G,a4J] at hb ⊢
  obtain⟨h0,W,h1,h2⟩:=h.ex e
  refine⟨by omega,W++List.replicate (dO 42 (t.drop r.a)) 42,?_,λ hg=>?_⟩
  .rw[h1,a2t]
   congr 1
   rw[<-a3n];exact NH 42 _
  .obtain⟨g1,g2⟩:=Jr _ _ hg
   rw[g2,h2 g1]
 .rw[e] at hb;simp at hb
theorem rW(inner:Nat->Nat->RS)(t:List UInt8)(a L:Nat)(bad:Bool)(h:L+1<=100->En t a (L+1) (inner a (L+1))):En t a L (eZ inner t a L bad):=by
 unfold eZ
 split
 .exact⟨λ hb=>by cases hb⟩
 .rename_i hn
  exact UD t a L _ (h (by omega))
theorem TL(inner:Nat->Nat->RS)(t:List UInt8)(a L:Nat)(bad:Bool)(h:(eZ inner t a L bad).bad=false):bad=false:=by
 unfold eZ at h
 split at h
 .cases h
 .rename_i hn;cases bad<;>simp_all
theorem MC(inner:Nat->Nat->RS)(t:List UInt8)(a0 L:Nat)(x:RS)(k:Int)(sep:List UInt8)(hk:(k=6/\sep=[32,43,32])\/(k=7/\sep=[32]))(a:Nat)(bad:Bool)(hx:En t (a0+1) L x)
  (h0:∃ r,t.drop a0=40::r) (a0D:bad=false->x.bad=false/\t.drop x.a=sep++t.drop a) (hi:L+1<=100->En t a (L+1) (inner a (L+1))):En t a0 L (xy inner t x k a bad):=by
 refine⟨λ hb=>?_⟩
 unfold xy at hb ⊢
 simp only at hb ⊢
 obtain⟨h1,h2,r,h3⟩:=PV t _ 41 (by decide) _ hb
 have ET:=TL inner t a x.L bad h1
 obtain⟨J4,hx2⟩:=a0D ET
 obtain⟨wx0,Wx,wx1,wx2⟩:=hx.ex J4
 rw[wx0] at h1 h2 h3 ⊢
 obtain⟨wy0,Wy,wy1,wy2⟩:=(rW inner t a L bad hi).ex h1
 obtain⟨r0,LU⟩:=h0
 have J2:t.drop (a0+1)=r0:=cb (w:=[40]) LU
 have h4:t.drop ((eZ inner t a L bad).a+1)=r:=cb (w:=[41]) h3
 have e41:bh t (eZ inner t a L bad).a 41=(eZ inner t a L bad).a+1:=h2
 refine⟨wy0,[40]++(Wx++(sep++(Wy++[41]))),?_,λ hg=>?_⟩
 .rw[e41,LU,h4,<-J2,wx1,hx2,wy1,h3];simp
 .have k0:=uM _ hg 0 (by simp)
  have k1:=uM _ hg 1 (by simp)
  rw[wx2 k0.1,wy2 k1.1]
  rcases hk with ⟨rfl,rfl⟩|⟨rfl,rfl⟩
  .exact ((dN _ hg).2.2.2.2.2.1 rfl).symm
  .exact ((dN _ hg).2.2.2.2.2.2.1 rfl).symm
theorem Qp(s:List UInt8)(h:j9 9 s=true)(h9:gW s<=9):od (gW s)=s:=by
 have h1:=Uk s h h9
 rw[yP] at h1
 simp only[a1z,a1F] at h1
 match s,h1 with
 | [b],h1 =>
  have hd:gm b=true:=by have:=h1.2;simpa [cG] using this
  simp only[gm,a1z,a1F] at hd
  have hv:gW [b]=(b.toNat:Int) - 48:=by simp[gW]
  rw[hv] at h9 ⊢
  unfold od
  rw[Lib.decDigits_one (by omega)]
  congr 1
  apply UInt8.toNat_inj.1
  rw[a3Y];omega
 | [],h1=>simp at h1
 | _::_::_,h1=>simp at h1;omega
theorem Od(t:List UInt8)(a L:Nat)(h:bE t a=116\/bE t a=97):En t a L (bP t a L):=by
 refine⟨λ hb=>⟨rfl,?_⟩⟩
 unfold bP at hb ⊢
 simp only[a2Q] at hb ⊢
 have wo:∀ c:UInt8,(∃ r,t.drop a=c::r)->t.drop a=(c::Mo t a)++t.drop (a+1+o7 (t.drop (a+1))):=by
  rintro c ⟨r,hr⟩
  have h1:t.drop (a+1)=r:=cb (w:=[c]) hr
  have e:t.drop (a+1+o7 (t.drop (a+1)))=(t.drop (a+1)).drop (o7 (t.drop (a+1))):=by rw[a3n]
  rw[e,hr,h1,a2I]
  unfold Mo
  rw[h1,a3c]
 have hv:ia 9 (Mo t a)=gW (Mo t a):=by unfold ia;rw[hb];rfl
 rcases h with h|h
 .refine⟨_,wo 116 (tj t a 116 (by decide) h),λ hg=>?_⟩
  have e:(if bE t a=97 then (4:Int) else 3)=3:=a1B (by rw[h];decide)
  rw[e,hv] at hg ⊢
  have hn:=(iB _ hg).1 (.inl rfl)
  rw[(dN _ hg).2.2.1 rfl]
  show _=116::od (gW (Mo t a))
  rw[Qp _ hb hn.2]
 .refine⟨_,wo 97 (tj t a 97 (by decide) h),λ hg=>?_⟩
  have e:(if bE t a=97 then (4:Int) else 3)=4:=a1S h
  rw[e,hv] at hg ⊢
  have hn:=(iB _ hg).1 (.inr rfl)
  rw[(dN _ hg).2.2.2.1 rfl]
  show _=97::od (gW (Mo t a))
  rw[Qp _ hb hn.2]
theorem Om(inner:Nat->Nat->RS)(t:List UInt8)(a0 L:Nat)(x:RS)(hx:En t (a0+1) L x)(h0:∃ r,t.drop a0=40::r)(hi:∀ a,L+1<=100->En t a (L+1) (inner a (L+1))):En t a0 L (tN inner t x):=by
 unfold tN
 split
 .rename_i hp
  refine MC inner t a0 L x 6 [32,43,32] (.inl ⟨rfl,rfl⟩) _ _ hx h0 (λ hb=>?_) (hi _)
  obtain⟨b1,b2,r1,b3⟩:=PV t _ 32 (by decide) _ hb
  obtain⟨c1,c2,r2,c3⟩:=PV t _ 32 (by decide) _ b1
  have WZ:bh t x.a 32=x.a+1:=c2
  rw[WZ] at hp b2 b3 ⊢
  have b2':bh t (x.a+1+1) 32=x.a+1+1+1:=b2
  obtain⟨r3,d3⟩:=tj t (x.a+1) 43 (by decide) hp
  have e1:t.drop (x.a+1)=r2:=cb (w:=[32]) c3
  have e2:t.drop (x.a+1+1)=r3:=cb (w:=[43]) d3
  have e3:t.drop (x.a+1+1+1)=r1:=cb (w:=[32]) b3
  refine⟨c1,?_⟩
  rw[b2',e3,c3,<-e1,d3,<-e2,b3];rfl
 .refine MC inner t a0 L x 7 [32] (.inr ⟨rfl,rfl⟩) _ _ hx h0 (λ hb=>?_) (hi _)
  obtain⟨c1,c2,r2,c3⟩:=PV t _ 32 (by decide) _ hb
  have WZ:bh t x.a 32=x.a+1:=c2
  have e1:t.drop (x.a+1)=r2:=cb (w:=[32]) c3
  exact⟨c1,by rw[WZ,e1,c3];rfl⟩
theorem QY(t:List UInt8)(a L:Nat)(k:Int)(c:UInt8)(hc:c≠0)(h:bE t a=(c.toNat:Int))(he:dx (M.mk k 0 [])=true->br (M.mk k 0 [])=[c]):En t a L ⟨M.mk k 0 [],a+1,L,false⟩:=by
 obtain⟨r,hr⟩:=tj t a c hc h
 have h1:t.drop (a+1)=r:=cb (w:=[c]) hr
 exact⟨λ _=>⟨rfl,[c],by rw[h1,hr];rfl,λ hg=>(he hg).symm⟩⟩
theorem zD(t:List UInt8):∀ (g a L:Nat),g+L=100->En t a L (cz t g a L)
 | g,a,L,hgd=>by
  have step:∀ g',g=g'+1->∀ a',En t a' (L+1) (cz t g' a' (L+1)):=λ g' e a'=>zD t g' a' (L+1) (by omega)
  unfold cz
  split
  .rename_i h;exact QY t a L 1 48 (by decide) h (λ hg=>(dN _ hg).1 rfl)
  .split
   .rename_i h;exact QY t a L 2 49 (by decide) h (λ hg=>(dN _ hg).2.1 rfl)
   .split
    .rename_i h;exact Od t a L h
    .split
     .rename_i h
      obtain⟨r,hr⟩:=tj t a 126 (by decide) h
      have h1:t.drop (a+1)=r:=cb (w:=[126]) hr
      cases g with
      | zero=>exact⟨λ hb=>by cases hb⟩
      | succ g =>
       refine⟨λ hb=>?_⟩
       obtain⟨e1,W,e2,e3⟩:=(step g rfl (a+1)).ex hb
       refine⟨by show _ - 1=L;omega,126::W,?_,λ hg=>?_⟩
       .show t.drop a=126::W++t.drop (cz t g (a+1) (L+1)).a
        rw[hr,<-h1,e2];rfl
       .have hk:=uM _ hg 0 (by simp)
        rw[(dN _ hg).2.2.2.2.1 rfl]
        show _=126::br (cz t g (a+1) (L+1)).e
        rw[e3 hk.1]
     .split
      .rename_i h
       have h0:=tj t a 40 (by decide) h
       cases g with
       | zero =>
        refine Om _ t a L _ (rW _ t (a+1) L false (λ h=>by omega)) h0 (λ a' h=>by omega)
       | succ g=>exact Om _ t a L _ (rW _ t (a+1) L false (λ _=>step g rfl _)) h0 (λ a' _=>step g rfl a')
      .exact⟨λ hb=>by cases hb⟩
 termination_by g=>g
def Wu(r:List UInt8):Prop:=∀ b l,r=b::l->b≠42/\gm b=false
def Wp(r:List UInt8):Prop:=∀ b l,r=b::l->gm b=false
theorem TG(b:UInt8)(r:List UInt8)(hb:gm b=true)(hr:Wp r):o7 (b::r)=1:=by
 unfold o7
 rw[a1S hb]
 cases r with
 | nil=>rfl
 | cons c l=>unfold o7;rw[if_neg (by rw[hr c l rfl];decide)]
theorem Mj(t:List UInt8)(a L:Nat)(c:M)(h:dx c=true)(e:c.af=3\/c.af=4)(r:List UInt8)(hr:Wp r)(ht:t.drop a=br c++r):bP t a L=⟨c,a+(br c).length,L,false⟩:=by
 have hn:=(iB c h).1 e
 have hx:=dN c h
 have hg:od c.al=[UInt8.ofNat (48+c.al.toNat)]:=by unfold od;rw[Lib.decDigits_one (by omega)]
 have hb:(UInt8.ofNat (48+c.al.toNat)).toNat=48+c.al.toNat:=by rw[a3Y];omega
 have hd:gm (UInt8.ofNat (48+c.al.toNat))=true:=by unfold gm;rw[hb,decide_eq_true (by omega),decide_eq_true (by omega)];rfl
 have key:∀ (w:UInt8),br c=w::od c.al->t.drop (a+1)=UInt8.ofNat (48+c.al.toNat)::r/\bE t a=(w.toNat:Int)/\(br c).length=2:=by
  intro w e'
  rw[e',hg] at ht
  exact⟨cb (w:=[w]) ht,fH ht,by rw[e',hg];rfl⟩
 have fin:∀ (w:UInt8),br c=w::od c.al->(if bE t a=97 then (4:Int) else 3)=c.af->bP t a L=⟨c,a+(br c).length,L,false⟩:=by
  intro w e' ek
  obtain⟨k1,k2,k3⟩:=key w e'
  have hcn:o7 (t.drop (a+1))=1:=by rw[k1];exact TG _ _ hd hr
  have hnm:Mo t a=[UInt8.ofNat (48+c.al.toNat)]:=by unfold Mo;rw[hcn,k1];rfl
  have hv:gW [UInt8.ofNat (48+c.al.toNat)]=c.al:=by simp only[gW,a4s,a4L,hb];omega
  have hN:j9 9 [UInt8.ofNat (48+c.al.toNat)]=true:=by rw[yP];simp only[a1M,a2b,cG,hd];rfl
  unfold bP
  rw[hcn,hnm,ek,hN,k3]
  have hnv:ia 9 [UInt8.ofNat (48+c.al.toNat)]=c.al:=by unfold ia;rw[hN,hv];rfl
  rw[hnv]
  have hc:=iM c c.af c.al [] rfl rfl (pL c h (by omega))
  rw[<-hc];rfl
 rcases e with e|e
 .exact fin 116 (hx.2.2.1 e) (by rw[(key 116 (hx.2.2.1 e)).2.1,e];decide)
 .exact fin 97 (hx.2.2.2.1 e) (by rw[(key 97 (hx.2.2.2.1 e)).2.1,e];decide)
theorem NQ(inner:Nat->Nat->RS)(t:List UInt8)(a L:Nat)(r:List UInt8)(x c:M)(m n:Nat)(hx:x=aP 8 m (aP 5 n c))
  (V2:br x=List.replicate n 126++(br c++List.replicate m 42)) (LL:L+1<=100) (hr:Wu r) (hd:t.drop a=br x++r)
  (gQ:∀ r',Wp r'->t.drop a=List.replicate n 126++br c++r'->inner a (L+1)=⟨aP 5 n c,a+(n+(br c).length),L+1,false⟩):eZ inner t a L false=⟨x,a+(br x).length,L,false⟩:=by
 have Sa:t.drop a=(List.replicate n 126++br c)++(List.replicate m 42++r):=by rw[hd,V2];simp
 have ky:Wp (List.replicate m 42++r):=by
  intro b l e
  cases m with
  | zero=>exact (hr b l e).2
  | succ m =>
   rw[a3D,a2I] at e
   simp only[a1C] at e
   rw[<-e.1];decide
 have h1:=gQ _ ky Sa
 have VD:=cb Sa
 have hl:(List.replicate n 126++br c).length=n+(br c).length:=by simp
 rw[hl] at VD
 have hm:dO 42 (t.drop (a+(n+(br c).length)))=m:=by rw[VD];exact Ga 42 r (λ b l e=>(hr b l e).1) m
 unfold eZ
 rw[a1B (by simp;omega),h1]
 unfold xB
 simp only[a1G,a4J]
 rw[hm,<-hx]
 have:(br x).length=n+((br c).length+m):=by rw[V2];simp
 simp only[RS.mk.injEq,a1Z,a1H]
 omega
theorem E4:∀ (N:Nat) (n:Nat) (c:M),cd c+n<N->dx c=true->H5 c.af->∀ (t:List UInt8) (g a L:Nat) (r:List UInt8),g+L=100->L+n+2 * bp c<=101->Wp r ->
  t.drop a=List.replicate n 126++br c++r->cz t g a L=⟨aP 5 n c,a+(n+(br c).length),L,false⟩
 | 0,n,c,h,_,_=>by omega
 | N+1,n+1,c,hN,h,hk=>by
  intro t g a L r hg hd hr ht
  have LL:=jc c
  obtain⟨g,rfl⟩:∃ g',g=g'+1:=⟨g - 1,by omega⟩
  have ni:t.drop a=126::(List.replicate n 126++br c++r):=by rw[ht,a3D];rfl
  have h1:t.drop (a+1)=List.replicate n 126++br c++r:=cb (w:=[126]) ni
  have ih:=E4 N n c (by omega) h hk t g (a+1) (L+1) r (by omega) (by omega) hr h1
  have hp:=fH ni
  rw[cz.eq_def];dsimp only;rw[if_neg (by rw[hp];decide),if_neg (by rw[hp];decide),if_neg (by rw[hp];decide),if_pos (by rw[hp];decide)]
  simp only[ih,ep]
  simp only[RS.mk.injEq,a1Z,a1H]
  omega
 | N+1,0,c,hN,h,hk=>by
  intro t g a L r hg hd hr ht
  have ht:t.drop a=br c++r:=by rw[ht];rfl
  have hf:=iB c h
  have hx:=dN c h
  have LL:=jc c
  show cz t g a L=⟨c,a+(0+(br c).length),L,false⟩
  rw[a3j]
  have Dx:∀ i,i<c.J.length->wi c i->∀ g',g=g'+1->∀ (a:Nat) (r:List UInt8),Wu r->t.drop a=br (c.J.getD i zE)++r ->
    eZ (cz t g') t a L false=⟨c.J.getD i zE,a+(br (c.J.getD i zE)).length,L,false⟩:=by
   intro i hi hgk g' eg a r hr TW
   obtain⟨m,n,c',e1,e2,e3,e4,e5,e6⟩:=MF _ _ (a2l _) hgk.1
   have hdk:=pR bp zE c.J i hi
   have hdc:=jc c'
   have hms:cd c'+n<=cd (c.J.getD i zE):=by
    have w:∀ (k:Int) (n:Nat) (e:M),cd (aP k n e)>=cd e+n:=by
     intro k n
     induction n with
     | zero=>intro e;exact a2u _
     | succ n ih =>
      intro e
      have h1:=ih (M.mk k 0 [e])
      have h2:cd [e]<cd (M.mk k 0 [e]):=ly (M.mk k 0 [e])
      have h3:cd e<cd [e]:=ct e [e] 0 (by simp)
      show cd (aP k n (M.mk k 0 [e]))>=_
      omega
    have h1:=w 8 m (aP 5 n c')
    have h2:=w 5 n c'
    rw[<-e1] at h1;omega
   exact NQ (cz t g') t a L r _ c' m n e1 e6 (by omega) hr TW (λ r' LS xc=>E4 N n c' (by have:=hgk.2;omega) e2 e3 t g' a (L+1) r' (by omega) (by omega) LS xc)
  rcases hk with e|e|e|e|e|e
  .rw[hx.1 e] at ht ⊢
   have hp:=fH (show t.drop a=48::r from ht)
   have hc:=iM c 1 0 [] e (mK c h (by omega) (by omega)) (pL c h (by omega))
   rw[cz.eq_def];dsimp only;rw[if_pos (by rw[hp];decide),<-hc];rfl
  .rw[hx.2.1 e] at ht ⊢
   have hp:=fH (show t.drop a=49::r from ht)
   have hc:=iM c 2 0 [] e (mK c h (by omega) (by omega)) (pL c h (by omega))
   rw[cz.eq_def];dsimp only;rw[if_neg (by rw[hp];decide),if_pos (by rw[hp];decide),<-hc];rfl
  .have hp:=fH (show t.drop a=116::(od c.al++r) by rw[ht,hx.2.2.1 e];rfl)
   rw[cz.eq_def];dsimp only;rw[if_neg (by rw[hp];decide),if_neg (by rw[hp];decide),if_pos (by rw[hp];decide)]
   exact Mj t a L c h (.inl e) r hr ht
  .have hp:=fH (show t.drop a=97::(od c.al++r) by rw[ht,hx.2.2.2.1 e];rfl)
   rw[cz.eq_def];dsimp only;rw[if_neg (by rw[hp];decide),if_neg (by rw[hp];decide),if_pos (by rw[hp];decide)]
   exact Mj t a L c h (.inr e) r hr ht
  .obtain⟨hl,k0,k1⟩:=hf.2.2.1 (.inl e)
   have hc:=iM c 6 0 _ e (mK c h (by omega) (by omega)) (CZ c hl)
   have hd0:=pR bp zE c.J 0 (by omega)
   have Sa:=jc (c.J.getD 0 zE)
   obtain⟨g,rfl⟩:∃ g',g=g'+1:=⟨g - 1,by omega⟩
   rw[hx.2.2.2.2.2.1 e] at ht ⊢
   have p0:t.drop a=40::(br (c.J.getD 0 zE)++([32,43,32]++(br (c.J.getD 1 zE)++([41]++r)))):=by rw[ht];simp
   have p1:t.drop (a+1)=br (c.J.getD 0 zE)++([32,43,32]++(br (c.J.getD 1 zE)++([41]++r))):=cb (w:=[40]) p0
   have q1:=Dx 0 (by omega) k0 g rfl (a+1) _ (λ b l g=>by simp at g;rw[<-g.1];decide) p1
   have p2:=cb p1
   have p2a:t.drop (a+1+(br (c.J.getD 0 zE)).length+1)=43::(32::(br (c.J.getD 1 zE)++([41]++r))):=cb (w:=[32]) p2
   have ZF:t.drop (a+1+(br (c.J.getD 0 zE)).length+1+1)=32::(br (c.J.getD 1 zE)++([41]++r)):=cb (w:=[43]) p2a
   have p3:t.drop (a+1+(br (c.J.getD 0 zE)).length+1+1+1)=br (c.J.getD 1 zE)++([41]++r):=cb (w:=[32]) ZF
   have q2:=Dx 1 (by omega) k1 g rfl _ _ (λ b l g=>by simp at g;rw[<-g.1];decide) p3
   have p4:=cb p3
   have hp:=fH p0
   rw[cz.eq_def];dsimp only;rw[if_neg (by rw[hp];decide),if_neg (by rw[hp];decide),if_neg (by rw[hp];decide),if_neg (by rw[hp];decide),if_pos (by rw[hp];decide)]
   simp only[q1]
   unfold tN
   have y1:bh t (a+1+(br (c.J.getD 0 zE)).length) 32=_:=(sK (c:=32) p2 false).1
   have y2:bF t (a+1+(br (c.J.getD 0 zE)).length) 32 false=false:=(sK (c:=32) p2 false).2
   have y3:bh t (a+1+(br (c.J.getD 0 zE)).length+1+1) 32=_:=(sK (c:=32) ZF false).1
   have y4:bF t (a+1+(br (c.J.getD 0 zE)).length+1+1) 32 false=false:=(sK (c:=32) ZF false).2
   simp only[y1,y2,y3,y4]
   rw[a1S (by rw[fH p2a];decide)]
   unfold xy
   simp only[q2]
   have y5:bh t _ 41=_:=(sK (c:=41) p4 false).1
   have y6:bF t _ 41 false=false:=(sK (c:=41) p4 false).2
   rw[y5,y6,<-hc]
   simp only[RS.mk.injEq,a1Z,a1H,a1T,a1M,a2b];omega
  .obtain⟨hl,k0,k1⟩:=hf.2.2.1 (.inr e)
   have hc:=iM c 7 0 _ e (mK c h (by omega) (by omega)) (CZ c hl)
   have hd0:=pR bp zE c.J 0 (by omega)
   have Sa:=jc (c.J.getD 0 zE)
   obtain⟨g,rfl⟩:∃ g',g=g'+1:=⟨g - 1,by omega⟩
   rw[hx.2.2.2.2.2.2.1 e] at ht ⊢
   have p0:t.drop a=40::(br (c.J.getD 0 zE)++([32]++(br (c.J.getD 1 zE)++([41]++r)))):=by rw[ht];simp
   have p1:t.drop (a+1)=br (c.J.getD 0 zE)++([32]++(br (c.J.getD 1 zE)++([41]++r))):=cb (w:=[40]) p0
   have q1:=Dx 0 (by omega) k0 g rfl (a+1) _ (λ b l g=>by simp at g;rw[<-g.1];decide) p1
   have p2:=cb p1
   have p3:t.drop (a+1+(br (c.J.getD 0 zE)).length+1)=br (c.J.getD 1 zE)++([41]++r):=cb (w:=[32]) p2
   have q2:=Dx 1 (by omega) k1 g rfl _ _ (λ b l g=>by simp at g;rw[<-g.1];decide) p3
   have p4:=cb p3
   obtain⟨b1,l1,f1,f2⟩:=Lq _ k1.1
   have hp:=fH p0
   rw[cz.eq_def];dsimp only;rw[if_neg (by rw[hp];decide),if_neg (by rw[hp];decide),if_neg (by rw[hp];decide),if_neg (by rw[hp];decide),if_pos (by rw[hp];decide)]
   simp only[q1]
   unfold tN
   have y1:bh t (a+1+(br (c.J.getD 0 zE)).length) 32=_:=(sK (c:=32) p2 false).1
   have y2:bF t (a+1+(br (c.J.getD 0 zE)).length) 32 false=false:=(sK (c:=32) p2 false).2
   simp only[y1,y2]
   have a0y:¬ bE t (a+1+(br (c.J.getD 0 zE)).length+1)=43:=by
    have p3':=p3
    rw[f1] at p3'
    rw[fH p3']
    intro hh
    exact f2 (UInt8.toNat_inj.1 (by simpa using Int.ofNat_inj.1 hh))
   rw[a1B a0y]
   unfold xy
   simp only[q2]
   have y5:bh t _ 41=_:=(sK (c:=41) p4 false).1
   have y6:bF t _ 41 false=false:=(sK (c:=41) p4 false).2
   rw[y5,y6,<-hc]
   simp only[RS.mk.injEq,a1Z,a1H,a1T,a1M,a2b];omega
theorem Sr(gg:bb)(x:M)(hg:cf gg=true)(h:J5 gg x=true):dx x=true/\bp x<=40/\(br x).length<=1000:=by
 rw[L4] at h
 rw[z6] at hg
 rw[zV _ (by omega),zV _ (by omega)] at h
 have ht:=Cx _ _ 9 9 (by omega) (by omega) x h.1
 have:=tu (cd x+1) x (a2l _) ht
 exact⟨ht,h.2.2,by have:=h.2.1;omega⟩
def Ru(t:List UInt8):RI:=lT (dU t 41) t 0
def a0L(gg:bb)(t:List UInt8):Bool:=(Ru t).ok&&decide ((Ru t).a=t.length)&&J5 gg (Ru t).e&&decide (br (Ru t).e=t)
def SR(gg:bb)(t:List UInt8):M:=bif a0L gg t then (Ru t).e else zX
end
end Go.Proofs.YtaaamahdcpcofaaDoor

set_option maxRecDepth 4000
set_option maxHeartbeats 4000000
namespace Go.Proofs.YtaaamahdcpcofaaDoor
noncomputable section
def pg:bu:=⟨zJ,[.v (.int .i64), .v (.int .i64)],λ (k:Int) (m:Int)=>⟨(none,[⟨(.st .expr),M.mk k m []⟩])⟩⟩
def D5(k:Int)(m:Int):Nat->aW:=λ _ => .none
theorem M5(k:Int)(m:Int):dd (dr [] [] [] [] []) (aD oe) (D5 k m) 0 (ti (dr [] [] [] [] []) oe λ r=>bR r [⟨(.st .expr),M.mk k m []⟩]) (z7 oe [.val ⟨(.int .i64),k⟩, .val ⟨(.int .i64),m⟩]) =
 ((M.mk k m [])=(M.mk k m [])):=by kernel_rfl
theorem My(hE:aR [])(hO:ja [])(hM:iu [])(hS:gO []):bu.uy pg:=by
 refine⟨aB DK rfl (by decide),?_⟩
 show ∀ (k:Int) (m:Int),True->rP prog zJ [.val ⟨(.int .i64),k⟩, .val ⟨(.int .i64),m⟩] [⟨(.st .expr),M.mk k m []⟩]
 intro k m _
 refine wO (own:=[]) (wr:=[]) (cl:=[]) (ro:=[]) hE hO hM hS DK JR (D5 k m) ?_
 rewrite [M5 k m]
 refine rfl
 all_goals try and_intros
 all_goals first|rfl|trivial|omega|(simp only[a1F,a1L,aZ,ah,dD,eM,j0,fI] at *;omega)|(simp[aZ,ah] at *;omega)|grind
theorem Iy:bu.uy pg:=My trivial trivial trivial trivial
def iI:bu:=⟨zK,[.v (.int .i64), .o (.slice (.st .expr))],λ (k:Int) (ks:List M)=>⟨(none,[⟨(.st .expr),M.mk k 0 ks⟩])⟩⟩
def D6(k:Int)(ks:List M):Nat->aW:=λ _ => .none
theorem M6(k:Int)(ks:List M):dd (dr [] [] [] [] []) (aD og) (D6 k ks) 0 (ti (dr [] [] [] [] []) og λ r=>bR r [⟨(.st .expr),M.mk k 0 ks⟩]) (z7 og [.val ⟨(.int .i64),k⟩, .own ⟨(.slice (.st .expr)),ks⟩]) =
 ((M.mk k (0:Int) ks)=(M.mk k 0 ks)):=by kernel_rfl
theorem Mz(hE:aR [])(hO:ja [])(hM:iu [])(hS:gO []):bu.uy iI:=by
 refine⟨aB DL rfl (by decide),?_⟩
 show ∀ (k:Int) (ks:List M),True->rP prog zK [.val ⟨(.int .i64),k⟩, .own ⟨(.slice (.st .expr)),ks⟩] [⟨(.st .expr),M.mk k 0 ks⟩]
 intro k ks _
 refine wO (own:=[]) (wr:=[]) (cl:=[]) (ro:=[]) hE hO hM hS DL JS (D6 k ks) ?_
 rewrite [M6 k ks]
 refine ?_
 all_goals try and_intros
 all_goals first|rfl|trivial|omega|(simp only[a1F,a1L,aZ,ah,dD,eM,j0,fI] at *;omega)|(simp[aZ,ah] at *;omega)|grind
theorem yQ:bu.uy iI:=Mz trivial trivial trivial trivial
end
end Go.Proofs.YtaaamahdcpcofaaDoor

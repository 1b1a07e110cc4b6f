/- Marks in lists of lists of numbers and booleans. Printed by vmk.py. -/
import Derived.Test.YtmdefiphdgcijaaDoorVmUse
import Derived.Test.YtmdefiphdgcijaaDoorVmLib
import Derived.Test.YtmdefiphdgcijaaDoorVmEq
set_option linter.unusedVariables false
set_option linter.unusedSimpArgs false
set_option linter.unusedSectionVars false
set_option maxRecDepth 4000
set_option maxHeartbeats 4000000
namespace Go.Proofs.YtmdefiphdgcijaaDoor
noncomputable section
def b4x{α:Type}(f:List α)(xs:List α)(i:Nat):List α:=f.take i++xs.drop i
theorem e5t{α:Type}(f xs:List α):xs=b4x f xs 0:=by simp[b4x]
theorem e7t{α:Type}(f xs:List α)(i:Nat)(h:f.length=xs.length)(hi:xs.length≤i):b4x f xs i=f:=by
 simp[b4x,List.take_of_length_le (h ▸ hi),List.drop_eq_nil_of_le hi]
theorem e2l{α:Type}(f xs:List α)(i:Nat)(h:f.length=xs.length):(b4x f xs i).length=xs.length:=by
 simp[b4x];omega
theorem e5s{α:Type}(f xs:List α)(d:α)(i:Nat)(h:f.length=xs.length)(hi:i<xs.length):(b4x f xs i).getD i d=xs.getD i d:=by
 simp only[b4x,List.getD_eq_getElem?_getD]
 rw[List.getElem?_append_right (by simp;omega)]
 simp[h,Nat.min_eq_left (Nat.le_of_lt hi)]
theorem e7u{α:Type}(f xs:List α)(d:α)(i:Nat)(h:f.length=xs.length)(hi:i<xs.length):(b4x f xs i).set i (f.getD i d)=b4x f xs (i+1):=by
 unfold b4x
 rw[List.set_append_right _ _ (by simp;omega)]
 have e:i - (List.take i f).length=0:=by simp;omega
 rw[e,List.drop_eq_getElem_cons (by omega:i<xs.length),List.set_cons_zero,a2k d f i (by omega)]
 simp
def mkL{α:Type}(cnt:α→Nat)(mk:Int→α→α)(k:Int):List α→List α
 | []=>[]
 | x::xs=>mk k x::mkL cnt mk (k+(cnt x:Int)) xs
theorem a5o{α:Type}(cnt:α→Nat)(mk:Int→α→α):∀ (k:Int) (xs:List α),(mkL cnt mk k xs).length=xs.length
 | _,[]=>rfl
 | k,x::xs=>by simp[mkL,a5o cnt mk _ xs]
theorem c6u{α:Type}(cnt:α→Nat)(mk:Int→α→α)(z:α):∀ (k:Int) (xs:List α) (i:Nat),i<xs.length→(mkL cnt mk k xs).getD i z=mk (k+(szL cnt (xs.take i):Int)) (xs.getD i z)
 | k,[],i,h=>by simp at h
 | k,x::xs,0,h=>by simp[mkL,szL]
 | k,x::xs,i+1,h=>by
  have:=c6u cnt mk z (k+(cnt x:Int)) xs i (by simpa using h)
  simp only[mkL,List.getD_cons_succ,this,List.take_succ_cons,szL]
  congr 1
  omega
theorem e8b{α:Type}(cnt:α→Nat)(mk:Int→α→α)(k:Int)(xs:List α)(i:Nat)(z:α)(h:i<xs.length)(y:α)(e:y=mk (k+(szL cnt (xs.take i):Int)) (xs.getD i z)) :
  (b4x (mkL cnt mk k xs) xs i).set i y=b4x (mkL cnt mk k xs) xs (i+1):=by
 rw[e,←c6u cnt mk z k xs i h,e7u _ _ z i (a5o cnt mk k xs) h]
theorem c0b{α:Type}(cnt:α→Nat)(h:∀ x,1≤cnt x):∀ xs:List α,xs.length≤szL cnt xs
 | []=>by simp[szL]
 | x::xs=>by
  have:=c0b cnt h xs
  have:=h x
  simp only[szL,List.length_cons];omega
theorem e1r{α:Type}(cnt:α→Nat)(mk:Int→α→α)(z:α):∀ (k:Int) (xs:List α) (i:Nat),i<xs.length→mkL cnt mk k (xs.take (i+1))=mkL cnt mk k (xs.take i)++[mk (k+(szL cnt (xs.take i):Int)) (xs.getD i z)]
 | k,[],i,h=>by simp at h
 | k,x::xs,0,h=>by simp[mkL,szL]
 | k,x::xs,i+1,h=>by
  have:=e1r cnt mk z (k+(cnt x:Int)) xs i (by simpa using h)
  simp only[List.take_succ_cons,mkL,this,List.getD_cons_succ,szL,List.cons_append]
  congr 4
  omega
theorem b2s{α:Type}(cnt:α→Nat)(mk:Int→α→α)(h1:∀ k x,mk k (mk k x)=mk k x)(h2:∀ k x,cnt (mk k x)=cnt x):∀ (k:Int) (xs:List α),mkL cnt mk k (mkL cnt mk k xs)=mkL cnt mk k xs∧szL cnt (mkL cnt mk k xs)=szL cnt xs
 | _,[]=>⟨rfl,rfl⟩
 | k,x::xs=>by
  obtain⟨i1,i2⟩:=b2s cnt mk h1 h2 (k+(cnt x:Int)) xs
  simp only[mkL,szL,h1,h2,i1,i2,and_self]
def okL{α:Type}[DecidableEq α](cnt:α→Nat)(mk:Int→α→α)(k:Int)(xs:List α):Bool:=decide (mkL cnt mk k xs=xs)
def a0y{α:Type}[DecidableEq α](cnt:α→Nat)(mk:Int→α→α)(k:Int)(xs:List α):Int:=bif okL cnt mk k xs then k+(szL cnt xs:Int) else -1
theorem b3k{α:Type}[DecidableEq α](cnt:α→Nat)(mk:Int→α→α)(k:Int)(xs:List α):(okL cnt mk k xs=true∧a0y cnt mk k xs=k+(szL cnt xs:Int))∨(okL cnt mk k xs=false∧a0y cnt mk k xs = -1):=by
 unfold a0y
 cases okL cnt mk k xs<;>simp
theorem e1h{α:Type}[DecidableEq α](cnt:α→Nat)(mk:Int→α→α)(h1:∀ k x,mk k (mk k x)=mk k x)(h2:∀ k x,cnt (mk k x)=cnt x)(k:Int)(xs:List α):okL cnt mk k (mkL cnt mk k xs)=true∧a0y cnt mk k (mkL cnt mk k xs)=k+(szL cnt xs:Int):=by
 obtain⟨e1,e2⟩:=b2s cnt mk h1 h2 k xs
 have:okL cnt mk k (mkL cnt mk k xs)=true:=decide_eq_true e1
 refine⟨this,?_⟩
 unfold a0y
 rw[this,e2];rfl
theorem c1b{α:Type}[DecidableEq α](cnt:α→Nat)(mk:Int→α→α)(z:α)(k:Int)(xs:List α)(i:Nat)(h:i<xs.length):okL cnt mk k (xs.take (i+1))=(okL cnt mk k (xs.take i)&&decide (mk (k+(szL cnt (xs.take i):Int)) (xs.getD i z)=xs.getD i z)):=by
 rw[Bool.eq_iff_iff,Bool.and_eq_true]
 simp only[okL,decide_eq_true_eq]
 rw[e1r cnt mk z k xs i h,a2k z xs i h]
 constructor
 ·intro e
  have:=List.append_inj e (by rw[a5o])
  exact⟨this.1,by simpa using this.2⟩
 ·rintro⟨e1,e2⟩;rw[e1,e2]
theorem c5b{α:Type}[DecidableEq α](cnt:α→Nat)(mk:Int→α→α)(z:α)(k:Int)(xs:List α)(i:Nat)(h:i<xs.length)(e:¬ mk (k+(szL cnt (xs.take i):Int)) (xs.getD i z)=xs.getD i z):okL cnt mk k xs=false:=by
 refine decide_eq_false fun q=>e ?_
 have h1:=c6u cnt mk z k xs i h
 rw[q] at h1
 exact h1.symm
theorem c1a{α:Type}[DecidableEq α](cnt:α→Nat)(mk:Int→α→α)(k:Int)(xs:List α)(i:Nat)(h:xs.length≤i):okL cnt mk k (xs.take i)=okL cnt mk k xs:=by rw[List.take_of_length_le h]
def hfL{α:Type}(cnt:α→Nat)(mk:Int→α→α)(k:Int)(xs:List α)(i:Nat):List α:=b4x (mkL cnt mk k xs) xs i
theorem c0k{α:Type}(cnt:α→Nat)(mk:Int→α→α)(k:Int)(xs:List α):xs=hfL cnt mk k xs 0:=e5t _ _
theorem c4c{α:Type}(cnt:α→Nat)(mk:Int→α→α)(k:Int)(xs:List α)(i:Nat)(h:xs.length≤i):hfL cnt mk k xs i=mkL cnt mk k xs:=e7t _ _ i (a5o cnt mk k xs) h
theorem c4e{α:Type}(cnt:α→Nat)(mk:Int→α→α)(k:Int)(xs:List α)(i:Nat):(hfL cnt mk k xs i).length=xs.length:=e2l _ _ i (a5o cnt mk k xs)
theorem c4d{α:Type}(cnt:α→Nat)(mk:Int→α→α)(k:Int)(xs:List α)(i:Nat)(z:α)(h:i<xs.length):(hfL cnt mk k xs i).getD i z=xs.getD i z:=e5s _ _ z i (a5o cnt mk k xs) h
theorem c0j{α:Type}(cnt:α→Nat)(mk:Int→α→α)(k:Int)(xs:List α)(i:Nat)(z:α)(h:i<xs.length):(hfL cnt mk k xs i).set i (mk (k+(szL cnt (xs.take i):Int)) (xs.getD i z))=hfL cnt mk k xs (i+1):=e8b cnt mk k xs i z h _ rfl
def cB(_:Bool):Nat:=1
def mB(k:Int)(_:Bool):Bool:=decide (Int.tmod k 3=0)
abbrev cn1(xs:List Bool):Nat:=szL cB xs
abbrev mk1(k:Int)(xs:List Bool):List Bool:=mkL cB mB k xs
abbrev cn2(xs:List (List Bool)):Nat:=szL cn1 xs
abbrev mk2(k:Int)(xs:List (List Bool)):List (List Bool):=mkL cn1 mk1 k xs
structure f2n(xs:List (List (List Bool))):Prop where
 len:xs.length≤1048576
 at_:∀ i,(xs.getD i []).length≤1048576
def cI(_:Int):Nat:=1
def mI(k:Int)(_:Int):Int:=k
abbrev ci1(xs:List Int):Nat:=szL cI xs
abbrev mi1(k:Int)(xs:List Int):List Int:=mkL cI mI k xs
abbrev ci2(xs:List (List Int)):Nat:=szL ci1 xs
abbrev mi2(k:Int)(xs:List (List Int)):List (List Int):=mkL ci1 mi1 k xs
structure a5x(xs:List (List (List Int))):Prop where
 len:xs.length≤1048576
 at_:∀ i,(xs.getD i []).length≤1048576
theorem b3c(k x:Int):mI k x=k:=rfl
theorem b4t(x:Int):cI x=1:=rfl
theorem e5z(k:Int)(xs:List Int):mi1 k (mi1 k xs)=mi1 k xs:=(b2s cI mI (fun _ _=>rfl) (fun _ _=>rfl) k xs).1
theorem e5g(k:Int)(xs:List Int):ci1 (mi1 k xs)=ci1 xs:=(b2s cI mI (fun _ _=>rfl) (fun _ _=>rfl) k xs).2
theorem e6a(k:Int)(xs:List (List Int)):mi2 k (mi2 k xs)=mi2 k xs:=(b2s ci1 mi1 e5z e5g k xs).1
theorem e5h(k:Int)(xs:List (List Int)):ci2 (mi2 k xs)=ci2 xs:=(b2s ci1 mi1 e5z e5g k xs).2
theorem f1s(k:Int)(xs:List Int):(mi1 k xs=xs→a0y cI mI k xs=k+(ci1 xs:Int))∧(¬ mi1 k xs=xs→a0y cI mI k xs = -1):=by
 refine⟨fun h=>?_,fun h=>?_⟩<;>unfold a0y okL
 ·rw[decide_eq_true (show mkL cI mI k xs=xs from h)];rfl
 ·rw[decide_eq_false (show ¬ mkL cI mI k xs=xs from h)];rfl
theorem f1t(k:Int)(xs:List (List Int)):(mi2 k xs=xs→a0y ci1 mi1 k xs=k+(ci2 xs:Int))∧(¬ mi2 k xs=xs→a0y ci1 mi1 k xs = -1):=by
 refine⟨fun h=>?_,fun h=>?_⟩<;>unfold a0y okL
 ·rw[decide_eq_true (show mkL ci1 mi1 k xs=xs from h)];rfl
 ·rw[decide_eq_false (show ¬ mkL ci1 mi1 k xs=xs from h)];rfl
theorem e8y(k:Int)(x:Bool):mB k (mB k x)=mB k x:=rfl
theorem e8v(k:Int)(x:Bool):cB (mB k x)=cB x:=rfl
theorem e6c(k:Int)(xs:List Bool):mk1 k (mk1 k xs)=mk1 k xs:=(b2s cB mB e8y e8v k xs).1
theorem e5i(k:Int)(xs:List Bool):cn1 (mk1 k xs)=cn1 xs:=(b2s cB mB e8y e8v k xs).2
theorem e5j(k:Int)(xs:List (List Bool)):cn2 (mk2 k xs)=cn2 xs:=(b2s cn1 mk1 e6c e5i k xs).2
theorem b3b(k:Int)(x:Bool):mB k x=decide (Int.tmod k 3=0):=rfl
theorem b4s(x:Bool):cB x=1:=rfl
theorem f2e(k:Int)(xs:List Bool):(mk1 k xs=xs→a0y cB mB k xs=k+(cn1 xs:Int))∧(¬ mk1 k xs=xs→a0y cB mB k xs = -1):=by
 refine⟨fun h=>?_,fun h=>?_⟩<;>unfold a0y okL
 ·rw[decide_eq_true (show mkL cB mB k xs=xs from h)];rfl
 ·rw[decide_eq_false (show ¬ mkL cB mB k xs=xs from h)];rfl
def a3t:MK:=⟨c0v,⟨(.slice .bool),fun (xs:List Bool) (k:Int)=>(some (0≤k∧k+(szL cB xs:Int)≤4611686018427387904),mkL cB mB k xs,k+(szL cB xs:Int))⟩⟩
def b2c(xs:List Bool)(k:Int):Nat→a0w:=(fun zb=>if Nat.beq zb 0 then .mk (Nat) (fun i=>i≤xs.length) (fun i=>xs.length - i) [] [2,3] (fun i=>[(5, .imm ⟨(.int .i64),((i:Int):Int)⟩),(1, .imm ⟨(.int .i64),((k+(szL cB (xs.take i):Int)):Int)⟩),(0, .tree 50)]) [0,1,4,5,6,7,8,9,10,11,12,13,14,15,16,17,18,19,20] (fun i=>[(50, .tree .bool (hfL cB mB k xs i:List Bool))]) [] [] (fun i=>fun _ => .none) else .none)
theorem d1b(xs:List Bool)(k:Int):awp (a6n [] [] [] [] []) (a0m a2r) (b2c xs k) 0 (a3s a2r a3t.m xs k) (a1v a2r ⟨(.slice .bool),xs⟩ k) =
 (((∃ i1:Nat,(i1≤xs.length∧((True∧(k=(k+(szL cB (xs.take i1):Int))∧((0:Int)=(0:Int)∧((0:Int)=(i1:Int)∧True))))∧(xs=(hfL cB mB k xs i1)∧True))))∧(∀ i1:Nat,(i1≤xs.length →
 (((decide ((i1:Int)<(((hfL cB mB k xs i1).length:Int))))=true →
 (((3:Int)≠(0:Int)∧a0e ((k+(szL cB (xs.take i1):Int)).tmod (3:Int)))∧(a0j (i1:Int) (hfL cB mB k xs i1).length∧(a0e ((k+(szL cB (xs.take i1):Int))+(1:Int))∧(a0e ((i1:Int)+(1:Int))∧(∃ i2:Nat,(i2≤xs.length∧(xs.length - i2<xs.length - i1∧((True∧(((k+(szL cB (xs.take i1):Int))+(1:Int))=(k+(szL cB (xs.take i2):Int))∧((0:Int)=(0:Int)∧(((i1:Int)+(1:Int))=(i2:Int)∧True))))∧(((hfL cB mB k xs i1).set i1 (decide (((k+(szL cB (xs.take i1):Int)).tmod (3:Int))=(0:Int))))=(hfL cB mB k xs i2)∧True))))))))))∧((decide ((i1:Int)<(((hfL cB mB k xs i1).length:Int))))=false →
 ((k+(szL cB (xs.take i1):Int))=(k+(szL cB xs:Int))∧(hfL cB mB k xs i1)=(mkL cB mB k xs)))))))):=by kernel_rfl
theorem d0h(hE:a0z [])(hO:b3g [])(hM:b3f [])(hS:b3h []):MK.Good a3t:=by
 refine⟨a1g b8j rfl (by decide),b0i (own:=[]) (wr:=[]) (cl:=[]) (ro:=[]) hE hO hM hS b8j c7z (fun xs k=>b2c xs k) (fun x=>Nat.le_of_ble_eq_true rfl) (Nat.le_of_ble_eq_true (by kernel_rfl)) ?_⟩
 show ∀ (xs:List Bool) (k:Int),(0≤k∧k+(szL cB xs:Int)≤4611686018427387904)→a0e k→awp (a6n [] [] [] [] []) (a0m a2r) (b2c xs k) 0 (a3s a2r a3t.m xs k) (a1v a2r ⟨(.slice .bool),xs⟩ k)
 intro xs k hp hk
 rewrite [d1b xs k]
 have f0:=c0k cB mB k xs
 have f1:=a8m cB xs
 have f3:=c0b cB (fun _=>Nat.le_refl 1) xs
 refine⟨⟨0,⟨?_,⟨⟨trivial,⟨?_,⟨rfl,⟨?_,trivial⟩⟩⟩⟩,⟨?_,trivial⟩⟩⟩⟩,fun i1 a0=>have b0x0:=c4c cB mB k xs i1;have b0x1:=c4e cB mB k xs i1;have b0x2:=c4d cB mB k xs i1 false;have b0x3:=c0j cB mB k xs i1 false;have b0x4:=a7c cB false xs i1;have b0x5:=a1l cB xs i1;have b0x6:=a1l cB xs (i1+1);have b0x7:=b0k cB xs i1;⟨fun a1=>⟨⟨?_,?_⟩,⟨?_,⟨?_,⟨?_,⟨i1+1,⟨?_,⟨?_,⟨⟨trivial,⟨?_,⟨rfl,⟨?_,trivial⟩⟩⟩⟩,⟨?_,trivial⟩⟩⟩⟩⟩⟩⟩⟩⟩,fun a1=>⟨?_,?_⟩⟩⟩
 all_goals try and_intros
 all_goals first|rfl|trivial|omega|(simp only[decide_eq_true_eq,decide_eq_false_iff_not,a0j,a0e,b3b,b4s,b3c,b4t,Bool.not_eq_true',Bool.not_eq_false'] at *;first|omega|grind)|grind
theorem c6t:MK.Good a3t:=d0h trivial trivial trivial trivial
def a3g:MK:=⟨b8p,⟨(.slice (.slice .bool)),fun (xs:List (List Bool)) (k:Int)=>(some (0≤k∧k+(szL cn1 xs:Int)≤4611686018427387904∧xs.length≤1048576),mkL cn1 mk1 k xs,k+(szL cn1 xs:Int))⟩⟩
def b0w(xs:List (List Bool))(k:Int):Nat→a0w:=(fun zb=>if Nat.beq zb 0 then .mk (Nat) (fun i=>i≤xs.length) (fun i=>xs.length - i) [] [2,3] (fun i=>[(5, .imm ⟨(.int .i64),((i:Int):Int)⟩),(1, .imm ⟨(.int .i64),((k+(szL cn1 (xs.take i):Int)):Int)⟩),(0, .tree 50)]) [0,1,4,5,6,7,8,9,10,11,12,13,14,15,16,17,18] (fun i=>[(50, .tree (.slice .bool) (hfL cn1 mk1 k xs i:List (List Bool)))]) [] [] (fun i=>fun _ => .none) else .none)
theorem c8j(xs:List (List Bool))(k:Int):awp (a6n [] [] [a3t] [17] []) (a0m a2l) (b0w xs k) 0 (a3s a2l a3g.m xs k) (a1v a2l ⟨(.slice (.slice .bool)),xs⟩ k) =
 (((∃ i1:Nat,(i1≤xs.length∧((True∧(k=(k+(szL cn1 (xs.take i1):Int))∧((0:Int)=(0:Int)∧((0:Int)=(i1:Int)∧True))))∧(xs=(hfL cn1 mk1 k xs i1)∧True))))∧(∀ i1:Nat,(i1≤xs.length →
 (((decide ((i1:Int)<(((hfL cn1 mk1 k xs i1).length:Int))))=true →
 (a0j (i1:Int) (hfL cn1 mk1 k xs i1).length∧((0≤(k+(szL cn1 (xs.take i1):Int))∧(k+(szL cn1 (xs.take i1):Int))+(szL cB ((hfL cn1 mk1 k xs i1).getD i1 []):Int)≤4611686018427387904)∧(a0e ((i1:Int)+(1:Int))∧(∃ i2:Nat,(i2≤xs.length∧(xs.length - i2<xs.length - i1∧((True∧(((k+(szL cn1 (xs.take i1):Int))+(szL cB ((hfL cn1 mk1 k xs i1).getD i1 []):Int))=(k+(szL cn1 (xs.take i2):Int))∧((0:Int)=(0:Int)∧(((i1:Int)+(1:Int))=(i2:Int)∧True))))∧(((hfL cn1 mk1 k xs i1).set i1 (mkL cB mB (k+(szL cn1 (xs.take i1):Int)) ((hfL cn1 mk1 k xs i1).getD i1 [])))=(hfL cn1 mk1 k xs i2)∧True)))))))))∧((decide ((i1:Int)<(((hfL cn1 mk1 k xs i1).length:Int))))=false →
 ((k+(szL cn1 (xs.take i1):Int))=(k+(szL cn1 xs:Int))∧(hfL cn1 mk1 k xs i1)=(mkL cn1 mk1 k xs)))))))):=by kernel_rfl
theorem c8f(hE:a0z [])(hO:b3g [])(hM:b3f [a3t])(hS:b3h []):MK.Good a3g:=by
 refine⟨a1g b7g rfl (by decide),b0i (own:=[17]) (wr:=[]) (cl:=[]) (ro:=[]) hE hO hM hS b7g c5w (fun xs k=>b0w xs k) (fun x=>Nat.le_of_ble_eq_true rfl) (Nat.le_of_ble_eq_true (by kernel_rfl)) ?_⟩
 show ∀ (xs:List (List Bool)) (k:Int),(0≤k∧k+(szL cn1 xs:Int)≤4611686018427387904∧xs.length≤1048576)→a0e k→awp (a6n [] [] [a3t] [17] []) (a0m a2l) (b0w xs k) 0 (a3s a2l a3g.m xs k) (a1v a2l ⟨(.slice (.slice .bool)),xs⟩ k)
 intro xs k hp hk
 rewrite [c8j xs k]
 have f0:=c0k cn1 mk1 k xs
 have f1:=a8m cn1 xs
 refine⟨⟨0,⟨?_,⟨⟨trivial,⟨?_,⟨rfl,⟨?_,trivial⟩⟩⟩⟩,⟨?_,trivial⟩⟩⟩⟩,fun i1 a0=>have b0x0:=c4c cn1 mk1 k xs i1;have b0x1:=c4e cn1 mk1 k xs i1;have b0x2:=c4d cn1 mk1 k xs i1 [];have b0x3:=c0j cn1 mk1 k xs i1 [];have b0x4:=a7c cn1 [] xs i1;have b0x5:=a1l cn1 xs i1;have b0x6:=a1l cn1 xs (i1+1);have b0x7:=b0k cn1 xs i1;⟨fun a1=>⟨?_,⟨?_,⟨?_,⟨i1+1,⟨?_,⟨?_,⟨⟨trivial,⟨?_,⟨rfl,⟨?_,trivial⟩⟩⟩⟩,⟨?_,trivial⟩⟩⟩⟩⟩⟩⟩⟩,fun a1=>⟨?_,?_⟩⟩⟩
 all_goals try and_intros
 all_goals first|rfl|trivial|omega|(simp only[decide_eq_true_eq,decide_eq_false_iff_not,a0j,a0e,b3b,b4s,b3c,b4t,Bool.not_eq_true',Bool.not_eq_false'] at *;first|omega|grind)|grind
theorem c4x:MK.Good a3g:=c8f trivial trivial ⟨c6t,trivial⟩ trivial
def a3h:MK:=⟨b8q,⟨(.slice (.int .i64)),fun (xs:List Int) (k:Int)=>(some (0≤k∧k+(szL cI xs:Int)≤4611686018427387904),mkL cI mI k xs,k+(szL cI xs:Int))⟩⟩
def b0x(xs:List Int)(k:Int):Nat→a0w:=(fun zb=>if Nat.beq zb 0 then .mk (Nat) (fun i=>i≤xs.length) (fun i=>xs.length - i) [] [2,3] (fun i=>[(5, .imm ⟨(.int .i64),((i:Int):Int)⟩),(1, .imm ⟨(.int .i64),((k+(szL cI (xs.take i):Int)):Int)⟩),(0, .tree 50)]) [0,1,4,5,6,7,8,9,10,11,12,13,14,15,16,17,18] (fun i=>[(50, .tree (.int .i64) (hfL cI mI k xs i:List Int))]) [] [] (fun i=>fun _ => .none) else .none)
theorem c8k(xs:List Int)(k:Int):awp (a6n [] [] [] [] []) (a0m a2m) (b0x xs k) 0 (a3s a2m a3h.m xs k) (a1v a2m ⟨(.slice (.int .i64)),xs⟩ k) =
 (((∃ i1:Nat,(i1≤xs.length∧((True∧(k=(k+(szL cI (xs.take i1):Int))∧((0:Int)=(0:Int)∧((0:Int)=(i1:Int)∧True))))∧(xs=(hfL cI mI k xs i1)∧True))))∧(∀ i1:Nat,(i1≤xs.length →
 (((decide ((i1:Int)<(((hfL cI mI k xs i1).length:Int))))=true →
 (a0j (i1:Int) (hfL cI mI k xs i1).length∧(a0e ((k+(szL cI (xs.take i1):Int))+(1:Int))∧(a0e ((i1:Int)+(1:Int))∧(∃ i2:Nat,(i2≤xs.length∧(xs.length - i2<xs.length - i1∧((True∧(((k+(szL cI (xs.take i1):Int))+(1:Int))=(k+(szL cI (xs.take i2):Int))∧((0:Int)=(0:Int)∧(((i1:Int)+(1:Int))=(i2:Int)∧True))))∧(((hfL cI mI k xs i1).set i1 (k+(szL cI (xs.take i1):Int)))=(hfL cI mI k xs i2)∧True)))))))))∧((decide ((i1:Int)<(((hfL cI mI k xs i1).length:Int))))=false →
 ((k+(szL cI (xs.take i1):Int))=(k+(szL cI xs:Int))∧(hfL cI mI k xs i1)=(mkL cI mI k xs)))))))):=by kernel_rfl
theorem c8g(hE:a0z [])(hO:b3g [])(hM:b3f [])(hS:b3h []):MK.Good a3h:=by
 refine⟨a1g b7h rfl (by decide),b0i (own:=[]) (wr:=[]) (cl:=[]) (ro:=[]) hE hO hM hS b7h c5x (fun xs k=>b0x xs k) (fun x=>Nat.le_of_ble_eq_true rfl) (Nat.le_of_ble_eq_true (by kernel_rfl)) ?_⟩
 show ∀ (xs:List Int) (k:Int),(0≤k∧k+(szL cI xs:Int)≤4611686018427387904)→a0e k→awp (a6n [] [] [] [] []) (a0m a2m) (b0x xs k) 0 (a3s a2m a3h.m xs k) (a1v a2m ⟨(.slice (.int .i64)),xs⟩ k)
 intro xs k hp hk
 rewrite [c8k xs k]
 have f0:=c0k cI mI k xs
 have f1:=a8m cI xs
 have f3:=c0b cI (fun _=>Nat.le_refl 1) xs
 refine⟨⟨0,⟨?_,⟨⟨trivial,⟨?_,⟨rfl,⟨?_,trivial⟩⟩⟩⟩,⟨?_,trivial⟩⟩⟩⟩,fun i1 a0=>have b0x0:=c4c cI mI k xs i1;have b0x1:=c4e cI mI k xs i1;have b0x2:=c4d cI mI k xs i1 0;have b0x3:=c0j cI mI k xs i1 0;have b0x4:=a7c cI 0 xs i1;have b0x5:=a1l cI xs i1;have b0x6:=a1l cI xs (i1+1);have b0x7:=b0k cI xs i1;⟨fun a1=>⟨?_,⟨?_,⟨?_,⟨i1+1,⟨?_,⟨?_,⟨⟨trivial,⟨?_,⟨rfl,⟨?_,trivial⟩⟩⟩⟩,⟨?_,trivial⟩⟩⟩⟩⟩⟩⟩⟩,fun a1=>⟨?_,?_⟩⟩⟩
 all_goals try and_intros
 all_goals first|rfl|trivial|omega|(simp only[decide_eq_true_eq,decide_eq_false_iff_not,a0j,a0e,b3b,b4s,b3c,b4t,Bool.not_eq_true',Bool.not_eq_false'] at *;first|omega|grind)|grind
theorem c4y:MK.Good a3h:=c8g trivial trivial trivial trivial
def a2y:MK:=⟨b7s,⟨(.slice (.slice (.int .i64))),fun (xs:List (List Int)) (k:Int)=>(some (0≤k∧k+(szL ci1 xs:Int)≤4611686018427387904∧xs.length≤1048576),mkL ci1 mi1 k xs,k+(szL ci1 xs:Int))⟩⟩
def b0m(xs:List (List Int))(k:Int):Nat→a0w:=(fun zb=>if Nat.beq zb 0 then .mk (Nat) (fun i=>i≤xs.length) (fun i=>xs.length - i) [] [2,3] (fun i=>[(5, .imm ⟨(.int .i64),((i:Int):Int)⟩),(1, .imm ⟨(.int .i64),((k+(szL ci1 (xs.take i):Int)):Int)⟩),(0, .tree 50)]) [0,1,4,5,6,7,8,9,10,11,12,13,14,15,16,17,18] (fun i=>[(50, .tree (.slice (.int .i64)) (hfL ci1 mi1 k xs i:List (List Int)))]) [] [] (fun i=>fun _ => .none) else .none)
theorem c7g(xs:List (List Int))(k:Int):awp (a6n [] [] [a3h] [17] []) (a0m a2f) (b0m xs k) 0 (a3s a2f a2y.m xs k) (a1v a2f ⟨(.slice (.slice (.int .i64))),xs⟩ k) =
 (((∃ i1:Nat,(i1≤xs.length∧((True∧(k=(k+(szL ci1 (xs.take i1):Int))∧((0:Int)=(0:Int)∧((0:Int)=(i1:Int)∧True))))∧(xs=(hfL ci1 mi1 k xs i1)∧True))))∧(∀ i1:Nat,(i1≤xs.length →
 (((decide ((i1:Int)<(((hfL ci1 mi1 k xs i1).length:Int))))=true →
 (a0j (i1:Int) (hfL ci1 mi1 k xs i1).length∧((0≤(k+(szL ci1 (xs.take i1):Int))∧(k+(szL ci1 (xs.take i1):Int))+(szL cI ((hfL ci1 mi1 k xs i1).getD i1 []):Int)≤4611686018427387904)∧(a0e ((i1:Int)+(1:Int))∧(∃ i2:Nat,(i2≤xs.length∧(xs.length - i2<xs.length - i1∧((True∧(((k+(szL ci1 (xs.take i1):Int))+(szL cI ((hfL ci1 mi1 k xs i1).getD i1 []):Int))=(k+(szL ci1 (xs.take i2):Int))∧((0:Int)=(0:Int)∧(((i1:Int)+(1:Int))=(i2:Int)∧True))))∧(((hfL ci1 mi1 k xs i1).set i1 (mkL cI mI (k+(szL ci1 (xs.take i1):Int)) ((hfL ci1 mi1 k xs i1).getD i1 [])))=(hfL ci1 mi1 k xs i2)∧True)))))))))∧((decide ((i1:Int)<(((hfL ci1 mi1 k xs i1).length:Int))))=false →
 ((k+(szL ci1 (xs.take i1):Int))=(k+(szL ci1 xs:Int))∧(hfL ci1 mi1 k xs i1)=(mkL ci1 mi1 k xs)))))))):=by kernel_rfl
theorem c6y(hE:a0z [])(hO:b3g [])(hM:b3f [a3h])(hS:b3h []):MK.Good a2y:=by
 refine⟨a1g b5p rfl (by decide),b0i (own:=[17]) (wr:=[]) (cl:=[]) (ro:=[]) hE hO hM hS b5p c3v (fun xs k=>b0m xs k) (fun x=>Nat.le_of_ble_eq_true rfl) (Nat.le_of_ble_eq_true (by kernel_rfl)) ?_⟩
 show ∀ (xs:List (List Int)) (k:Int),(0≤k∧k+(szL ci1 xs:Int)≤4611686018427387904∧xs.length≤1048576)→a0e k→awp (a6n [] [] [a3h] [17] []) (a0m a2f) (b0m xs k) 0 (a3s a2f a2y.m xs k) (a1v a2f ⟨(.slice (.slice (.int .i64))),xs⟩ k)
 intro xs k hp hk
 rewrite [c7g xs k]
 have f0:=c0k ci1 mi1 k xs
 have f1:=a8m ci1 xs
 refine⟨⟨0,⟨?_,⟨⟨trivial,⟨?_,⟨rfl,⟨?_,trivial⟩⟩⟩⟩,⟨?_,trivial⟩⟩⟩⟩,fun i1 a0=>have b0x0:=c4c ci1 mi1 k xs i1;have b0x1:=c4e ci1 mi1 k xs i1;have b0x2:=c4d ci1 mi1 k xs i1 [];have b0x3:=c0j ci1 mi1 k xs i1 [];have b0x4:=a7c ci1 [] xs i1;have b0x5:=a1l ci1 xs i1;have b0x6:=a1l ci1 xs (i1+1);have b0x7:=b0k ci1 xs i1;⟨fun a1=>⟨?_,⟨?_,⟨?_,⟨i1+1,⟨?_,⟨?_,⟨⟨trivial,⟨?_,⟨rfl,⟨?_,trivial⟩⟩⟩⟩,⟨?_,trivial⟩⟩⟩⟩⟩⟩⟩⟩,fun a1=>⟨?_,?_⟩⟩⟩
 all_goals try and_intros
 all_goals first|rfl|trivial|omega|(simp only[decide_eq_true_eq,decide_eq_false_iff_not,a0j,a0e,b3b,b4s,b3c,b4t,Bool.not_eq_true',Bool.not_eq_false'] at *;first|omega|grind)|grind
theorem c3d:MK.Good a2y:=c6y trivial trivial ⟨c4y,trivial⟩ trivial
def a2s:MK:=⟨b6a,⟨(.slice (.slice (.slice (.int .i64)))),fun (xs:List (List (List Int))) (k:Int)=>(some (0≤k∧k+(szL ci2 xs:Int)≤4611686018427387904∧a5x xs),mkL ci2 mi2 k xs,k+(szL ci2 xs:Int))⟩⟩
def a9u(xs:List (List (List Int)))(k:Int):Nat→a0w:=(fun zb=>if Nat.beq zb 0 then .mk (Nat) (fun i=>i≤xs.length) (fun i=>xs.length - i) [] [2,3] (fun i=>[(5, .imm ⟨(.int .i64),((i:Int):Int)⟩),(1, .imm ⟨(.int .i64),((k+(szL ci2 (xs.take i):Int)):Int)⟩),(0, .tree 50)]) [0,1,4,5,6,7,8,9,10,11,12,13,14,15,16,17,18] (fun i=>[(50, .tree (.slice (.slice (.int .i64))) (hfL ci2 mi2 k xs i:List (List (List Int))))]) [] [] (fun i=>fun _ => .none) else .none)
theorem c5o(xs:List (List (List Int)))(k:Int):awp (a6n [] [] [a2y] [17] []) (a0m a2a) (a9u xs k) 0 (a3s a2a a2s.m xs k) (a1v a2a ⟨(.slice (.slice (.slice (.int .i64)))),xs⟩ k) =
 (((∃ i1:Nat,(i1≤xs.length∧((True∧(k=(k+(szL ci2 (xs.take i1):Int))∧((0:Int)=(0:Int)∧((0:Int)=(i1:Int)∧True))))∧(xs=(hfL ci2 mi2 k xs i1)∧True))))∧(∀ i1:Nat,(i1≤xs.length →
 (((decide ((i1:Int)<(((hfL ci2 mi2 k xs i1).length:Int))))=true →
 (a0j (i1:Int) (hfL ci2 mi2 k xs i1).length∧((0≤(k+(szL ci2 (xs.take i1):Int))∧(k+(szL ci2 (xs.take i1):Int))+(szL ci1 ((hfL ci2 mi2 k xs i1).getD i1 []):Int)≤4611686018427387904∧((hfL ci2 mi2 k xs i1).getD i1 []).length≤1048576)∧(a0e ((i1:Int)+(1:Int))∧(∃ i2:Nat,(i2≤xs.length∧(xs.length - i2<xs.length - i1∧((True∧(((k+(szL ci2 (xs.take i1):Int))+(szL ci1 ((hfL ci2 mi2 k xs i1).getD i1 []):Int))=(k+(szL ci2 (xs.take i2):Int))∧((0:Int)=(0:Int)∧(((i1:Int)+(1:Int))=(i2:Int)∧True))))∧(((hfL ci2 mi2 k xs i1).set i1 (mkL ci1 mi1 (k+(szL ci2 (xs.take i1):Int)) ((hfL ci2 mi2 k xs i1).getD i1 [])))=(hfL ci2 mi2 k xs i2)∧True)))))))))∧((decide ((i1:Int)<(((hfL ci2 mi2 k xs i1).length:Int))))=false →
 ((k+(szL ci2 (xs.take i1):Int))=(k+(szL ci2 xs:Int))∧(hfL ci2 mi2 k xs i1)=(mkL ci2 mi2 k xs)))))))):=by kernel_rfl
theorem c5e(hE:a0z [])(hO:b3g [])(hM:b3f [a2y])(hS:b3h []):MK.Good a2s:=by
 refine⟨a1g b4p rfl (by decide),b0i (own:=[17]) (wr:=[]) (cl:=[]) (ro:=[]) hE hO hM hS b4p c2t (fun xs k=>a9u xs k) (fun x=>Nat.le_of_ble_eq_true rfl) (Nat.le_of_ble_eq_true (by kernel_rfl)) ?_⟩
 show ∀ (xs:List (List (List Int))) (k:Int),(0≤k∧k+(szL ci2 xs:Int)≤4611686018427387904∧a5x xs)→a0e k→awp (a6n [] [] [a2y] [17] []) (a0m a2a) (a9u xs k) 0 (a3s a2a a2s.m xs k) (a1v a2a ⟨(.slice (.slice (.slice (.int .i64)))),xs⟩ k)
 intro xs k hp hk
 rewrite [c5o xs k]
 have f0:=c0k ci2 mi2 k xs
 have f1:=a8m ci2 xs
 obtain⟨f4,f5⟩:=(show a5x xs from hp.2.2)
 refine⟨⟨0,⟨?_,⟨⟨trivial,⟨?_,⟨rfl,⟨?_,trivial⟩⟩⟩⟩,⟨?_,trivial⟩⟩⟩⟩,fun i1 a0=>have b0x0:=c4c ci2 mi2 k xs i1;have b0x1:=c4e ci2 mi2 k xs i1;have b0x2:=c4d ci2 mi2 k xs i1 [];have b0x3:=c0j ci2 mi2 k xs i1 [];have b0x4:=a7c ci2 [] xs i1;have b0x5:=a1l ci2 xs i1;have b0x6:=a1l ci2 xs (i1+1);have b0x7:=b0k ci2 xs i1;⟨fun a1=>⟨?_,⟨?_,⟨?_,⟨i1+1,⟨?_,⟨?_,⟨⟨trivial,⟨?_,⟨rfl,⟨?_,trivial⟩⟩⟩⟩,⟨?_,trivial⟩⟩⟩⟩⟩⟩⟩⟩,fun a1=>⟨?_,?_⟩⟩⟩
 all_goals try and_intros
 all_goals first|rfl|trivial|omega|(simp only[decide_eq_true_eq,decide_eq_false_iff_not,a0j,a0e,b3b,b4s,b3c,b4t,Bool.not_eq_true',Bool.not_eq_false'] at *;first|omega|grind)|grind
theorem c1n:MK.Good a2s:=c5e trivial trivial ⟨c3d,trivial⟩ trivial
def a7b:Ctr:=⟨b3o,[.v (.slice .bool), .v (.int .i64)],fun (xs:List Bool) (k:Int)=>⟨(some (0≤k∧k+(szL cB xs:Int)≤4611686018427387904),[⟨(.int .i64),a0y cB mB k xs⟩])⟩⟩
def c0o(xs:List Bool)(k:Int):Nat→a0w:=(fun zb=>if Nat.beq zb 0 then .mk (Nat) (fun i=>i≤xs.length∧okL cB mB k (xs.take i)=true) (fun i=>xs.length - i) [] [2,3] (fun i=>[(5, .imm ⟨(.int .i64),((i:Int):Int)⟩),(1, .imm ⟨(.int .i64),((k+(szL cB (xs.take i):Int)):Int)⟩)]) [0,1,4,5,6,7,8,9,10,11,12,13,14,15,16,17,18,19,20,21,22] (fun i=>[]) [] [] (fun i=>fun _ => .none) else .none)
theorem d2o(xs:List Bool)(k:Int):awp (a1c []) (a0m a5f) (c0o xs k) 0 (a1m (a1c []) a5f fun r=>a2e r [⟨(.int .i64),a0y cB mB k xs⟩]) (a0q a5f [.val ⟨(.slice .bool),xs⟩, .val ⟨(.int .i64),k⟩]) =
 (((∃ i1:Nat,((i1≤xs.length∧okL cB mB k (xs.take i1)=true)∧((xs=xs∧(k=(k+(szL cB (xs.take i1):Int))∧((0:Int)=(i1:Int)∧True)))∧True)))∧(∀ i1:Nat,((i1≤xs.length∧okL cB mB k (xs.take i1)=true) →
 (a0e ((xs.length:Int)) →
 (((decide ((i1:Int)<((xs.length:Int))))=true →
 (a0j (i1:Int) xs.length∧(((3:Int)≠(0:Int)∧a0e ((k+(szL cB (xs.take i1):Int)).tmod (3:Int)))∧(((!((xs.getD i1 false) == (decide (((k+(szL cB (xs.take i1):Int)).tmod (3:Int))=(0:Int)))))=true →
 (-1:Int)=(a0y cB mB k xs))∧((!((xs.getD i1 false) == (decide (((k+(szL cB (xs.take i1):Int)).tmod (3:Int))=(0:Int)))))=false →
 (a0e ((k+(szL cB (xs.take i1):Int))+(1:Int))∧(a0e ((i1:Int)+(1:Int))∧(∃ i2:Nat,((i2≤xs.length∧okL cB mB k (xs.take i2)=true)∧(xs.length - i2<xs.length - i1∧((xs=xs∧(((k+(szL cB (xs.take i1):Int))+(1:Int))=(k+(szL cB (xs.take i2):Int))∧(((i1:Int)+(1:Int))=(i2:Int)∧True)))∧True)))))))))))∧((decide ((i1:Int)<((xs.length:Int))))=false →
 (k+(szL cB (xs.take i1):Int))=(a0y cB mB k xs)))))))):=by kernel_rfl
theorem d2l(hE:a0z []):Ctr.Good a7b:=by
 refine⟨a1g b8i rfl (by decide),?_⟩
 show ∀ (xs:List Bool) (k:Int),(0≤k∧k+(szL cB xs:Int)≤4611686018427387904)→a1h a0k b3o [.val ⟨(.slice .bool),xs⟩, .val ⟨(.int .i64),k⟩] (·=[⟨(.int .i64),a0y cB mB k xs⟩])
 intro xs k hp
 refine a1k (wr:=[]) (cl:=[]) (ro:=[]) hE b8i c7y (c0o xs k) ?_
 rewrite [d2o xs k]
 have f0:okL cB mB k (xs.take 0)=true:=rfl
 have f1:=a8m cB xs
 have f3:=c0b cB (fun _=>Nat.le_refl 1) xs
 have f2:=b3k cB mB k xs
 refine⟨⟨0,⟨?_,⟨⟨rfl,⟨?_,⟨?_,trivial⟩⟩⟩,trivial⟩⟩⟩,fun i1 a0=>have b0x0:=c1b cB mB false k xs i1;have b0x1:=c5b cB mB false k xs i1;have b0x2:=c1a cB mB k xs i1;have b0x3:=a7c cB false xs i1;have b0x4:=a1l cB xs i1;have b0x5:=a1l cB xs (i1+1);have b0x6:=b0k cB xs i1;have b0x7:=b3b (k+(szL cB (xs.take i1):Int)) (xs.getD i1 false);fun a1=>⟨fun a2=>⟨?_,⟨⟨?_,?_⟩,⟨fun a3=>?_,fun a3=>⟨?_,⟨?_,⟨i1+1,⟨?_,⟨?_,⟨⟨rfl,⟨?_,⟨?_,trivial⟩⟩⟩,trivial⟩⟩⟩⟩⟩⟩⟩⟩⟩,fun a2=>?_⟩⟩
 all_goals try and_intros
 all_goals first|rfl|trivial|omega|(simp only[decide_eq_true_eq,decide_eq_false_iff_not,a0j,a0e,b3b,b4s,b3c,b4t,Bool.not_eq_true',Bool.not_eq_false'] at *;first|omega|grind)|grind
theorem c8c:Ctr.Good a7b:=d2l trivial
def a6j:Ctr:=⟨b2e,[.v (.slice (.slice .bool)), .v (.int .i64)],fun (xs:List (List Bool)) (k:Int)=>⟨(some (0≤k∧k+(szL cn1 xs:Int)≤4611686018427387904∧xs.length≤1048576),[⟨(.int .i64),a0y cn1 mk1 k xs⟩])⟩⟩
def b8m(xs:List (List Bool))(k:Int):Nat→a0w:=(fun zb=>if Nat.beq zb 0 then .mk (Nat) (fun i=>i≤xs.length∧okL cn1 mk1 k (xs.take i)=true) (fun i=>xs.length - i) [] [2,3] (fun i=>[(5, .imm ⟨(.int .i64),((i:Int):Int)⟩),(1, .imm ⟨(.int .i64),((k+(szL cn1 (xs.take i):Int)):Int)⟩)]) [0,1,4,5,6,7,8,9,10,11,12,13,14,15,16,17,18,19,20] (fun i=>[]) [] [] (fun i=>fun _ => .none) else .none)
theorem d0z(xs:List (List Bool))(k:Int):awp (a1c [a7b]) (a0m a4u) (b8m xs k) 0 (a1m (a1c [a7b]) a4u fun r=>a2e r [⟨(.int .i64),a0y cn1 mk1 k xs⟩]) (a0q a4u [.val ⟨(.slice (.slice .bool)),xs⟩, .val ⟨(.int .i64),k⟩]) =
 (((∃ i1:Nat,((i1≤xs.length∧okL cn1 mk1 k (xs.take i1)=true)∧((xs=xs∧(k=(k+(szL cn1 (xs.take i1):Int))∧((0:Int)=(i1:Int)∧True)))∧True)))∧(∀ i1:Nat,((i1≤xs.length∧okL cn1 mk1 k (xs.take i1)=true) →
 (a0e ((xs.length:Int)) →
 (((decide ((i1:Int)<((xs.length:Int))))=true →
 (a0j (i1:Int) xs.length∧((xs.getD i1 []).length≤140737488355328 →
 ((0≤(k+(szL cn1 (xs.take i1):Int))∧(k+(szL cn1 (xs.take i1):Int))+(szL cB (xs.getD i1 []):Int)≤4611686018427387904)∧(a0e (a0y cB mB (k+(szL cn1 (xs.take i1):Int)) (xs.getD i1 [])) →
 (((decide ((a0y cB mB (k+(szL cn1 (xs.take i1):Int)) (xs.getD i1 []))<(0:Int)))=true →
 (-1:Int)=(a0y cn1 mk1 k xs))∧((decide ((a0y cB mB (k+(szL cn1 (xs.take i1):Int)) (xs.getD i1 []))<(0:Int)))=false →
 (a0e ((i1:Int)+(1:Int))∧(∃ i2:Nat,((i2≤xs.length∧okL cn1 mk1 k (xs.take i2)=true)∧(xs.length - i2<xs.length - i1∧((xs=xs∧((a0y cB mB (k+(szL cn1 (xs.take i1):Int)) (xs.getD i1 []))=(k+(szL cn1 (xs.take i2):Int))∧(((i1:Int)+(1:Int))=(i2:Int)∧True)))∧True))))))))))))∧((decide ((i1:Int)<((xs.length:Int))))=false →
 (k+(szL cn1 (xs.take i1):Int))=(a0y cn1 mk1 k xs)))))))):=by kernel_rfl
theorem d0f(hE:a0z [a7b]):Ctr.Good a6j:=by
 refine⟨a1g b7e rfl (by decide),?_⟩
 show ∀ (xs:List (List Bool)) (k:Int),(0≤k∧k+(szL cn1 xs:Int)≤4611686018427387904∧xs.length≤1048576)→a1h a0k b2e [.val ⟨(.slice (.slice .bool)),xs⟩, .val ⟨(.int .i64),k⟩] (·=[⟨(.int .i64),a0y cn1 mk1 k xs⟩])
 intro xs k hp
 refine a1k (wr:=[]) (cl:=[]) (ro:=[]) hE b7e c5u (b8m xs k) ?_
 rewrite [d0z xs k]
 have f0:okL cn1 mk1 k (xs.take 0)=true:=rfl
 have f1:=a8m cn1 xs
 have f2:=b3k cn1 mk1 k xs
 refine⟨⟨0,⟨?_,⟨⟨rfl,⟨?_,⟨?_,trivial⟩⟩⟩,trivial⟩⟩⟩,fun i1 a0=>have b0x0:=c1b cn1 mk1 [] k xs i1;have b0x1:=c5b cn1 mk1 [] k xs i1;have b0x2:=c1a cn1 mk1 k xs i1;have b0x3:=a7c cn1 [] xs i1;have b0x4:=a1l cn1 xs i1;have b0x5:=a1l cn1 xs (i1+1);have b0x6:=b0k cn1 xs i1;have b0x7:=f2e (k+(szL cn1 (xs.take i1):Int)) (xs.getD i1 []);fun a1=>⟨fun a2=>⟨?_,fun a3=>⟨?_,fun a4=>⟨fun a5=>?_,fun a5=>⟨?_,⟨i1+1,⟨?_,⟨?_,⟨⟨rfl,⟨?_,⟨?_,trivial⟩⟩⟩,trivial⟩⟩⟩⟩⟩⟩⟩⟩,fun a2=>?_⟩⟩
 all_goals try and_intros
 all_goals first|rfl|trivial|omega|(simp only[decide_eq_true_eq,decide_eq_false_iff_not,a0j,a0e,b3b,b4s,b3c,b4t,Bool.not_eq_true',Bool.not_eq_false'] at *;first|omega|grind)|grind
theorem c6i:Ctr.Good a6j:=d0f ⟨c8c,trivial⟩
def a6k:Ctr:=⟨b2f,[.v (.slice (.int .i64)), .v (.int .i64)],fun (xs:List Int) (k:Int)=>⟨(some (0≤k∧k+(szL cI xs:Int)≤4611686018427387904),[⟨(.int .i64),a0y cI mI k xs⟩])⟩⟩
def b8n(xs:List Int)(k:Int):Nat→a0w:=(fun zb=>if Nat.beq zb 0 then .mk (Nat) (fun i=>i≤xs.length∧okL cI mI k (xs.take i)=true) (fun i=>xs.length - i) [] [2,3] (fun i=>[(5, .imm ⟨(.int .i64),((i:Int):Int)⟩),(1, .imm ⟨(.int .i64),((k+(szL cI (xs.take i):Int)):Int)⟩)]) [0,1,4,5,6,7,8,9,10,11,12,13,14,15,16,17,18,19,20] (fun i=>[]) [] [] (fun i=>fun _ => .none) else .none)
theorem d1a(xs:List Int)(k:Int):awp (a1c []) (a0m a4v) (b8n xs k) 0 (a1m (a1c []) a4v fun r=>a2e r [⟨(.int .i64),a0y cI mI k xs⟩]) (a0q a4v [.val ⟨(.slice (.int .i64)),xs⟩, .val ⟨(.int .i64),k⟩]) =
 (((∃ i1:Nat,((i1≤xs.length∧okL cI mI k (xs.take i1)=true)∧((xs=xs∧(k=(k+(szL cI (xs.take i1):Int))∧((0:Int)=(i1:Int)∧True)))∧True)))∧(∀ i1:Nat,((i1≤xs.length∧okL cI mI k (xs.take i1)=true) →
 (a0e ((xs.length:Int)) →
 (((decide ((i1:Int)<((xs.length:Int))))=true →
 (a0j (i1:Int) xs.length∧(a0e (xs.getD i1 (0:Int)) →
 (((!(decide ((xs.getD i1 (0:Int))=(k+(szL cI (xs.take i1):Int)))))=true →
 (-1:Int)=(a0y cI mI k xs))∧((!(decide ((xs.getD i1 (0:Int))=(k+(szL cI (xs.take i1):Int)))))=false →
 (a0e ((k+(szL cI (xs.take i1):Int))+(1:Int))∧(a0e ((i1:Int)+(1:Int))∧(∃ i2:Nat,((i2≤xs.length∧okL cI mI k (xs.take i2)=true)∧(xs.length - i2<xs.length - i1∧((xs=xs∧(((k+(szL cI (xs.take i1):Int))+(1:Int))=(k+(szL cI (xs.take i2):Int))∧(((i1:Int)+(1:Int))=(i2:Int)∧True)))∧True)))))))))))∧((decide ((i1:Int)<((xs.length:Int))))=false →
 (k+(szL cI (xs.take i1):Int))=(a0y cI mI k xs)))))))):=by kernel_rfl
theorem d0g(hE:a0z []):Ctr.Good a6k:=by
 refine⟨a1g b7f rfl (by decide),?_⟩
 show ∀ (xs:List Int) (k:Int),(0≤k∧k+(szL cI xs:Int)≤4611686018427387904)→a1h a0k b2f [.val ⟨(.slice (.int .i64)),xs⟩, .val ⟨(.int .i64),k⟩] (·=[⟨(.int .i64),a0y cI mI k xs⟩])
 intro xs k hp
 refine a1k (wr:=[]) (cl:=[]) (ro:=[]) hE b7f c5v (b8n xs k) ?_
 rewrite [d1a xs k]
 have f0:okL cI mI k (xs.take 0)=true:=rfl
 have f1:=a8m cI xs
 have f3:=c0b cI (fun _=>Nat.le_refl 1) xs
 have f2:=b3k cI mI k xs
 refine⟨⟨0,⟨?_,⟨⟨rfl,⟨?_,⟨?_,trivial⟩⟩⟩,trivial⟩⟩⟩,fun i1 a0=>have b0x0:=c1b cI mI 0 k xs i1;have b0x1:=c5b cI mI 0 k xs i1;have b0x2:=c1a cI mI k xs i1;have b0x3:=a7c cI 0 xs i1;have b0x4:=a1l cI xs i1;have b0x5:=a1l cI xs (i1+1);have b0x6:=b0k cI xs i1;have b0x7:=b3c (k+(szL cI (xs.take i1):Int)) (xs.getD i1 0);fun a1=>⟨fun a2=>⟨?_,fun a3=>⟨fun a4=>?_,fun a4=>⟨?_,⟨?_,⟨i1+1,⟨?_,⟨?_,⟨⟨rfl,⟨?_,⟨?_,trivial⟩⟩⟩,trivial⟩⟩⟩⟩⟩⟩⟩⟩,fun a2=>?_⟩⟩
 all_goals try and_intros
 all_goals first|rfl|trivial|omega|(simp only[decide_eq_true_eq,decide_eq_false_iff_not,a0j,a0e,b3b,b4s,b3c,b4t,Bool.not_eq_true',Bool.not_eq_false'] at *;first|omega|grind)|grind
theorem c6j:Ctr.Good a6k:=d0g trivial
def a5t:Ctr:=⟨b0z,[.v (.slice (.slice (.int .i64))), .v (.int .i64)],fun (xs:List (List Int)) (k:Int)=>⟨(some (0≤k∧k+(szL ci1 xs:Int)≤4611686018427387904∧xs.length≤1048576),[⟨(.int .i64),a0y ci1 mi1 k xs⟩])⟩⟩
def b7q(xs:List (List Int))(k:Int):Nat→a0w:=(fun zb=>if Nat.beq zb 0 then .mk (Nat) (fun i=>i≤xs.length∧okL ci1 mi1 k (xs.take i)=true) (fun i=>xs.length - i) [] [2,3] (fun i=>[(5, .imm ⟨(.int .i64),((i:Int):Int)⟩),(1, .imm ⟨(.int .i64),((k+(szL ci1 (xs.take i):Int)):Int)⟩)]) [0,1,4,5,6,7,8,9,10,11,12,13,14,15,16,17,18,19,20] (fun i=>[]) [] [] (fun i=>fun _ => .none) else .none)
theorem c8i(xs:List (List Int))(k:Int):awp (a1c [a6k]) (a0m a4d) (b7q xs k) 0 (a1m (a1c [a6k]) a4d fun r=>a2e r [⟨(.int .i64),a0y ci1 mi1 k xs⟩]) (a0q a4d [.val ⟨(.slice (.slice (.int .i64))),xs⟩, .val ⟨(.int .i64),k⟩]) =
 (((∃ i1:Nat,((i1≤xs.length∧okL ci1 mi1 k (xs.take i1)=true)∧((xs=xs∧(k=(k+(szL ci1 (xs.take i1):Int))∧((0:Int)=(i1:Int)∧True)))∧True)))∧(∀ i1:Nat,((i1≤xs.length∧okL ci1 mi1 k (xs.take i1)=true) →
 (a0e ((xs.length:Int)) →
 (((decide ((i1:Int)<((xs.length:Int))))=true →
 (a0j (i1:Int) xs.length∧((xs.getD i1 []).length≤140737488355328 →
 ((0≤(k+(szL ci1 (xs.take i1):Int))∧(k+(szL ci1 (xs.take i1):Int))+(szL cI (xs.getD i1 []):Int)≤4611686018427387904)∧(a0e (a0y cI mI (k+(szL ci1 (xs.take i1):Int)) (xs.getD i1 [])) →
 (((decide ((a0y cI mI (k+(szL ci1 (xs.take i1):Int)) (xs.getD i1 []))<(0:Int)))=true →
 (-1:Int)=(a0y ci1 mi1 k xs))∧((decide ((a0y cI mI (k+(szL ci1 (xs.take i1):Int)) (xs.getD i1 []))<(0:Int)))=false →
 (a0e ((i1:Int)+(1:Int))∧(∃ i2:Nat,((i2≤xs.length∧okL ci1 mi1 k (xs.take i2)=true)∧(xs.length - i2<xs.length - i1∧((xs=xs∧((a0y cI mI (k+(szL ci1 (xs.take i1):Int)) (xs.getD i1 []))=(k+(szL ci1 (xs.take i2):Int))∧(((i1:Int)+(1:Int))=(i2:Int)∧True)))∧True))))))))))))∧((decide ((i1:Int)<((xs.length:Int))))=false →
 (k+(szL ci1 (xs.take i1):Int))=(a0y ci1 mi1 k xs)))))))):=by kernel_rfl
theorem c8e(hE:a0z [a6k]):Ctr.Good a5t:=by
 refine⟨a1g b5o rfl (by decide),?_⟩
 show ∀ (xs:List (List Int)) (k:Int),(0≤k∧k+(szL ci1 xs:Int)≤4611686018427387904∧xs.length≤1048576)→a1h a0k b0z [.val ⟨(.slice (.slice (.int .i64))),xs⟩, .val ⟨(.int .i64),k⟩] (·=[⟨(.int .i64),a0y ci1 mi1 k xs⟩])
 intro xs k hp
 refine a1k (wr:=[]) (cl:=[]) (ro:=[]) hE b5o c3u (b7q xs k) ?_
 rewrite [c8i xs k]
 have f0:okL ci1 mi1 k (xs.take 0)=true:=rfl
 have f1:=a8m ci1 xs
 have f2:=b3k ci1 mi1 k xs
 refine⟨⟨0,⟨?_,⟨⟨rfl,⟨?_,⟨?_,trivial⟩⟩⟩,trivial⟩⟩⟩,fun i1 a0=>have b0x0:=c1b ci1 mi1 [] k xs i1;have b0x1:=c5b ci1 mi1 [] k xs i1;have b0x2:=c1a ci1 mi1 k xs i1;have b0x3:=a7c ci1 [] xs i1;have b0x4:=a1l ci1 xs i1;have b0x5:=a1l ci1 xs (i1+1);have b0x6:=b0k ci1 xs i1;have b0x7:=f1s (k+(szL ci1 (xs.take i1):Int)) (xs.getD i1 []);fun a1=>⟨fun a2=>⟨?_,fun a3=>⟨?_,fun a4=>⟨fun a5=>?_,fun a5=>⟨?_,⟨i1+1,⟨?_,⟨?_,⟨⟨rfl,⟨?_,⟨?_,trivial⟩⟩⟩,trivial⟩⟩⟩⟩⟩⟩⟩⟩,fun a2=>?_⟩⟩
 all_goals try and_intros
 all_goals first|rfl|trivial|omega|(simp only[decide_eq_true_eq,decide_eq_false_iff_not,a0j,a0e,b3b,b4s,b3c,b4t,Bool.not_eq_true',Bool.not_eq_false'] at *;first|omega|grind)|grind
theorem c4b:Ctr.Good a5t:=c8e ⟨c6j,trivial⟩
def a5a:Ctr:=⟨b0n,[.v (.slice (.slice (.slice (.int .i64)))), .v (.int .i64)],fun (xs:List (List (List Int))) (k:Int)=>⟨(some (0≤k∧k+(szL ci2 xs:Int)≤4611686018427387904∧a5x xs),[⟨(.int .i64),a0y ci2 mi2 k xs⟩])⟩⟩
def b5z(xs:List (List (List Int)))(k:Int):Nat→a0w:=(fun zb=>if Nat.beq zb 0 then .mk (Nat) (fun i=>i≤xs.length∧okL ci2 mi2 k (xs.take i)=true) (fun i=>xs.length - i) [] [2,3] (fun i=>[(5, .imm ⟨(.int .i64),((i:Int):Int)⟩),(1, .imm ⟨(.int .i64),((k+(szL ci2 (xs.take i):Int)):Int)⟩)]) [0,1,4,5,6,7,8,9,10,11,12,13,14,15,16,17,18,19,20] (fun i=>[]) [] [] (fun i=>fun _ => .none) else .none)
theorem c7f(xs:List (List (List Int)))(k:Int):awp (a1c [a5t]) (a0m a3y) (b5z xs k) 0 (a1m (a1c [a5t]) a3y fun r=>a2e r [⟨(.int .i64),a0y ci2 mi2 k xs⟩]) (a0q a3y [.val ⟨(.slice (.slice (.slice (.int .i64)))),xs⟩, .val ⟨(.int .i64),k⟩]) =
 (((∃ i1:Nat,((i1≤xs.length∧okL ci2 mi2 k (xs.take i1)=true)∧((xs=xs∧(k=(k+(szL ci2 (xs.take i1):Int))∧((0:Int)=(i1:Int)∧True)))∧True)))∧(∀ i1:Nat,((i1≤xs.length∧okL ci2 mi2 k (xs.take i1)=true) →
 (a0e ((xs.length:Int)) →
 (((decide ((i1:Int)<((xs.length:Int))))=true →
 (a0j (i1:Int) xs.length∧((xs.getD i1 []).length≤140737488355328 →
 ((0≤(k+(szL ci2 (xs.take i1):Int))∧(k+(szL ci2 (xs.take i1):Int))+(szL ci1 (xs.getD i1 []):Int)≤4611686018427387904∧(xs.getD i1 []).length≤1048576)∧(a0e (a0y ci1 mi1 (k+(szL ci2 (xs.take i1):Int)) (xs.getD i1 [])) →
 (((decide ((a0y ci1 mi1 (k+(szL ci2 (xs.take i1):Int)) (xs.getD i1 []))<(0:Int)))=true →
 (-1:Int)=(a0y ci2 mi2 k xs))∧((decide ((a0y ci1 mi1 (k+(szL ci2 (xs.take i1):Int)) (xs.getD i1 []))<(0:Int)))=false →
 (a0e ((i1:Int)+(1:Int))∧(∃ i2:Nat,((i2≤xs.length∧okL ci2 mi2 k (xs.take i2)=true)∧(xs.length - i2<xs.length - i1∧((xs=xs∧((a0y ci1 mi1 (k+(szL ci2 (xs.take i1):Int)) (xs.getD i1 []))=(k+(szL ci2 (xs.take i2):Int))∧(((i1:Int)+(1:Int))=(i2:Int)∧True)))∧True))))))))))))∧((decide ((i1:Int)<((xs.length:Int))))=false →
 (k+(szL ci2 (xs.take i1):Int))=(a0y ci2 mi2 k xs)))))))):=by kernel_rfl
theorem c6x(hE:a0z [a5t]):Ctr.Good a5a:=by
 refine⟨a1g b4o rfl (by decide),?_⟩
 show ∀ (xs:List (List (List Int))) (k:Int),(0≤k∧k+(szL ci2 xs:Int)≤4611686018427387904∧a5x xs)→a1h a0k b0n [.val ⟨(.slice (.slice (.slice (.int .i64)))),xs⟩, .val ⟨(.int .i64),k⟩] (·=[⟨(.int .i64),a0y ci2 mi2 k xs⟩])
 intro xs k hp
 refine a1k (wr:=[]) (cl:=[]) (ro:=[]) hE b4o c2s (b5z xs k) ?_
 rewrite [c7f xs k]
 have f0:okL ci2 mi2 k (xs.take 0)=true:=rfl
 have f1:=a8m ci2 xs
 obtain⟨f4,f5⟩:=(show a5x xs from hp.2.2)
 have f2:=b3k ci2 mi2 k xs
 refine⟨⟨0,⟨?_,⟨⟨rfl,⟨?_,⟨?_,trivial⟩⟩⟩,trivial⟩⟩⟩,fun i1 a0=>have b0x0:=c1b ci2 mi2 [] k xs i1;have b0x1:=c5b ci2 mi2 [] k xs i1;have b0x2:=c1a ci2 mi2 k xs i1;have b0x3:=a7c ci2 [] xs i1;have b0x4:=a1l ci2 xs i1;have b0x5:=a1l ci2 xs (i1+1);have b0x6:=b0k ci2 xs i1;have b0x7:=f1t (k+(szL ci2 (xs.take i1):Int)) (xs.getD i1 []);fun a1=>⟨fun a2=>⟨?_,fun a3=>⟨?_,fun a4=>⟨fun a5=>?_,fun a5=>⟨?_,⟨i1+1,⟨?_,⟨?_,⟨⟨rfl,⟨?_,⟨?_,trivial⟩⟩⟩,trivial⟩⟩⟩⟩⟩⟩⟩⟩,fun a2=>?_⟩⟩
 all_goals try and_intros
 all_goals first|rfl|trivial|omega|(simp only[decide_eq_true_eq,decide_eq_false_iff_not,a0j,a0e,b3b,b4s,b3c,b4t,Bool.not_eq_true',Bool.not_eq_false'] at *;first|omega|grind)|grind
theorem c3c:Ctr.Good a5a:=c6x ⟨c4b,trivial⟩
end
end Go.Proofs.YtmdefiphdgcijaaDoor

/- VmPf23, VmPf24, VmPf25, VmCTrim. -/
import Derived.Test.YtmjfpcajohhbeaaGreatDoorVmPf22
set_option linter.all false
set_option maxHeartbeats 4000000
set_option maxRecDepth 4000
namespace Go.Proofs.YtmjfpcajohhbeaaGreatDoor
def b7W:=@Int.le_trans
noncomputable section
def QL(c:ag):List Int:=if c.aM=1 then [] else [c.ref]
def xl:List U->List Int
 | []=>[]
 | s::r=>if s.use<0 then (-1 - s.use)::xl r else xl r
def pP(c:ag):List Int:=QL c++xl c.steps
def Xy:∀ (a b:List U),xl (a++b)=xl a++xl b
 | [],b=>rfl
 | s::r,b=>by
  show (if s.use<0 then (-1 - s.use)::xl (r++b) else xl (r++b))=(if s.use<0 then (-1 - s.use)::xl r else xl r)++xl b;rw[Xy r b];split<;>rfl
def a8s(xs:List U)(i:Nat)(h:i<xs.length)(h2:(xs.getD i (U.mk (0:Int) false [] [] [])).use<0):xl (xs.take (i+1))=xl (xs.take i)++[-1 - (xs.getD i (U.mk (0:Int) false [] [] [])).use]:=by
 rw[cC (U.mk (0:Int) false [] [] []) xs i h,Xy];simp only[xl,b5u h2]
def a8r(xs:List U)(i:Nat)(h:i<xs.length)(h2:¬ (xs.getD i (U.mk (0:Int) false [] [] [])).use<0):xl (xs.take (i+1))=xl (xs.take i):=by
 rw[cC (U.mk (0:Int) false [] [] []) xs i h,Xy];simp only[xl,b4Z h2,b6a]
def Xz:∀ xs:List U,(xl xs).length<=xs.length
 | []=>b5w _
 | s::r=>by
  have:=Xz r;unfold xl;split<;>simp only[List.length_cons]<;>omega
def a2n(c:ag):(QL c).length<=1:=by unfold QL;split<;>simp
def a4d{c:ag}(h:c.aM=1):QL c=[]:=by unfold QL;rw[if_pos h]
def a4c{c:ag}(h:¬ c.aM=1):QL c=[c.ref]:=by unfold QL;rw[if_neg h]
def a2o:∀ (xs:List U) (i:Int),i∈xl xs->∃ k,k<xs.length/\(xs.getD k (U.mk (0:Int) false [] [] [])).use<0/\i = -1 - (xs.getD k (U.mk (0:Int) false [] [] [])).use
 | [],i,h=>by cases h
 | s::r,i,h=>by
  unfold xl at h;have rest:i∈xl r->∃ k,k<(s::r).length/\((s::r).getD k (U.mk (0:Int) false [] [] [])).use<0/\i = -1 - ((s::r).getD k (U.mk (0:Int) false [] [] [])).use:=λ h=>by
   obtain⟨k,h1,h2,h3⟩:=a2o r i h;exact⟨k+1,by simp only[List.length_cons];omega,by simpa using h2,by simpa using h3⟩
  by_cases hu:s.use<0
  .rw[b5u hu] at h;rcases b5h.1 h with h|h
   .exact⟨0,by simp,hu,h⟩
   .exact rest h
  .rw[b4Z hu] at h;exact rest h
def zN(c:ag)(i:Nat):List Int:=QL c++xl (c.steps.take i)
def b1a{c:ag}{i:Nat}(h:c.steps.length<=i):zN c i=pP c:=by unfold zN pP;rw[List.take_of_length_le h]
def zh:aN:=⟨Mc,[.v (.st .claim)],λ (c:ag)=>⟨(some (0<=c.ref/\c.ref<=1000/\c.steps.length<=1000/\∀ i,i<c.steps.length -> -1000<=(c.steps.getD i (U.mk (0:Int) false [] [] [])).use/\(c.steps.getD i (U.mk (0:Int) false [] [] [])).use<=1000),[⟨(.slice (.int .i64)),pP c⟩])⟩⟩
def Xg(c:ag):Nat->aA:=(cQ 100004 (.u (True) [0,2,6] [(3, .av 900)] [] [(900, .av (.int .i64) (QL c:List Int))] (cQ 0 (.a (Nat) (λ i=>i<=c.steps.length) (λ i=>c.steps.length - i) [1,15] (λ i=>[(18, .aH ⟨(.int .i64),((i:Int):Int)⟩),(3, .av 900)]) [] (λ i=>[(900, .av (.int .i64) (zN c i:List Int))])) bJ)) bJ)
def QQ:aN.cZ zh:=by
 refine⟨ar HV,?_⟩;intro (c:ag) (hp:0<=c.ref/\c.ref<=1000/\c.steps.length<=1000/\∀ i,i<c.steps.length -> -1000<=(c.steps.getD i (U.mk (0:Int) false [] [] [])).use/\(c.steps.getD i (U.mk (0:Int) false [] [] [])).use<=1000);refine cp [] [] [] [] [6,13,14,29,30] [] [] [1] trivial trivial trivial trivial HV Rz (Xg c) (let v0:=U.mk (0:Int) false [] [] [];let v1:=(c.steps.length:Int);let v2:=(1:Int);(((O c.aM->(((!(decide (c.aM=v2)))=true->(O c.ref->(bc ((@List.nil Int).length+([c.ref]).length) 8/\(∃ u1:Unit,(True/\((c=c/\(True/\True))/\(([]++([c.ref]))=(QL c)/\True)))))))/\((!(decide (c.aM=v2)))=false->(∃ u1:Unit,(True/\((c=c/\(True/\True))/\([]=(QL c)/\True)))))))/\(∀ u1:Unit,(True->(c.steps.length<=140737488355328->(O v1->((∃ i2:Nat,(i2<=c.steps.length/\((True/\(c.steps=c.steps/\(v1=v1/\((0:Int)=(i2:Int)/\True))))/\((QL c)=(zN c i2)/\True))))/\(∀ i2:Nat,let v3:=c.steps.getD i2 v0;let v4:=(i2:Int)+v2;let v5:=(-1:Int) - v3.use;(i2<=c.steps.length->(((decide ((i2:Int)<v1))=true->(ak (i2:Int) c.steps.length/\(O v3.use->(((decide (v3.use<(0:Int)))=true->(O v3.use->(O v5/\(bc ((zN c i2).length+([v5]).length) 8/\(O v4/\(∃ i3:Nat,(i3<=c.steps.length/\(c.steps.length - i3<c.steps.length - i2/\((True/\(c.steps=c.steps/\(v1=v1/\(v4=(i3:Int)/\True))))/\(((zN c i2)++([v5]))=(zN c i3)/\True))))))))))/\((decide (v3.use<(0:Int)))=false->(O v4/\(∃ i3:Nat,(i3<=c.steps.length/\(c.steps.length - i3<c.steps.length - i2/\((True/\(c.steps=c.steps/\(v1=v1/\(v4=(i3:Int)/\True))))/\((zN c i2)=(zN c i3)/\True)))))))))))/\((decide ((i2:Int)<v1))=false->(zN c i2)=(pP c))))))))))))) ?_;obtain⟨g1,g2,g3,g4⟩:=hp;have f1:=a2n c;have f2:=λ i=>Xz (c.steps.take i);have f3:zN c 0=QL c:=by unfold zN;rw[List.take_zero];simp only[xl,List.append_nil]
 have f4:zN c c.steps.length=pP c:=by unfold zN pP;rw[List.take_length]
 refine⟨λ _=>⟨λ _ _=>⟨?_,(),?_,⟨rfl,ae,ae⟩,?_,ae⟩,λ _=>⟨(),?_,⟨rfl,ae,ae⟩,?_,ae⟩⟩,λ u1 _ _ _=>⟨⟨0,?_,⟨ae,rfl,rfl,?_,ae⟩,?_,ae⟩,λ i2 _=>⟨λ _=>⟨?_,λ _=>⟨λ _ _=>⟨?_,?_,?_,i2+1,?_,?_,⟨ae,rfl,rfl,?_,ae⟩,?_,ae⟩,λ _=>⟨?_,i2+1,?_,?_,⟨ae,rfl,rfl,?_,ae⟩,?_,ae⟩⟩⟩,λ _=>?_⟩⟩⟩;all_goals try and_intros
 all_goals first|with_reducible rfl|with_reducible assumption|exact True.intro|(simp only[Bool.true_eq_false,Bool.false_eq_true,Bool.not_true,Bool.not_false] at *;done)|((try simp only[List.nil_append,J.eta,decide_eq_true_eq,decide_eq_false_iff_not,Bool.not_true,Bool.not_false,Bool.not_eq_true',Bool.not_eq_false',ak,O,bc,List.length_append,List.length_cons,List.length_nil,List.length_map,List.length_take] at *);first|exact True.intro|omega|exact f3|exact f3.symm|exact (a4c (by with_reducible assumption)).symm|exact (a4d (by with_reducible assumption)).symm|(rw[a4c (by with_reducible assumption)];rfl)|(rw[a4d (by with_reducible assumption)];rfl)|(have:=g4 i2 (by omega);omega)|(have:=f2 i2;unfold zN;simp only[List.length_append,List.length_take] at *;omega)|(unfold zN;rw[a8s c.steps i2 (by omega) (by omega)];simp only[List.append_assoc];done)|(unfold zN;rw[a8r c.steps i2 (by omega) (by omega)];done)|exact b1a (by omega)|exact (b1a (by omega)).symm|omega)
def RW:aN.Good zh:=QQ.plain
def mb(xs:List Bool)(i:Int):Bool:=xs.getD i.toNat false
def Xq(xs:List Bool)(l:List Int):List Bool:=l.foldl (λ ys i=>ys.set i.toNat true) xs
def cl(p:ai)(k:Nat):ag:=p.af.getD k (ag.mk zE zE (0:Int) (0:Int) [])
def il(p:ai):Nat->List Bool
 | 0=>(List.replicate p.af.length false).set (p.af.length - 1) true
 | j+1=>if mb (il p j) ((p.af.length:Int) - 1 - (j:Int))=true then Xq (il p j) (pP (bQ p ((p.af.length:Int) - 1 - (j:Int)))) else il p j
def YR(p:ai):Nat->Int->List Bool->List Bool
 | 0,_,xs=>xs
 | f+1,k,xs=>if mb xs k=true then xs else (pP (bQ p k)).foldl (λ ys i=>YR p f i ys) (xs.set k.toNat true)
def Xr:∀ (l:List Int) (xs:List Bool),(Xq xs l).length=xs.length
 | [],xs=>rfl
 | i::l,xs=>by show (Xq (xs.set i.toNat true) l).length=_;rw[Xr l,b5V]
def z6(p:ai):∀ j,(il p j).length=p.af.length
 | 0=>by simp[il]
 | j+1=>by unfold il;split<;>simp only[Xr,z6 p j]
def QN(p:ai):∀ (f:Nat) (k:Int) (xs:List Bool),(YR p f k xs).length=xs.length
 | 0,_,_=>rfl
 | f+1,k,xs=>by
  unfold YR;split
  .rfl
  .have:∀ (l:List Int) (ys:List Bool),(l.foldl (λ ys i=>YR p f i ys) ys).length=ys.length:=by
    intro l;induction l with
    | nil=>intro _;rfl
    | cons i l ih=>intro ys;rw[b6X,ih,QN p f i ys]
   rw[this,b5V]
structure TrP(p:ai):Prop where
 v:pU p
 s:HQ p=true
def a4U(p:ai)(k:Int):bQ p k=cl p k.toNat:=rfl
def TrP.lt{p:ai}(h:TrP p){k:Nat}(hk:k<p.af.length):∀ i∈pP (cl p k),0<=i/\i<(k:Int):=by
 intro i hi;obtain⟨h1,h2⟩:=S8 h.v h.s hk;rcases b4Q.1 hi with hi|hi
 .unfold QL at hi;split at hi
  .cases hi
  .rename_i hr;simp only[b5t] at hi;rw[hi];exact h1 hr
 .obtain⟨j,h3,h4,h5⟩:=a2o _ _ hi;have:=(h2 j h3).2.2 h4;rw[h5];unfold cl at *
  exact⟨by omega,this⟩
def M3{α β:Type}(f g:β->α->β):∀ (l:List α) (b:β),(∀ a∈l,∀ b,f b a=g b a)->l.foldl f b=l.foldl g b
 | [],_,_=>rfl
 | a::l,b,h=>by
  rw[b6X,b6X,h a (by simp) b];exact M3 f g l _ λ x hx=>h x (b6l _ hx)
def ZP{p:ai}(h:TrP p):∀ (f f':Nat) (k:Int) (xs:List Bool),0<=k->k<(p.af.length:Int)->k.toNat<f->k.toNat<f'->YR p f k xs=YR p f' k xs
 | 0,_,k,_,_,_,hf,_=>by omega
 | f+1,0,k,_,_,_,_,hf=>by omega
 | f+1,f'+1,k,xs,h0,h1,hf,hf'=>by
  unfold YR;split
  .rfl
  .refine M3 _ _ _ _ λ i hi b=>?_;have:=h.lt (k:=k.toNat) (by omega) i hi;exact ZP h f f' i b this.1 (by omega) (by omega) (by omega)
def kO(p:ai)(k:Int)(xs:List Bool):List Bool:=YR p 41 k xs
def Xx{p:ai}{k:Int}{xs:List Bool}(h:mb xs k=true):kO p k xs=xs:=by unfold kO YR;rw[if_pos h]
def ndG(p:ai)(k:Int)(xs:List Bool)(l:List Int):List Bool:=l.foldl (λ ys i=>kO p i ys) (xs.set k.toNat true)
def a4a{p:ai}(hp:TrP p){k:Int}{xs:List Bool}(h0:0<=k)(h1:k<(p.af.length:Int))(h:mb xs k=false):kO p k xs=ndG p k xs (pP (bQ p k)):=by
 have hl:=hp.v.ln;unfold kO ndG;rw[YR,if_neg (by rw[h];decide)];refine M3 _ _ _ _ λ i hi b=>?_;have:=hp.lt (k:=k.toNat) (by omega) i hi;exact ZP hp 40 41 i b this.1 (by omega) (by omega) (by omega)
def a8q(p:ai)(k:Int)(xs:List Bool):∀ l,(ndG p k xs l).length=xs.length:=by
 have:∀ (l:List Int) (ys:List Bool),(l.foldl (λ ys i=>kO p i ys) ys).length=ys.length:=by
  intro l;induction l with
  | nil=>intro _;rfl
  | cons i l ih=>intro ys;rw[b6X,ih];exact QN p 41 i ys
 intro l;unfold ndG;rw[this,List.length_set]
def a6n(p:ai)(k:Int)(xs:List Bool)(l:List Int)(i:Int):ndG p k xs (l++[i])=kO p i (ndG p k xs l):=by unfold ndG;rw[List.foldl_append];rfl
structure CL(p:ai)(k:Int)(xs:List Bool):Prop where
 t:TrP p
 l:xs.length=p.af.length
 k0:0<=k
 k1:k<(p.af.length:Int)
def zL(p:ai)(k:Int)(xs:List Bool)(i:Nat):List Bool:=ndG p k xs (zN (bQ p k) i)
def CL.rf{p:ai}{k:Int}{xs ys:List Bool}(h:CL p k xs)(hy:ys.length=xs.length)(hr:¬ (bQ p k).aM=1):(bQ p k).ref.toNat<k.toNat/\CL p (bQ p k).ref ys:=by
 have:=(S8 h.t.v h.t.s (k:=k.toNat) (by have:=h.k0;have:=h.k1;omega)).1 hr;have h2:0<=(bQ p k).ref/\(bQ p k).ref<(k.toNat:Int):=this;have:=h.k0;have:=h.k1;exact⟨by omega,h.t,by rw[hy];exact h.l,h2.1,by omega⟩
def CL.us{p:ai}{k:Int}{xs ys:List Bool}(h:CL p k xs)(hy:ys.length=xs.length){i:Nat}(hi:i<(bQ p k).steps.length)(hu:((bQ p k).steps.getD i (U.mk (0:Int) false [] [] [])).use<0):(-1 - ((bQ p k).steps.getD i (U.mk (0:Int) false [] [] [])).use).toNat<k.toNat/\CL p (-1 - ((bQ p k).steps.getD i (U.mk (0:Int) false [] [] [])).use) ys:=by
 have:=(S8 h.t.v h.t.s (k:=k.toNat) (by have:=h.k0;have:=h.k1;omega)).2 i hi;have h2 : -40<=((bQ p k).steps.getD i (U.mk (0:Int) false [] [] [])).use /\ -1 - ((bQ p k).steps.getD i (U.mk (0:Int) false [] [] [])).use<(p.af.length:Int)/\(((bQ p k).steps.getD i (U.mk (0:Int) false [] [] [])).use<0 -> -1 - ((bQ p k).steps.getD i (U.mk (0:Int) false [] [] [])).use<(k.toNat:Int)):=this;have h3:=h2.2.2 hu;have:=h.k0;have:=h.k1;exact⟨by omega,h.t,by rw[hy];exact h.l,by omega,by omega⟩
def CL.u0{p:ai}{k:Int}{xs:List Bool}(h:CL p k xs){i:Nat}(hi:i<(bQ p k).steps.length) : -40<=((bQ p k).steps.getD i (U.mk (0:Int) false [] [] [])).use :=
 ((S8 h.t.v h.t.s (k:=k.toNat) (by have:=h.k0;have:=h.k1;omega)).2 i hi).1
def CL.sl{p:ai}{k:Int}{xs:List Bool}(h:CL p k xs):(bQ p k).steps.length<=60:=(h.t.v.st (i:=k.toNat) (by have:=h.k0;have:=h.k1;omega)).2.2.1
def CL.e0{p:ai}{k:Int}{xs:List Bool}(h:mb xs k=true):xs=kO p k xs:=(Xx h).symm
def a9T{p:ai}{k:Int}{xs:List Bool}(h:(bQ p k).aM=1):xs.set k.toNat true=zL p k xs 0:=by
 unfold zL zN;rw[a4d h,List.take_zero];rfl
def a9S{p:ai}{k:Int}{xs:List Bool}(h:¬ (bQ p k).aM=1):kO p (bQ p k).ref (xs.set k.toNat true)=zL p k xs 0:=by
 unfold zL zN;rw[a4c h,List.take_zero];rfl
def a8u(p:ai)(k:Int)(xs:List Bool)(i:Nat):(zL p k xs i).length=xs.length:=a8q p k xs _
def b2d{p:ai}{k:Int}{xs:List Bool}{i:Nat}(h:i<(bQ p k).steps.length)(h2:((bQ p k).steps.getD i (U.mk (0:Int) false [] [] [])).use<0):kO p (-1 - ((bQ p k).steps.getD i (U.mk (0:Int) false [] [] [])).use) (zL p k xs i)=zL p k xs (i+1):=by
 unfold zL zN;rw[a8s _ i h h2,<-List.append_assoc,a6n]
def b2c{p:ai}{k:Int}{xs:List Bool}{i:Nat}(h:i<(bQ p k).steps.length)(h2:¬ ((bQ p k).steps.getD i (U.mk (0:Int) false [] [] [])).use<0):zL p k xs i=zL p k xs (i+1):=by
 unfold zL zN;rw[a8r _ i h h2]
def a8t{p:ai}{k:Int}{xs:List Bool}(hp:CL p k xs)(h:mb xs k=false){i:Nat}(hi:(bQ p k).steps.length<=i):zL p k xs i=kO p k xs:=by
 rw[a4a hp.t hp.k0 hp.k1 h];unfold zL zN pP;rw[List.take_of_length_le hi]
def a0M(xs:List Bool)(k:Int):xs.getD k.toNat false=mb xs k:=rfl
def jn(n:Nat):Rw:=⟨qV,[.r (.st .proof), .v (.int .i64)], .bool,λ (p:ai) (k:Int) (xs:List Bool)=>⟨(some (k.toNat<n/\CL p k xs),kO p k xs)⟩⟩
def zk:Rw:=⟨qV,[.r (.st .proof), .v (.int .i64)], .bool,λ (p:ai) (k:Int) (xs:List Bool)=>⟨(some (CL p k xs),kO p k xs)⟩⟩
def N1(p:ai)(k:Int)(xs:List Bool):Nat->aA:=(cQ 100005 (.u (mb xs k=false) [1,8,9,10,11,12,13,14,15,16,17,18,19,20] [(6, .cX ⟨(.st .claim),((bQ p k):ag)⟩),(2, .av 50)] [] [(50, .av .bool (zL p k xs 0:List Bool))] (cQ 0 (.a (Nat) (λ i=>i<=(bQ p k).steps.length) (λ i=>(bQ p k).steps.length - i) [] (λ i=>[(7, .aH ⟨(.int .i64),((i:Int):Int)⟩),(2, .av 50)]) [] (λ i=>[(50, .av .bool (zL p k xs i:List Bool))])) bJ)) bJ)
abbrev tV(p:ai)(k:Int):Prop:=(p=p/\(True/\((p.af.getD (Int.toNat k) (ag.mk zE zE (0:Int) (0:Int) []))=(bQ p k)/\True)))
def Ly(n:Nat)(hT:Vv [jn n]):Rw.Good (jn (n+1)):=by
 refine⟨ar j8,?_⟩;intro (p:ai) (k:Int) (xs:List Bool) (hp:k.toNat<n+1/\CL p k xs);refine a2Y [] [] [] [] [jn n] [] [] [] [] trivial trivial trivial trivial hT j8 Ij (N1 p k xs) (let v2:=bQ p k;let v3:=Int.toNat k;let v4:=(v2.steps.length:Int);let v6:=(0:Int);let v0:=p.af.getD v3 (ag.mk zE zE v6 v6 []);let v1:=U.mk v6 false [] [] [];let v5 := !(decide (v0.aM=(1:Int)));((ak k xs.length/\(((xs.getD v3 false)=true->xs=(kO p k xs))/\((xs.getD v3 false)=false->(ak k xs.length/\(p.af.length<=140737488355328->(ak k p.af.length/\((O v0.aM->((v5=true->(O v0.ref->((v0.ref.toNat<n/\CL p v0.ref (xs.set v3 true))/\(∃ u1:Unit,(mb xs k=false/\((tV p k)/\((kO p v0.ref (xs.set v3 true))=(zL p k xs 0)/\True)))))))/\(v5=false->(∃ u1:Unit,(mb xs k=false/\((tV p k)/\((xs.set v3 true)=(zL p k xs 0)/\True)))))))/\(∀ u1:Unit,(mb xs k=false->((∃ i2:Nat,(i2<=v2.steps.length/\((p=p/\(True/\(v2=v2/\(v6=(i2:Int)/\True))))/\((zL p k xs 0)=(zL p k xs i2)/\True))))/\(∀ i2:Nat,let v7:=v2.steps.getD i2 v1;let v8:=(i2:Int)+(1:Int);let v9:=(-1:Int) - v7.use;let va:=zL p k xs i2;(i2<=v2.steps.length->(v2.steps.length<=140737488355328->(O v4->(((decide ((i2:Int)<v4))=true->(v2.steps.length<=140737488355328->(ak (i2:Int) v2.steps.length/\(O v7.use->(((decide (v7.use<v6))=true->(v2.steps.length<=140737488355328->(ak (i2:Int) v2.steps.length/\(O v7.use->(O v9/\((v9.toNat<n/\CL p v9 va)/\(O v8/\(∃ i3:Nat,(i3<=v2.steps.length/\(v2.steps.length - i3<v2.steps.length - i2/\((p=p/\(True/\(v2=v2/\(v8=(i3:Int)/\True))))/\((kO p v9 va)=(zL p k xs i3)/\True))))))))))))/\((decide (v7.use<v6))=false->(O v8/\(∃ i3:Nat,(i3<=v2.steps.length/\(v2.steps.length - i3<v2.steps.length - i2/\((p=p/\(True/\(v2=v2/\(v8=(i3:Int)/\True))))/\(va=(zL p k xs i3)/\True))))))))))))/\((decide ((i2:Int)<v4))=false->va=(kO p k xs))))))))))))))))))) ?_;refine⟨?_,λ _=>?_,λ _=>⟨?_,λ _=>⟨?_,λ _=>⟨λ _ _=>⟨?_,(),?_,⟨rfl,ae,?_,ae⟩,?_,ae⟩,λ _=>⟨(),?_,⟨rfl,ae,?_,ae⟩,?_,ae⟩⟩,λ u1 _=>⟨⟨0,?_,⟨rfl,ae,rfl,?_,ae⟩,?_,ae⟩,λ i2 _ _ _=>⟨λ _ _=>⟨?_,λ _=>⟨λ _ _=>⟨?_,λ _=>⟨?_,?_,?_,i2+1,?_,?_,⟨rfl,ae,rfl,?_,ae⟩,?_,ae⟩⟩,λ _=>⟨?_,i2+1,?_,?_,⟨rfl,ae,rfl,?_,ae⟩,?_,ae⟩⟩⟩,λ _=>?_⟩⟩⟩⟩⟩;all_goals try and_intros
 all_goals first|with_reducible rfl|with_reducible assumption|exact True.intro|(simp only[b4V,b4U,b4T,b4R] at *;done)|((try simp only[b5q,J.eta,b4N,b4M,b4T,b4R,b5a,b5k,ak,O,bc,b5f,b4Y,b5j,b5g,b5n] at *)<;>(try simp only[Ir,a0M,b5V] at *)<;>first|with_reducible exact True.intro|omega|(have:=hp.2.l;have:=hp.2.k0;have:=hp.2.k1;omega)|exact (Xx (by with_reducible assumption)).symm|exact Xx (by with_reducible assumption)|exact CL.e0 (by with_reducible assumption)|(have R:=hp.2.rf (ys:=xs.set k.toNat true) (b5V) (by with_reducible assumption);first|exact R.2|(have:=hp.1;have:=R.1;omega))|exact a9S (by with_reducible assumption)|exact a9T (by with_reducible assumption)|(have:=hp.2.sl;omega)|(have:=hp.2.u0 (i:=i2) (by omega);omega)|(have R:=hp.2.us (ys:=zL p k xs i2) (a8u p k xs i2) (i:=i2) (by omega) (by omega);first|exact R.2|(have:=hp.1;have:=R.1;omega))|exact b2d (by omega) (by omega)|exact b2c (by omega) (by omega)|exact a8t hp.2 (by with_reducible assumption) (by omega)|exact (a8t hp.2 (by with_reducible assumption) (by omega)).symm|omega)
def tp:∀ n,Vv [jn n]
 | 0=>⟨⟨ar j8,λ _ _ _ h=>absurd h.1 (b5H _)⟩,ae⟩
 | n+1=>⟨Ly n (tp n),ae⟩
def HR:Rw.Good zk :=
 ⟨ar j8,λ p k xs hp=>(tp (k.toNat+1)).1.2 p k xs (⟨b5C _,hp⟩)⟩
def mN(xs:List Bool)(k:Nat):Prop:=xs.getD k false=true
def Fz{xs:List Bool}{i k:Nat}:mN (xs.set i true) k↔(k=i/\i<xs.length)\/mN xs k:=by
 unfold mN;simp only[List.getD_eq_getElem?_getD,List.getElem?_set];by_cases h:i=k
 .subst h;by_cases h2:i<xs.length
  .simp[h2]
  .simp[h2,b6J (Nat.le_of_not_lt h2)]
 .have h2:¬ k=i:=λ e=>h e.symm;simp[h,h2]
def a9K{xs ys:List Bool}(hl:xs.length=ys.length)(h:∀ k,mN xs k↔mN ys k):xs=ys:=by
 refine List.ext_getElem hl λ k h1 h2=>?_;have:=h k;unfold mN at this;rw[List.getD_eq_getElem?_getD,List.getD_eq_getElem?_getD,List.getElem?_eq_getElem h1,List.getElem?_eq_getElem h2] at this;simp only[Option.getD_some] at this;cases hx:xs[k]<;>cases hy:ys[k]<;>simp_all
def Xj:∀ (l:List Int) (xs:List Bool) (k:Nat),mN (Xq xs l) k↔mN xs k\/(k<xs.length/\∃ i∈l,i.toNat=k)
 | [],xs,k=>by simp[Xq]
 | i::l,xs,k=>by
  show mN (Xq (xs.set i.toNat true) l) k↔_;rw[Xj l,Fz,b5V];constructor
  .rintro ((⟨rfl,h⟩|h)|⟨h,j,h2,h3⟩)
   .exact .inr ⟨h,i,by simp,rfl⟩
   .exact .inl h
   .exact .inr ⟨h,j,by simp[h2],h3⟩
  .rintro (h|⟨h,j,h2,h3⟩)
   .exact .inl (.inr h)
   .rcases b5h.1 h2 with rfl|h2
    .exact .inl (.inl ⟨h3.symm,by omega⟩)
    .exact .inr ⟨h,j,h2,h3⟩
def Cd(p:ai)(T:Nat->Prop):Prop:=∀ k,k<p.af.length->T k->∀ i∈pP (cl p k),T i.toNat
structure gu(p:ai):Prop where
 t:TrP p
 n:1<=p.af.length
def a4e{p:ai}{j:Nat}(hj:j<p.af.length):((p.af.length:Int) - 1 - (j:Int)).toNat=p.af.length - 1 - j:=by omega
def a1d{p:ai}{j:Nat}(hj:j<p.af.length):il p (j+1)=if mb (il p j) ((p.af.length:Int) - 1 - (j:Int))=true then Xq (il p j) (pP (cl p (p.af.length - 1 - j))) else il p j:=by
 rw[il,a4U,a4e hj]
def a8j{p:ai}{xs:List Bool}{j:Nat}(hj:j<p.af.length):mb xs ((p.af.length:Int) - 1 - (j:Int))=true↔mN xs (p.af.length - 1 - j):=by
 unfold mb mN;rw[a4e hj]
def a2T{p:ai}(h:gu p){T:Nat->Prop}(hT:Cd p T)(hn:T (p.af.length - 1)):∀ j,j<=p.af.length->∀ k,mN (il p j) k->T k
 | 0,_,k,hk=>by
  rw[il] at hk;rcases Fz.1 hk with ⟨rfl,_⟩|hk
  .exact hn
  .unfold mN at hk;rw[List.getD_eq_getElem?_getD,List.getElem?_replicate] at hk;split at hk<;>cases hk
 | j+1,hj,k,hk=>by
  have ih:=a2T h hT hn j (by omega);rw[a1d (by omega)] at hk;split at hk
  .rename_i hm;rcases (Xj _ _ _).1 hk with hk|⟨_,i,hi,rfl⟩
   .exact ih k hk
   .exact hT _ (by omega) (ih _ ((a8j (by omega)).1 hm)) i hi
  .exact ih k hk
def a6I{p:ai}{j:Nat}(hj:j<p.af.length){k:Nat}(hk:mN (il p j) k):mN (il p (j+1)) k:=by
 rw[a1d hj];split
 .exact (Xj _ _ _).2 (.inl hk)
 .exact hk
def a1c{p:ai}{j:Nat}:∀ d,j+d<=p.af.length->∀ {k:Nat},mN (il p j) k->mN (il p (j+d)) k
 | 0,_,_,h=>h
 | d+1,hd,k,h=>by
  have h4:j+d<p.af.length:=by omega
  exact a6I h4 (a1c d (by omega) h)
def a8Z{p:ai}(h:gu p){j:Nat}(hj:j<p.af.length){k:Nat}(hk:mN (il p (j+1)) k)(hk2:p.af.length - 1 - j<=k):mN (il p j) k:=by
 rw[a1d hj] at hk;split at hk
 .rcases (Xj _ _ _).1 hk with hk|⟨_,i,hi,rfl⟩
  .exact hk
  .have:=h.t.lt (k:=p.af.length - 1 - j) (by omega) i hi;omega
 .exact hk
def a2S{p:ai}(h:gu p){j:Nat}:∀ d,j+d<=p.af.length->∀ {k:Nat},mN (il p (j+d)) k->p.af.length - 1 - j<=k->mN (il p j) k
 | 0,_,_,hk,_=>hk
 | d+1,hd,k,hk,h2=>by
  have kM:mN (il p (j+d+1)) k:=hk;have h3:p.af.length - 1 - (j+d)<=k:=by omega
  have h4:j+d<p.af.length:=by omega
  exact a2S h d (by omega) (a8Z h h4 kM h3) h2
def ri(p:ai):List Bool:=il p p.af.length
def b0j{p:ai}(h:gu p):Cd p (mN (ri p)):=by
 intro k hk hm i hi;have e:p.af.length=(p.af.length - 1 - k)+(k+1):=by omega
 have hm1:mN (il p (p.af.length - 1 - k)) k:=by
  unfold ri at hm;rw[e] at hm;exact a2S h (k+1) (by omega) hm (by omega)
 have bK:=h.t.lt hk i hi;have h2:mN (il p (p.af.length - 1 - k+1)) i.toNat:=by
  rw[a1d (by omega),show p.af.length - 1 - (p.af.length - 1 - k)=k by omega,b5u ((a8j (by omega)).2 (by rw[show p.af.length - 1 - (p.af.length - 1 - k)=k by omega];exact hm1))];exact (Xj _ _ _).2 (.inr ⟨by rw[z6];omega,i,hi,rfl⟩)
 have:=a1c k (by omega) h2;unfold ri;rwa [show p.af.length - 1 - k+1+k=p.af.length by omega] at this
def a9h{p:ai}(h:gu p):mN (ri p) (p.af.length - 1):=by
 have hn:=h.n;have h0:mN (il p 0) (p.af.length - 1):=by
  rw[il];exact Fz.2 (.inl ⟨rfl,by rw[b6T];omega⟩)
 have:=a1c (j:=0) p.af.length (by omega) h0;unfold ri;rwa [Nat.zero_add] at this
structure DSt(p:ai)(xs ys:List Bool):Prop where
 sub:∀ k,mN xs k->mN ys k
 new:∀ k,mN ys k->¬ mN xs k->∀ i∈pP (cl p k),mN ys i.toNat
def DSt.refl(p:ai)(xs:List Bool):DSt p xs xs:=⟨λ _ h=>h,λ _ h1 h2=>absurd h1 h2⟩
def DSt.trans{p:ai}{a b c:List Bool}(h:DSt p a b)(k:DSt p b c):DSt p a c :=
 ⟨λ i hi=>k.sub i (h.sub i hi),λ i hi hn j hj=>by
  by_cases hb:mN b i
  .exact k.sub _ (h.new i hb hn j hj)
  .exact k.new i hi hb j hj⟩
def a5r{p:ai}(h:TrP p):∀ (m:Nat) (k:Int) (xs:List Bool),k.toNat<m->0<=k->k<(p.af.length:Int)->xs.length=p.af.length->DSt p xs (kO p k xs)/\mN (kO p k xs) k.toNat
 | 0,_,_,hm,_,_,_=>by omega
 | m+1,k,xs,hm,h0,h1,hl=>by
  cases hb:mb xs k with
  | true=>rw[Xx hb];exact⟨.refl _ _,hb⟩
  | false =>
   rw[a4a h h0 h1 hb];have bK:=h.lt (k:=k.toNat) (by omega);have key:∀ (l:List Int) (zs:List Bool),zs.length=p.af.length->(∀ i∈l,0<=i/\i<(k.toNat:Int))->DSt p zs (l.foldl (λ ys i=>kO p i ys) zs)/\∀ i∈l,mN (l.foldl (λ ys i=>kO p i ys) zs) i.toNat:=by
    intro l;induction l with
    | nil=>intro zs _ _;exact⟨.refl _ _,by simp⟩
    | cons i l ih =>
     intro zs hz hi;have hi0:=hi i (by simp);obtain⟨q1,q2⟩:=a5r h m i zs (by omega) hi0.1 (by omega) hz;obtain⟨q3,q4⟩:=ih (kO p i zs) (by rw[<-hz];exact QN p 41 i zs) λ j hj=>hi j (b6l _ hj);refine⟨q1.trans q3,λ j hj=>?_⟩;rcases b5h.1 hj with rfl|hj
     .exact q3.sub _ q2
     .exact q4 j hj
   obtain⟨q1,q2⟩:=key (pP (bQ p k)) (xs.set k.toNat true) (by rw[b5V];exact hl) bK;have hk:mN (xs.set k.toNat true) k.toNat:=Fz.2 (.inl ⟨rfl,by omega⟩);refine⟨⟨λ j hj=>q1.sub j (Fz.2 (.inr hj)),λ j hj hn i hi=>?_⟩,q1.sub _ hk⟩;by_cases e:j=k.toNat
   .subst e;exact q2 i hi
   .exact q1.new j hj (λ q=>(Fz.1 q).elim (λ q=>e q.1) hn) i hi
def a2m{p:ai}(h:TrP p){T:Nat->Prop}(hT:Cd p T):∀ (m:Nat) (k:Int) (xs:List Bool),k.toNat<m->0<=k->k<(p.af.length:Int)->T k.toNat->(∀ j,mN xs j->T j)->∀ j,mN (kO p k xs) j->T j
 | 0,_,_,hm,_,_,_,_=>by omega
 | m+1,k,xs,hm,h0,h1,hk,hx=>by
  cases hb:mb xs k with
  | true=>rw[Xx hb];exact hx
  | false =>
   rw[a4a h h0 h1 hb];have bK:=h.lt (k:=k.toNat) (by omega);have eA:=hT k.toNat (by omega) hk;have key:∀ (l:List Int) (zs:List Bool),(∀ j,mN zs j->T j)->(∀ i∈l,(0<=i/\i<(k.toNat:Int))/\T i.toNat)->∀ j,mN (l.foldl (λ ys i=>kO p i ys) zs) j->T j:=by
    intro l;induction l with
    | nil=>intro zs hz _;exact hz
    | cons i l ih =>
     intro zs hz hi;obtain⟨hi0,hi1⟩:=hi i (by simp);exact ih (kO p i zs) (a2m h hT m i zs (by omega) hi0.1 (by omega) hi1 hz) λ j hj=>hi j (b6l _ hj)
   refine key (pP (bQ p k)) (xs.set k.toNat true) (λ j hj=>?_) λ i hi=>⟨bK i hi,eA i hi⟩;rcases Fz.1 hj with ⟨rfl,_⟩|hj
   .exact hk
   .exact hx j hj
def a8v{p:ai}(h:gu p):kO p ((p.af.length:Int) - 1) (List.replicate p.af.length false)=ri p:=by
 have hn:=h.n;have fM:∀ k,¬ mN (List.replicate p.af.length false) k:=λ k hk=>by
  unfold mN at hk;rw[List.getD_eq_getElem?_getD,List.getElem?_replicate] at hk;split at hk<;>cases hk
 have e:((p.af.length:Int) - 1).toNat=p.af.length - 1:=by omega
 obtain⟨q1,q2⟩:=a5r h.t _ ((p.af.length:Int) - 1) (List.replicate p.af.length false) (b5C _) (by omega) (by omega) (b6T);rw[e] at q2;refine a9K ?_ λ k=>⟨λ hk=>?_,λ hk=>?_⟩
 .unfold ri;rw[z6];unfold kO;rw[QN,List.length_replicate]
 .exact a2m h.t (b0j h) _ ((p.af.length:Int) - 1) _ (b5C _) (by omega) (by omega) (by rw[e];exact a9h h) (λ j hj=>absurd hj (fM j)) k hk
 .exact a2T h (T:=mN (kO p ((p.af.length:Int) - 1) (List.replicate p.af.length false))) (λ k _ hk=>q1.new k hk (fM k)) q2 _ (b5w _) k hk
def cnT(N:List Bool):Nat->Int
 | 0=>0
 | i+1=>if mb N (i:Int)=true then cnT N i+1 else cnT N i
def oi(N:List Bool)(n:Nat):Nat->List Int
 | 0=>List.replicate n 0
 | i+1=>if mb N (i:Int)=true then (oi N n i).set i (cnT N i) else oi N n i
def o8(p:ai)(N:List Bool):Nat->List ag
 | 0=>[]
 | i+1=>if mb N (i:Int)=true then o8 p N i++[mvC (pN (oi N p.af.length (i+1))) (bQ p (i:Int))] else o8 p N i
def a0k(N:List Bool):∀ i,0<=cnT N i/\cnT N i<=(i:Int)
 | 0=>⟨b8V 0,b8V 0⟩
 | i+1=>by have:=a0k N i;unfold cnT;split<;>omega
def ED(N:List Bool)(n:Nat):∀ i,(oi N n i).length=n
 | 0=>by simp[oi]
 | i+1=>by unfold oi;split<;>simp[ED N n i]
def XM(p:ai)(N:List Bool):∀ i,((o8 p N i).length:Int)=cnT N i
 | 0=>rfl
 | i+1=>by
  have:=XM p N i;unfold o8 cnT;split
  .rw[b5f];simp only[b4Y,b5j];omega
  .exact this
def a4E(N:List Bool)(n:Nat):∀ i,i<=1000->∀ j:Int,0<=pN (oi N n i) j/\pN (oi N n i) j<=1000
 | 0,_,j=>by
  unfold pN oi;rw[List.getD_eq_getElem?_getD,List.getElem?_replicate];split<;>exact⟨by decide,by decide⟩
 | i+1,hi,j=>by
  have ih:=a4E N n i (by omega) j;unfold oi;split
  .unfold pN;rw[List.getD_eq_getElem?_getD,List.getElem?_set];have:=a0k N i;split
   .split
    .exact⟨by simpa using this.1,by simp only[Option.getD_some];omega⟩
    .exact⟨by decide,by decide⟩
   .unfold pN at ih;rwa [List.getD_eq_getElem?_getD] at ih
  .exact ih
def b2x{N:List Bool}{n i:Nat}(h:mb N (i:Int)=true):oi N n (i+1)=(oi N n i).set i (cnT N i):=by rw[oi,b5u h]
def a9d{N:List Bool}{n i:Nat}(h:mb N (i:Int)=false):oi N n (i+1)=oi N n i:=by rw[oi,b4Z (by rw[h];decide)]
def a8A{p:ai}{N:List Bool}{i:Nat}(h:mb N (i:Int)=true):o8 p N (i+1)=o8 p N i++[mvC (pN (oi N p.af.length (i+1))) (bQ p (i:Int))]:=by rw[o8,b5u h]
def a8z{p:ai}{N:List Bool}{i:Nat}(h:mb N (i:Int)=false):o8 p N (i+1)=o8 p N i:=by rw[o8,b4Z (by rw[h];decide)]
def xq(p:ai):Int:=if ¬ k9 p=0 then k9 p else if p.af.length=0 then 4 else 0
def im(p:ai):ai:=if xq p=0 then ai.mk p.sig (o8 p (ri p) p.af.length) else (ai.mk (aW.mk (0:Int) (0:Int)) [])
abbrev trO(p:ai)(c:Int):Prop:=im p=(ai.mk (aW.mk (0:Int) (0:Int)) [])/\xq p=c
def trO.mk{p:ai}{c:Int}(h:xq p=c)(h2:¬ c=0):trO p c:=⟨by unfold im;rw[if_neg (by rw[h];exact h2)],h⟩
def b1h{p:ai}(h:¬ k9 p=0):trO p (k9 p) := .mk (by unfold xq;rw[if_pos h]) h
def b1g{p:ai}(h:k9 p=0)(h2:p.af.length=0):trO p 4 := .mk (by unfold xq;rw[if_neg (λ e=>e h),if_pos h2]) (by decide)
def b1C{p:ai}(h:k9 p=0):TrP p:=by
 unfold k9 at h;cases h1:dQ p<;>rw[h1] at h
 .cases h
 .cases h2:HQ p<;>rw[h2] at h
  .cases h
  .exact⟨⟨h1⟩,h2⟩
def gu.mk'{p:ai}(h:k9 p=0)(h2:¬ p.af.length=0):gu p:=⟨b1C h,by omega⟩
def gu.c0{p:ai}(h:gu p):xq p=0:=by
 have e:k9 p=0:=by unfold k9;rw[h.t.v.v,h.t.s];rfl
 unfold xq;rw[if_neg (λ q=>q e),if_neg (by have:=h.n;omega)]
def gu.vv{p:ai}(h:gu p):im p=ai.mk p.sig (o8 p (ri p) p.af.length):=by unfold im;rw[if_pos h.c0]
def gu.mvp{p:ai}(h:gu p){N:List Bool}{k m:Nat}(hk:k<p.af.length)(hm:m<=1000):MvP (oi N p.af.length m) (bQ p (k:Int)):=by
 obtain⟨h1,h2⟩:=S8 h.t.v h.t.s hk;refine⟨λ e=>?_,λ i hi=>?_,λ i=>a4E N _ m hm i⟩
 .have:=h1 e;rw[ED];exact⟨this.1,b8x this.2 (by omega)⟩
 .have:=h2 i hi;rw[ED];exact⟨b7W (by decide) this.1,this.2.1⟩
def gp(tt:List Int):Int->Prop×Int:=λ (i:Int)=>((0<=i/\i<(tt.length:Int)),pN tt i)
def Lz:Nat×nz:=(nX,⟨[(.int .i64)],(.int .i64),[(true,(.slice (.int .i64)))]⟩)
def wL:aN:=⟨nX,[.v (.int .i64), .r (.slice (.int .i64))],λ (i:Int) (tt:List Int)=>⟨(some (0<=i/\i<(tt.length:Int)),[⟨(.int .i64),pN tt i⟩])⟩⟩
def Lk(i:Int)(tt:List Int):Nat->aA:=bJ
def Fb:aN.Good wL:=by
 refine⟨ar tq,?_⟩;intro (i:Int) (tt:List Int) (hp:0<=i/\i<(tt.length:Int));refine aX [] [] [] [] trivial tq ES (Lk i tt) (let v0:=tt.getD (Int.toNat i) (0:Int);((tt.length<=140737488355328->(ak i tt.length/\(O v0->v0=(pN tt i)))))) ?_;refine λ _=>⟨?_,λ _=>?_⟩;all_goals try and_intros
 all_goals first|rfl|trivial|exact hp|exact hp.1|exact hp.2|exact a7e _ _
def b2A{p:ai}(h:gu p){N:List Bool}{k m:Nat}(hk:k<p.af.length)(hm:m<=1000):RnP (gp (oi N p.af.length m)) (bQ p (k:Int)).aM (bQ p (k:Int)).ref (bQ p (k:Int)).steps:=by
 obtain⟨h1,h2⟩:=S8 h.t.v h.t.s hk;have hs:=h.t.v.st hk;have hl:=ED N p.af.length m;refine⟨λ e=>?_,λ i hi hu=>?_,λ i _=>a4E N _ m hm i,b6x hs.2.2.1 (by decide)⟩
 .have:=h1 e;exact⟨this.1,by rw[hl];exact b8x this.2 (by omega)⟩
 .have:=h2 i hi;have hu':((p.af.getD k (ag.mk zE zE (0:Int) (0:Int) [])).steps.getD i (U.mk (0:Int) false [] [] [])).use<0:=hu;have h3:=this.2.2 hu;exact⟨b7W (by decide) this.1,(show (0:Int) <= -1 - ((p.af.getD k (ag.mk zE zE (0:Int) (0:Int) [])).steps.getD i (U.mk (0:Int) false [] [] [])).use by omega),by rw[hl];exact this.2.1⟩
def b2z{p:ai}(h:gu p){tt:List Int}{k:Nat}(hk:k<p.af.length):ag.mk (p.af.getD k (ag.mk zE zE (0:Int) (0:Int) [])).left (p.af.getD k (ag.mk zE zE (0:Int) (0:Int) [])).right (p.af.getD k (ag.mk zE zE (0:Int) (0:Int) [])).aM (U7 (gp tt) (p.af.getD k (ag.mk zE zE (0:Int) (0:Int) [])).aM (p.af.getD k (ag.mk zE zE (0:Int) (0:Int) [])).ref) ((p.af.getD k (ag.mk zE zE (0:Int) (0:Int) [])).steps.map (rj (PN (gp tt))))=mvC (pN tt) (p.af.getD k (ag.mk zE zE (0:Int) (0:Int) [])):=by
 obtain⟨h1,h2,h3,h4,h5,h6⟩:=h.t.v.st hk;have e:PN (gp tt)=pN tt:=rfl;unfold mvC;rw[e];by_cases hr:(p.af.getD k (ag.mk zE zE (0:Int) (0:Int) [])).aM=1
 .rw[a8O hr,a8o hr,h4 hr]
 .rw[a8N hr,a8n hr];rfl
def N5(p:ai)(j q:Nat):List Bool:=Xq (il p j) ((pP (bQ p ((p.af.length:Int) - 1 - (j:Int)))).take q)
def a6l(xs:List Bool)(l:List Int)(i:Int):Xq xs (l++[i])=(Xq xs l).set i.toNat true:=by unfold Xq;rw[List.foldl_append];rfl
def b1V(p:ai)(j:Nat):N5 p j 0=il p j:=by unfold N5;rw[List.take_zero];rfl
def b1X{p:ai}{j q:Nat}(h:q<(pP (bQ p ((p.af.length:Int) - 1 - (j:Int)))).length):(N5 p j q).set ((pP (bQ p ((p.af.length:Int) - 1 - (j:Int)))).getD q 0).toNat true=N5 p j (q+1):=by
 unfold N5;rw[cC 0 _ q h,a6l]
def b1W{p:ai}{j q:Nat}(hm:mb (il p j) ((p.af.length:Int) - 1 - (j:Int))=true)(h:(pP (bQ p ((p.af.length:Int) - 1 - (j:Int)))).length<=q):N5 p j q=il p (j+1):=by
 unfold N5;rw[List.take_of_length_le h,il,if_pos hm]
def b0h{p:ai}{j:Nat}(hm:mb (il p j) ((p.af.length:Int) - 1 - (j:Int))=false):il p j=il p (j+1):=by
 rw[il,b4Z (by rw[hm];decide)]
def a2j(p:ai)(j q:Nat):(N5 p j q).length=p.af.length:=by unfold N5;rw[Xr,z6]
def gu.nd{p:ai}(h:gu p){j q:Nat}(hj:j<p.af.length)(hq:q<(pP (bQ p ((p.af.length:Int) - 1 - (j:Int)))).length):0<=(pP (bQ p ((p.af.length:Int) - 1 - (j:Int)))).getD q 0/\(pP (bQ p ((p.af.length:Int) - 1 - (j:Int)))).getD q 0<(p.af.length:Int):=by
 rw[a4U,a4e hj] at hq ⊢;have:=h.t.lt (k:=p.af.length - 1 - j) (by omega) ((pP (cl p (p.af.length - 1 - j))).getD q 0) (by rw[b5b,b5p hq];exact b6h _);exact⟨this.1,b8x this.2 (by omega)⟩
def gu.np{p:ai}(h:gu p){k:Int}(h0:0<=k)(h1:k<(p.af.length:Int)):0<=(bQ p k).ref/\(bQ p k).ref<=1000/\(bQ p k).steps.length<=1000/\∀ i,i<(bQ p k).steps.length -> -1000<=((bQ p k).steps.getD i (U.mk (0:Int) false [] [] [])).use/\((bQ p k).steps.getD i (U.mk (0:Int) false [] [] [])).use<=1000:=by
 have hk:k.toNat<p.af.length:=by omega
 have hs:=h.t.v.st hk;refine⟨hs.2.1.1,b7W hs.2.1.2 (by decide),b6x hs.2.2.1 (by decide),λ i hi=>⟨b7W (by decide) (hs.2.2.2.2.2 i hi),?_⟩⟩;have:=h.t.v.cg hk;simp only[lQ,b4S] at this;have h2:=rM _ (U.mk (0:Int) false [] [] []) _ i this.2 hi;simp only[lM,b4S,b4N] at h2;exact b7W h2.1.1.1.1.1.1.1.2 (by decide)
def gu.nl{p:ai}(h:gu p){k:Int}(h0:0<=k)(h1:k<(p.af.length:Int)):(pP (bQ p k)).length<=1000:=by
 have:=(h.np h0 h1).2.2.1;have h2:=Xz (bQ p k).steps;have h3:=a2n (bQ p k);have h5:(bQ p k).steps.length<=60:=(h.t.v.st (i:=k.toNat) (by omega)).2.2.1;unfold pP;rw[List.length_append];omega
def b0k{p:ai}{j:Nat}(h1:j<=p.af.length)(h2:¬ 0<=((p.af.length:Int) - 1 - (j:Int))):il p j=ri p:=by
 unfold ri;rw[show j=p.af.length by omega]
def a2X(p:ai):(ri p).length=p.af.length:=z6 p _
def b4a{p:ai}(h:gu p):(List.replicate (Int.toNat (p.af.length:Int)) false).set (Int.toNat ((p.af.length:Int) - 1)) true=il p 0:=by
 rw[il,b5e,show ((p.af.length:Int) - 1).toNat=p.af.length - 1 by omega]
def b1f(N:List Bool)(n:Nat):List.replicate (Int.toNat (n:Int)) (0:Int)=oi N n 0:=by rw[b5e];rfl
def a5M{p:ai}{N:List Bool}{n i:Nat}(h:mb N (i:Int)=true):(oi N n i).set i ((o8 p N i).length:Int)=oi N n (i+1):=by rw[b2x h,XM]
def a9U{p:ai}(h:gu p):kO p ((p.af.length:Int) - 1) (List.replicate (Int.toNat (p.af.length:Int)) false)=ri p:=by rw[b5e];exact a8v h
def gu.ne{p:ai}(h:gu p):CL p ((p.af.length:Int) - 1) (List.replicate (Int.toNat (p.af.length:Int)) false):=by
 have:=h.n;exact⟨h.t,by rw[b5e,b6T],by omega,by omega⟩
def a8y{p:ai}{i:Nat}(h1:i<=p.af.length)(h2:¬ (i:Int)<(p.af.length:Int))(h:gu p):ai.mk p.sig (o8 p (ri p) i)=im p:=by rw[h.vv,show i=p.af.length by omega]
def a4q(p:ai)(N:List Bool):∀ i,(o8 p N i).length<=i:=λ i=>by
 have h1:=XM p N i;have h2:=a0k N i;omega
def gu.sz{p:ai}(h:cY p<=1048576){i:Nat}(hi:i<p.af.length):bB (bQ p (i:Int))<=1048576:=by
 have g:=kF p;have g2:=fi bB (ag.mk zE zE (0:Int) (0:Int) []) p.af i hi;show bB (p.af.getD i (ag.mk zE zE (0:Int) (0:Int) []))<=1048576;omega
def ze:aN:=⟨BB,[.v (.st .proof)],λ (p:ai)=>⟨(some (cY p<=1048576),[⟨(.st .proof),im p⟩,⟨(.int .i64),xq p⟩])⟩⟩
def NV(p:ai):Nat->aA:=(cQ 0 (.mk (Nat) (λ j=>gu p/\j<=p.af.length) (λ j=>p.af.length - j) [] [0,3,4,15,16,17,18,19,22,23,24,25,26,28,29,30,31,32,33,34,35] (λ j=>[(7, .aH ⟨(.int .i64),((p.af.length:Int) - 1 - (j:Int):Int)⟩),(6, .row 29)]) [2] (λ j=>[(29, .row J4 .bool (il p j:List Bool))]) [] [] (λ j=>(cQ 2 (.a (Nat) (λ q=>mb (il p j) ((p.af.length:Int) - 1 - (j:Int))=true/\(0<=((p.af.length:Int) - 1 - (j:Int))/\q<=(pP (bQ p ((p.af.length:Int) - 1 - (j:Int)))).length)) (λ q=>(pP (bQ p ((p.af.length:Int) - 1 - (j:Int)))).length - q) [36,37,40,41,42,43,44,45,46,47,48] (λ q=>[(51, .aH ⟨(.int .i64),((q:Int):Int)⟩),(6, .row 29)]) [2] (λ q=>[(29, .row J4 .bool (N5 p j q:List Bool))])) bJ))) (cQ 4 (.mk (Nat) (λ i=>gu p/\i<=p.af.length) (λ i=>p.af.length - i) [] [1,5,7,36,37,59,60,61,62,63,64] (λ i=>[(67, .aH ⟨(.int .i64),((i:Int):Int)⟩),(6, .row 29)]) [2] (λ i=>[(29, .row J4 .bool (ri p:List Bool)),(3060, .row OT (.int .i64) (oi (ri p) p.af.length i:List Int)),(10, .box [.row 3060]),(11, .box [.aH ⟨(.int .i64),(p.sig.aw:Int)⟩, .aH ⟨(.int .i64),(p.sig.bh:Int)⟩, .av 2200]),(2200, .av (.st .claim) (o8 p (ri p) i:List ag))]) [(3060,60)] [] (λ i=>bJ)) bJ))
abbrev tM(p:ai)(i2:Nat)(i3:Nat):Prop:=(True/\(True/\(True/\(True/\(p.af=p.af/\(((p.af.length:Int))=((p.af.length:Int))/\(((i2:Int)+(1:Int))=(i3:Int)/\True)))))))
def HH:aN.cZ ze:=by
 refine⟨ar xJ,?_⟩;intro (p:ai) (hp:cY p<=1048576);refine cp [DM,zh,wL] [zf] [] [Bx] [83,85,89,90] [] [Lz] [1] ⟨KW,RW,Fb,ae⟩ ⟨HJ,ae⟩ trivial ⟨JS,ae⟩ xJ H6 (NV p) (let v0:=(p.af.length:Int);let v4:=(0:Int);let v1:=ag.mk zE zE v4 v4 [];let v5:=ri p;let v6:=(1:Int);let v7:=True/\True;let v2:=(v4=v4/\(v4=v4/\v7))/\True;let v3:=p.sig.aw=p.sig.aw/\(p.sig.bh=p.sig.bh/\v7);let v8:=List.replicate (Int.toNat (v0)) false;let v9:=(v0) - v6;let va:=U.mk v4 false [] [] [];((O (tz ([p]))->(((!(decide ((tz ([p]))=v4)))=true->((ai.mk (aW.mk v4 v4) [])=(im p)/\(tz ([p]))=(xq p)))/\((!(decide ((tz ([p]))=v4)))=false->(p.af.length<=140737488355328->(O (v0)->(((decide ((v0)=v4))=true->((ai.mk (aW.mk v4 v4) [])=(im p)/\(4:Int)=(xq p)))/\((decide ((v0)=v4))=false->(bG (v0) (v0) 1/\(O v9/\(ak v9 v8.length/\(O v9/\((∃ j1:Nat,((gu p/\j1<=p.af.length)/\((p=p/\(True/\((v0)=(v0)/\(True/\(v9=(v0 - 1 - (j1:Int))/\True)))))/\((v8.set (Int.toNat v9) true)=(il p j1)/\v2))))/\(∀ j1:Nat,let vc:=v0 - 1 - (j1:Int);let vb:=p.af.getD (Int.toNat vc) v1;let ve:=il p j1;let vf:=pP (bQ p vc);let vg:=pP vb;let vd:=(vg.length:Int);((gu p/\j1<=p.af.length)->(((decide (v4<=vc))=true->(ak vc ve.length/\(((ve.getD (Int.toNat vc) false)=true->(p.af.length<=140737488355328->(ak vc p.af.length/\((0<=vb.ref/\vb.ref<=1000/\vb.steps.length<=1000/\∀ i,i<vb.steps.length -> -1000<=(vb.steps.getD i va).use/\(vb.steps.getD i va).use<=1000)/\(vg.length<=140737488355328->(O vd->((∃ q2:Nat,((mb ve vc=true/\(0<=vc/\q2<=vf.length))/\((p=p/\(True/\((v0)=(v0)/\(True/\(vc=vc/\(vg=vg/\(vd=vd/\(v4=(q2:Int)/\True))))))))/\(ve=(N5 p j1 q2)/\v2))))/\(∀ q2:Nat,((mb ve vc=true/\(0<=vc/\q2<=vf.length))->(((decide ((q2:Int)<vd))=true->(ak (q2:Int) vg.length/\(O (vg.getD q2 v4)->(ak (vg.getD q2 v4) (N5 p j1 q2).length/\(O ((q2:Int)+v6)/\(∃ q3:Nat,((mb ve vc=true/\(0<=vc/\q3<=vf.length))/\(vf.length - q3<vf.length - q2/\((p=p/\(True/\((v0)=(v0)/\(True/\(vc=vc/\(vg=vg/\(vd=vd/\(((q2:Int)+v6)=(q3:Int)/\True))))))))/\(((N5 p j1 q2).set (Int.toNat (vg.getD q2 v4)) true)=(N5 p j1 q3)/\v2))))))))))/\((decide ((q2:Int)<vd))=false->(O (vc - v6)/\(∃ j3:Nat,((gu p/\j3<=p.af.length)/\(p.af.length - j3<p.af.length - j1/\((p=p/\(True/\((v0)=(v0)/\(True/\((vc - v6)=(v0 - 1 - (j3:Int))/\True)))))/\((N5 p j1 q2)=(il p j3)/\v2)))))))))))))))))/\((ve.getD (Int.toNat vc) false)=false->(O (vc - v6)/\(∃ j2:Nat,((gu p/\j2<=p.af.length)/\(p.af.length - j2<p.af.length - j1/\((p=p/\(True/\((v0)=(v0)/\(True/\((vc - v6)=(v0 - 1 - (j2:Int))/\True)))))/\(ve=(il p j2)/\v2))))))))))/\((decide (v4<=vc))=false->(bG (v0) (v0) 8/\(p.af.length<=140737488355328->(O (v0)->((∃ i2:Nat,((gu p/\i2<=p.af.length)/\((True/\(True/\(True/\(True/\(p.af=p.af/\((v0)=(v0)/\(v4=(i2:Int)/\True)))))))/\(ve=v5/\((List.replicate (Int.toNat (v0)) v4)=(oi v5 p.af.length i2)/\(v7/\(v3/\((o8 p v5 i2)=[]/\v2))))))))/\(∀ i2:Nat,let vj:=p.af.getD i2 v1;let vk:=oi v5 p.af.length i2;let vl:=(i2:Int);let vn:=o8 p v5 i2;let vi:=vk.set i2 ((vn.length:Int));let vm:=gp vi;let vh:=[(ag.mk (aI vj.left) (aI vj.right) vj.aM (U7 vm vj.aM vj.ref) (vj.steps.map (rj (PN vm))))];((gu p/\i2<=p.af.length)->(((decide (vl<(v0)))=true->(ak vl p.af.length/\(ak vl v5.length/\(((v5.getD i2 false)=true->(ak vl vk.length/\(bB (qb vj)<=1048576/\(RnP vm vj.aM vj.ref vj.steps/\(bc (vn.length+vh.length) 120/\(O (vl+v6)/\(∃ i3:Nat,((gu p/\i3<=p.af.length)/\(p.af.length - i3<p.af.length - i2/\((tM p i2 i3)/\(v5=v5/\(vi=(oi v5 p.af.length i3)/\(v7/\(v3/\((vn++vh)=(o8 p v5 i3)/\v2)))))))))))))))/\((v5.getD i2 false)=false->(O (vl+v6)/\(∃ i3:Nat,((gu p/\i3<=p.af.length)/\(p.af.length - i3<p.af.length - i2/\((tM p i2 i3)/\(v5=v5/\(vk=(oi v5 p.af.length i3)/\(v7/\(v3/\(vn=(o8 p v5 i3)/\v2)))))))))))))))/\((decide (vl<(v0)))=false->((ai.mk (aW.mk p.sig.aw p.sig.bh) vn)=(im p)/\v4=(xq p)))))))))))))))))))))))))))) ?_;refine λ _=>⟨λ _=>⟨?_,?_⟩,λ _ _ _=>⟨λ _=>⟨?_,?_⟩,λ _=>⟨?_,?_,?_,?_,⟨0,?_,⟨rfl,ae,rfl,ae,?_,ae⟩,?_,⟨rfl,rfl,ae,ae⟩,ae⟩,λ j1 _=>⟨λ _=>⟨?_,λ _ _=>⟨?_,?_,λ _ _=>⟨⟨0,?_,⟨rfl,ae,rfl,ae,rfl,rfl,rfl,?_,ae⟩,?_,⟨rfl,rfl,ae,ae⟩,ae⟩,λ q2 _=>⟨λ _=>⟨?_,λ _=>⟨?_,?_,q2+1,?_,?_,⟨rfl,ae,rfl,ae,rfl,rfl,rfl,?_,ae⟩,?_,⟨rfl,rfl,ae,ae⟩,ae⟩⟩,λ _=>⟨?_,j1+1,?_,?_,⟨rfl,ae,rfl,ae,?_,ae⟩,?_,⟨rfl,rfl,ae,ae⟩,ae⟩⟩⟩⟩,λ _=>⟨?_,j1+1,?_,?_,⟨rfl,ae,rfl,ae,?_,ae⟩,?_,⟨rfl,rfl,ae,ae⟩,ae⟩⟩,λ _=>⟨?_,λ _ _=>⟨⟨0,?_,⟨ae,ae,ae,ae,rfl,rfl,?_,ae⟩,?_,?_,⟨ae,ae⟩,⟨rfl,rfl,ae,ae⟩,?_,⟨rfl,rfl,ae,ae⟩,ae⟩,λ i2 _=>⟨λ _=>⟨?_,?_,λ _=>⟨?_,?_,?_,?_,?_,i2+1,?_,?_,⟨ae,ae,ae,ae,rfl,rfl,?_,ae⟩,rfl,?_,⟨ae,ae⟩,⟨rfl,rfl,ae,ae⟩,?_,⟨rfl,rfl,ae,ae⟩,ae⟩,λ _=>⟨?_,i2+1,?_,?_,⟨ae,ae,ae,ae,rfl,rfl,?_,ae⟩,rfl,?_,⟨ae,ae⟩,⟨rfl,rfl,ae,ae⟩,?_,⟨rfl,rfl,ae,ae⟩,ae⟩⟩,λ _=>⟨?_,?_⟩⟩⟩⟩⟩⟩⟩⟩;all_goals try and_intros
 all_goals try (first|with_reducible rfl|with_reducible assumption)
 all_goals try simp only[J.eta,ag.eta,au.eta,aK,br,bL] at *
 all_goals first|with_reducible rfl|with_reducible assumption|exact True.intro|(simp only[b4V,b4U,b4T,b4R] at *;done)|((try simp only[b5q,J.eta,b4N,b4M,b4T,b4R,b5a,b5k,ak,O,bc,b5f,b4Y,b5j,b5g,b5n] at *)<;>(try simp only[Ir,a0M,a4S,b5V,b6T,z6,a2j,a2X,ED] at *)<;>first|with_reducible exact True.intro|omega|((first|have Q:=b1h (p:=p) (by omega)|have Q:=b1g (p:=p) (by omega) (by omega));first|exact Q.1|exact Q.2|exact Q.1.symm|exact Q.2.symm)|(have Q:gu p:=(by first|with_reducible assumption|exact gu.mk' (by omega) (by omega)|exact (And.left (by with_reducible assumption)));have hn:=Q.n;have hl:=Q.t.v.ln;first|exact Q|omega|(simp only[bG];omega)|exact (by assumption)|exact b1f _ _|exact a5M (by assumption)|exact (a9d (by assumption)).symm|exact (a8z (by assumption)).symm|exact gu.sz hp (by omega)|exact a8y (by omega) (by omega) Q|exact Q.c0.symm|rfl|(have:=a4q p (ri p) i2;omega)|exact b4a Q|exact (b1V p j1).symm|exact b1X (by omega)|exact b1W (by assumption) (by omega)|exact b0h (by assumption)|(have h8:=Q.np (k:=(p.af.length:Int) - 1 - (j1:Int)) (by omega) (by omega);first|exact h8.1|exact h8.2.1|exact h8.2.2.1|exact h8.2.2.2)|(have h9:=Q.nl (k:=(p.af.length:Int) - 1 - (j1:Int)) (by omega) (by omega);omega)|(have h9:=Q.nd (j:=j1) (q:=q2) (by omega) (by omega);omega)|exact b0k (by omega) (by omega)|(rw[a5M (by assumption)];first|exact b2A Q (by omega) (by omega)|(rw[b2z Q (by omega)];exact (a8A (by assumption)).symm)))|omega)
def o4:aN:=⟨BI,[.v (.st .proof)],λ (p:ai)=>⟨(some (cY p<=1048576),[⟨(.st .proof),im p⟩,⟨(.int .i64),xq p⟩])⟩⟩
def N0(p:ai):Nat->aA:=(cQ 0 (.a (Nat) (λ i=>gu p/\i<=p.af.length) (λ i=>p.af.length - i) [0,3,4,10,11,12,15,16,17,18,19,21,22,23,24,25,27,28,29,30,31] (λ i=>[(9, .aH ⟨(.int .i64),((i:Int):Int)⟩),(6, .av 22),(7, .row 28)]) [2] (λ i=>[(22, .av .bool (ri p:List Bool)),(28, .row OT (.int .i64) (oi (ri p) p.af.length i:List Int)),(8, .box [.aH ⟨(.int .i64),(p.sig.aw:Int)⟩, .aH ⟨(.int .i64),(p.sig.bh:Int)⟩, .av 2200]),(2200, .av (.st .claim) (o8 p (ri p) i:List ag))])) bJ)
abbrev tU(p:ai)(i1:Nat)(i2:Nat):Prop:=(p=p/\(True/\(((p.af.length:Int))=((p.af.length:Int))/\(True/\(True/\(True/\(((i1:Int)+(1:Int))=(i2:Int)/\True)))))))
def HM:aN.cZ o4:=by
 refine⟨ar xQ,?_⟩;intro (p:ai) (hp:cY p<=1048576);refine a2z [Gy] [Bw] [] [] [zk] [26,55,56,57,22] [] [] [1] ⟨Nq,ae⟩ ⟨JL,ae⟩ trivial trivial ⟨HR,ae⟩ xQ Ih (N0 p) (let v0:=(p.af.length:Int);let v1:=(0:Int);let v2:=p.sig.aw=p.sig.aw/\(p.sig.bh=p.sig.bh/\(True/\True));let v3:=ag.mk zE zE v1 v1 [];let v4:=ri p;let v5:=(v1=v1/\(v1=v1/\(True/\True)))/\True;let v6:=(8:Nat)=8/\(2:Nat)=2;let v7:=List.replicate (Int.toNat v0) false;((O (k9 p)->(((!(decide ((k9 p)=v1)))=true->((ai.mk (aW.mk v1 v1) [])=(im p)/\(k9 p)=(xq p)))/\((!(decide ((k9 p)=v1)))=false->(p.af.length<=140737488355328->(O v0->(((decide (v0=v1))=true->((ai.mk (aW.mk v1 v1) [])=(im p)/\(4:Int)=(xq p)))/\((decide (v0=v1))=false->(bG v0 v0 1/\(O (v0 - (1:Int))/\(CL p (v0 - (1:Int)) v7/\(bG v0 v0 8/\((∃ i1:Nat,((gu p/\i1<=p.af.length)/\((p=p/\(True/\(v0=v0/\(True/\(True/\(True/\(v1=(i1:Int)/\True)))))))/\((kO p (v0 - (1:Int)) v7)=v4/\((List.replicate (Int.toNat v0) v1)=(oi v4 p.af.length i1)/\(v2/\((o8 p v4 i1)=[]/\v5)))))))/\(∀ i1:Nat,let v9:=p.af.getD i1 v3;let va:=(i1:Int);let vb:=oi v4 p.af.length i1;let vc:=o8 p v4 i1;let v8:=vb.set i1 ((vc.length:Int));let vd:=[(qb (mvC (pN v8) v9))];((gu p/\i1<=p.af.length)->(((decide (va<v0))=true->(ak va v4.length/\(((!(v4.getD i1 false))=true->(O (va+(1:Int))/\(∃ i2:Nat,((gu p/\i2<=p.af.length)/\(p.af.length - i2<p.af.length - i1/\((tU p i1 i2)/\(v4=v4/\(vb=(oi v4 p.af.length i2)/\(v2/\(vc=(o8 p v4 i2)/\v5))))))))))/\((!(v4.getD i1 false))=false->(ak va vb.length/\(p.af.length<=140737488355328->(O va->(ak va p.af.length/\(v6/\((2200:Nat)=2200/\(p.af=p.af/\(p.af=p.af/\(va=va/\(ak va p.af.length/\(v9=v9/\((28:Nat)=28/\((bB v9<=1048576/\MvP v8 v9)/\(v6/\((2200:Nat)=2200/\(v6/\((2200:Nat)=2200/\(bc (vc.length+vd.length) 120/\(O (va+(1:Int))/\(∃ i2:Nat,((gu p/\i2<=p.af.length)/\(p.af.length - i2<p.af.length - i1/\((tU p i1 i2)/\(v4=v4/\(v8=(oi v4 p.af.length i2)/\(v2/\((vc++vd)=(o8 p v4 i2)/\v5)))))))))))))))))))))))))))))))/\((decide (va<v0))=false->((ai.mk (aW.mk p.sig.aw p.sig.bh) vc)=(im p)/\v1=(xq p)))))))))))))))))))) ?_;refine λ _=>⟨λ _=>⟨?_,?_⟩,λ _ _ _=>⟨λ _=>⟨?_,?_⟩,λ _=>⟨?_,?_,?_,?_,⟨0,?_,⟨rfl,ae,rfl,ae,ae,ae,?_,ae⟩,?_,?_,⟨rfl,rfl,ae,ae⟩,?_,⟨rfl,rfl,ae,ae⟩,ae⟩,λ i1 _=>⟨λ _=>⟨?_,λ _=>⟨?_,i1+1,?_,?_,⟨rfl,ae,rfl,ae,ae,ae,?_,ae⟩,rfl,?_,⟨rfl,rfl,ae,ae⟩,?_,⟨rfl,rfl,ae,ae⟩,ae⟩,λ _=>⟨?_,λ _ _=>⟨?_,⟨?_,?_⟩,?_,rfl,rfl,rfl,?_,rfl,?_,?_,⟨?_,?_⟩,?_,⟨?_,?_⟩,?_,?_,?_,i1+1,?_,?_,⟨rfl,ae,rfl,ae,ae,ae,?_,ae⟩,rfl,?_,⟨rfl,rfl,ae,ae⟩,?_,⟨rfl,rfl,ae,ae⟩,ae⟩⟩⟩,λ _=>⟨?_,?_⟩⟩⟩⟩⟩;all_goals try and_intros
 all_goals try (first|with_reducible rfl|with_reducible assumption)
 all_goals try simp only[J.eta,ag.eta,au.eta,aK,br,bL] at *
 all_goals first|with_reducible rfl|with_reducible assumption|exact True.intro|(simp only[b4V,b4U,b4T,b4R] at *;done)|((try simp only[b5q,J.eta,b4N,b4M,b4T,b4R,b5a,b5k,ak,O,bc,b5f,b4Y,b5j,b5g,b5n] at *)<;>(try simp only[Ir,a0M,a4S,b5V,b6T,z6,a2j,a2X,ED] at *)<;>first|with_reducible exact True.intro|omega|((first|have Q:=b1h (p:=p) (by omega)|have Q:=b1g (p:=p) (by omega) (by omega));first|exact Q.1|exact Q.2|exact Q.1.symm|exact Q.2.symm)|(have Q:gu p:=(by first|with_reducible assumption|exact gu.mk' (by omega) (by omega)|exact (And.left (by with_reducible assumption)));have hn:=Q.n;have hl:=Q.t.v.ln;first|exact Q|omega|(simp only[bG];omega)|exact (by assumption)|exact b1f _ _|exact a5M (by assumption)|exact (a9d (by assumption)).symm|exact (a8z (by assumption)).symm|exact gu.sz hp (by omega)|exact a8y (by omega) (by omega) Q|exact Q.c0.symm|rfl|(have:=a4q p (ri p) i1;omega)|(rw[a5M (by assumption)];first|exact Q.mvp (by omega) (by omega)|exact⟨gu.sz hp (by omega),Q.mvp (by omega) (by omega)⟩|exact (a8A (by assumption)).symm)|exact a9U Q|exact Q.ne)|omega)
def IH:aN.Good o4:=HM.plain
mutual
def a5S:∀ x:J,bj x=2+2 * aE x
 | ⟨k,n,ks⟩=>by
  have:=MU ks;simp only[bj,aE,this,FO]
def MU:∀ xs:List J,B2 xs=2 * (xs.length+aG aE xs)
 | []=>by simp[B2,aG]
 | x::xs=>by
  have h1:=a5S x;have h2:=MU xs;simp only[B2,aG,b4Y,h1,h2];omega
end
def RH(xs:List J):aG bj xs=2 * (xs.length+aG aE xs):=by
 have:=MU xs;rwa [Dj] at this
def a1A(x:J):aG bj x.M=2 * aE x:=by rw[RH,jU]
def a0l(x:U):aD x<=2+2 * aZ x:=by
 rw[lD,gR,RH,RH];omega
def LN:∀ xs:List U,aG aD xs<=2 * (xs.length+aG aZ xs)
 | []=>by simp[aG]
 | x::xs=>by
  have h1:=a0l x;have h2:=LN xs;simp only[aG,b4Y];omega
def Yp(x:ag):aF x<=6+2 * bB x:=by
 have:=LN x.steps;rw[sY,iR,a1A,a1A];omega
def Is:∀ xs:List ag,aG aF xs<=6 * (xs.length+aG bB xs)
 | []=>by simp[aG]
 | x::xs=>by
  have h1:=Yp x;have h2:=Is xs;simp only[aG,b4Y];omega
def LM(p:ai):aG aF p.af<=6 * cY p:=by
 have:=Is p.af;rw[kF];omega
def a5p(F:Int->Int):∀ xs:List U,aG aZ (xs.map (rj F))=aG aZ xs
 | []=>rfl
 | x::xs=>by rw[b5J,aG,aG,a5p F xs];rfl
def a9R(F:Int->Int)(x:ag):bB (mvC F x)=bB x:=by
 rw[iR,iR];show _+_+((x.steps.map (rj F)).length+aG aZ (x.steps.map (rj F)))=_;rw[a5p,b5g];rfl
def a8B(p:ai)(N:List Bool):∀ i,i<=p.af.length->aG bB (o8 p N i)<=aG bB (p.af.take i)
 | 0,_=>by simp[o8]
 | i+1,hi=>by
  have ih:=a8B p N i (by omega);rw[cC (ag.mk zE zE (0:Int) (0:Int) []) p.af i (by omega),X9];unfold o8;split
  .rw[X9];simp only[aG,a9R];show _+(bB (p.af.getD i (ag.mk zE zE (0:Int) (0:Int) []))+0)<=_;omega
  .omega
def b0l(p:ai)(h1:cY p<=1048576):cY (im p)<=8388608:=by
 unfold im;split
 .have h2:=a8B p (ri p) p.af.length (b5w _);have h3:=a4q p (ri p) p.af.length;rw[b7j] at h2;rw[kF] at h1 ⊢;show _+aG bB (o8 p (ri p) p.af.length)<=_;have:(ai.mk p.sig (o8 p (ri p) p.af.length)).af.length=(o8 p (ri p) p.af.length).length:=rfl;omega
 .rw[kF];simp[aG]
def Cl:aN:=⟨jd,[.v (.st .proof)],λ (p:ai)=>⟨(none,[⟨.bool,true⟩])⟩⟩
def Co(p:ai):Nat->aA:=bJ
abbrev me(p:ai):Prop:=((decide ((nT aF bI (1:Int) (ai.mk (im p).sig ((ai.mk (im p).sig (iM aF bI (1:Int) (im p).af))).af).af)<(0:Int)))=true ->
 false=true)
abbrev mg(p:ai):Prop:=((!(decide ((nT aF bI (1:Int) (ai.mk (im p).sig ((ai.mk (im p).sig (iM aF bI (1:Int) (im p).af))).af).af)=((1:Int)+(aG aF (im p).af:Int)))))=true ->
 false=true)
abbrev mh(p:ai):Prop:=(let v0:=ai.mk (im p).sig ((ai.mk (im p).sig (iM aF bI (1:Int) (im p).af))).af;let v1:=nT aF bI (1:Int) v0.af;((0<=(1:Int)/\(1:Int)+(aG aF v0.af:Int)<=4611686018427387904)/\(O v1 ->
 ((me p)/\((decide (v1<(0:Int)))=false ->
 ((mg p)/\((!(decide (v1=((1:Int)+(aG aF (im p).af:Int)))))=false ->
 true=true)))))))
abbrev yP(p:ai):Prop:=(let v2:=(1:Int);let v0:=ai.mk (im p).sig ((ai.mk (im p).sig (iM aF bI v2 (im p).af))).af;let v1:=nT aF bI v2 v0.af;let v3:=(aG aF (im p).af:Int);let v4 := !(decide ((xq p)=(xq p)));((0<=v2/\v2+v3<=4611686018427387904)/\((0<=v2/\v2+(aG aF v0.af:Int)<=4611686018427387904)/\(O v1 ->
 ((me p)/\((decide (v1<(0:Int)))=false ->
 ((mg p)/\((!(decide (v1=(v2+v3))))=false ->
 (cY p<=1048576/\(cY p<=1048576/\(O (xq p) ->
 (((!(bH (im p) (im p)))=false ->
 ((v4=true ->
 false=true)/\(v4=false ->
 (mh p))))/\((!(bH (im p) (im p)))=(!false) ->
 ((true=true ->
 false=true)/\(true=false ->
 (mh p))))))))))))))))
abbrev mi(p:ai):Prop:=(let v0 := !(decide ((xq p)=(xq p)));let v1:=yP p;let v2:=decide (((1:Int)+(aG aF p.af:Int))<(0:Int));(cY p<=1048576/\(((!(bH p p))=true ->
 false=true)/\((!(bH p p))=false ->
 ((0<=(1:Int)/\(1:Int)+(aG aF p.af:Int)<=4611686018427387904)/\((v2=false ->
 (((!(bH (im p) (im p)))=false ->
 ((v0=true ->
 false=true)/\(v0=false ->
 v1)))/\((!(bH (im p) (im p)))=(!false) ->
 ((true=true ->
 false=true)/\(true=false ->
 v1)))))/\(v2=(!false) ->
 ((true=false ->
 ((v0=true ->
 false=true)/\(v0=false ->
 v1)))/\(true=(!false) ->
 ((true=true ->
 false=true)/\(true=false ->
 v1)))))))))))
def xe:aN.Good Cl:=by
 refine⟨ar nA,?_⟩;intro (p:ai) _;refine XL [Gr,Gu,Gn,Bo,o4] [D2,ze] [zp] [] [29,48,64,76,26] [] [] [1] ⟨Ng,Nj,Nb,IG,IH,ae⟩ ⟨Lv,HH,ae⟩ ⟨HG,ae⟩ trivial nA xc (Co p) (let v0:=fE (cY p) (1048576:Int);let v1 := !(decide ((xq p)=(xq p)));(((0<=(1048576:Int)/\(1048576:Int)<=1048576)/\(O v0->(((decide (v0<(0:Int)))=true->true=true)/\((decide (v0<(0:Int)))=false->(cY p<=1048576/\(cY p<=1048576/\(O (xq p)->(cY p<=1048576/\(cY p<=1048576/\(O (xq p)->(((!(bH (im p) (im p)))=false->((v1=true->false=true)/\(v1=false->(mi p))))/\((!(bH (im p) (im p)))=(!false)->((true=true->false=true)/\(true=false->(mi p))))))))))))))))) ?_;have f0:=eo (cY p) 1048576;have f3:=LM p;have f6:=LM (im p);have f7:=b0l p;have f8:=a3L 1 (im p).af;have f9:=(Vo aF bI a5o a1x 1 (im p).af).2;refine⟨?_,λ _=>⟨λ _=>rfl,λ _=>⟨?_,?_,λ _=>⟨?_,?_,λ _=>⟨λ _=>⟨λ _=>?_,λ _=>⟨?_,λ _=>?_,λ _=>⟨?_,λ _=>⟨λ _=>⟨λ _=>?_,λ _=>⟨?_,?_,λ _=>⟨λ _=>?_,λ _=>⟨λ _=>?_,λ _=>⟨?_,?_,λ _=>⟨λ _=>⟨λ _=>?_,λ _=>⟨?_,λ _=>⟨λ _=>?_,λ _=>⟨λ _=>?_,λ _=>rfl⟩⟩⟩⟩,λ _=>⟨λ _=>?_,λ _=>⟨?_,λ _=>⟨λ _=>?_,λ _=>⟨λ _=>?_,λ _=>rfl⟩⟩⟩⟩⟩⟩⟩⟩⟩⟩,λ _=>⟨λ _=>?_,λ _=>⟨?_,?_,λ _=>⟨λ _=>?_,λ _=>⟨λ _=>?_,λ _=>⟨?_,?_,λ _=>⟨λ _=>⟨λ _=>?_,λ _=>⟨?_,λ _=>⟨λ _=>?_,λ _=>⟨λ _=>?_,λ _=>rfl⟩⟩⟩⟩,λ _=>⟨λ _=>?_,λ _=>⟨?_,λ _=>⟨λ _=>?_,λ _=>⟨λ _=>?_,λ _=>rfl⟩⟩⟩⟩⟩⟩⟩⟩⟩⟩⟩,λ _=>⟨λ _=>⟨λ _=>?_,λ _=>⟨?_,?_,λ _=>⟨λ _=>?_,λ _=>⟨λ _=>?_,λ _=>⟨?_,?_,λ _=>⟨λ _=>⟨λ _=>?_,λ _=>⟨?_,λ _=>⟨λ _=>?_,λ _=>⟨λ _=>?_,λ _=>rfl⟩⟩⟩⟩,λ _=>⟨λ _=>?_,λ _=>⟨?_,λ _=>⟨λ _=>?_,λ _=>⟨λ _=>?_,λ _=>rfl⟩⟩⟩⟩⟩⟩⟩⟩⟩⟩,λ _=>⟨λ _=>?_,λ _=>⟨?_,?_,λ _=>⟨λ _=>?_,λ _=>⟨λ _=>?_,λ _=>⟨?_,?_,λ _=>⟨λ _=>⟨λ _=>?_,λ _=>⟨?_,λ _=>⟨λ _=>?_,λ _=>⟨λ _=>?_,λ _=>rfl⟩⟩⟩⟩,λ _=>⟨λ _=>?_,λ _=>⟨?_,λ _=>⟨λ _=>?_,λ _=>⟨λ _=>?_,λ _=>rfl⟩⟩⟩⟩⟩⟩⟩⟩⟩⟩⟩⟩⟩⟩,λ _=>⟨λ _=>?_,λ _=>⟨?_,λ _=>?_,λ _=>⟨?_,λ _=>⟨λ _=>⟨λ _=>?_,λ _=>⟨?_,?_,λ _=>⟨λ _=>?_,λ _=>⟨λ _=>?_,λ _=>⟨?_,?_,λ _=>⟨λ _=>⟨λ _=>?_,λ _=>⟨?_,λ _=>⟨λ _=>?_,λ _=>⟨λ _=>?_,λ _=>rfl⟩⟩⟩⟩,λ _=>⟨λ _=>?_,λ _=>⟨?_,λ _=>⟨λ _=>?_,λ _=>⟨λ _=>?_,λ _=>rfl⟩⟩⟩⟩⟩⟩⟩⟩⟩⟩,λ _=>⟨λ _=>?_,λ _=>⟨?_,?_,λ _=>⟨λ _=>?_,λ _=>⟨λ _=>?_,λ _=>⟨?_,?_,λ _=>⟨λ _=>⟨λ _=>?_,λ _=>⟨?_,λ _=>⟨λ _=>?_,λ _=>⟨λ _=>?_,λ _=>rfl⟩⟩⟩⟩,λ _=>⟨λ _=>?_,λ _=>⟨?_,λ _=>⟨λ _=>?_,λ _=>⟨λ _=>?_,λ _=>rfl⟩⟩⟩⟩⟩⟩⟩⟩⟩⟩⟩,λ _=>⟨λ _=>⟨λ _=>?_,λ _=>⟨?_,?_,λ _=>⟨λ _=>?_,λ _=>⟨λ _=>?_,λ _=>⟨?_,?_,λ _=>⟨λ _=>⟨λ _=>?_,λ _=>⟨?_,λ _=>⟨λ _=>?_,λ _=>⟨λ _=>?_,λ _=>rfl⟩⟩⟩⟩,λ _=>⟨λ _=>?_,λ _=>⟨?_,λ _=>⟨λ _=>?_,λ _=>⟨λ _=>?_,λ _=>rfl⟩⟩⟩⟩⟩⟩⟩⟩⟩⟩,λ _=>⟨λ _=>?_,λ _=>⟨?_,?_,λ _=>⟨λ _=>?_,λ _=>⟨λ _=>?_,λ _=>⟨?_,?_,λ _=>⟨λ _=>⟨λ _=>?_,λ _=>⟨?_,λ _=>⟨λ _=>?_,λ _=>⟨λ _=>?_,λ _=>rfl⟩⟩⟩⟩,λ _=>⟨λ _=>?_,λ _=>⟨?_,λ _=>⟨λ _=>?_,λ _=>⟨λ _=>?_,λ _=>rfl⟩⟩⟩⟩⟩⟩⟩⟩⟩⟩⟩⟩⟩⟩⟩⟩⟩⟩⟩;all_goals try and_intros
 all_goals first|rfl|trivial|omega|(simp only[b4N,b4M,ak,O,bT,cB,bG,bc] at *;omega)|(simp[ak,O] at *;omega)|grind|(simp_all;done)|(simp_all;omega)
def HC:∀ Ro:List TV,Ro.map TV.τ=[(.st .proof)]->gw prog jd (Ro.map .val) (·=[⟨.bool,true⟩]):=by
 intro Ro h;match Ro,h with
 | [⟨t0,a0⟩],h =>
  simp only[b5J,b6K,b4X,b5d] at h;obtain rfl:=h;exact xe.2 a0 trivial
end
end Go.Proofs.YtmjfpcajohhbeaaGreatDoor

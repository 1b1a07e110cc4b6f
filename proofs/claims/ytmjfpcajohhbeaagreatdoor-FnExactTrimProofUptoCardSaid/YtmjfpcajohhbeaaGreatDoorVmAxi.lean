/- VmPf1, VmSame2, VmShelf3, VmCut, VmWe, VmText, VmWord2, VmRExpr, VmRExpr2, VmRdm, VmRds, VmRdx, VmEqn, VmAxi. -/
import Derived.Test.YtmjfpcajohhbeaaGreatDoorVmWord
import Derived.Shelf.Strings.Builder1
import Derived.Shelf.Strconv.Itoa0
import Derived.Shelf.Strconv.Itoa1
import Derived.Shelf.LaysM
import Derived.Shelf.Strconv.Itoa2
import Derived.Shelf.Strconv.Itoa3
import Derived.Shelf.Strings.Search1
import Derived.Shelf.Strings.Search2
import Derived.Shelf.Strings.Cut
import Derived.Shelf.Strings.Shaped
import Derived.Shelf.Strings.Prefix
import Derived.Test.YtmjfpcajohhbeaaGreatDoorProg
set_option linter.all false
set_option maxHeartbeats 4000000
set_option maxRecDepth 4000
namespace Go.Proofs.YtmjfpcajohhbeaaGreatDoor
def b4V:=@Bool.true_eq_false
def b8T:=@Go.Lib.size_eq
def b8U:=@Nat.le_succ
def b8V:=@Int.le_refl
def b8f:=@UInt8.toNat_ofNat'
def b7D:=@List.drop_succ_cons
def b5D:=@decide_true
def b8k:=@Bool.and_self
def b8g:=@cond_true
def b5y:=@decide_false
def b5l:=@not_true_eq_false
def b5m:=@not_false_eq_true
def b5v:=@false_implies
def b5z:=@true_implies
def b5P:=@Bool.eq_false_or_eq_true
def b6B:=@Bool.and_true
def b8s:=@cond_false
noncomputable section
def Jz(x:J)(ps:List Int):J:=bif eC x ps then dM x ps else J.mk (0:Int) (0:Int) []
def FE(x:J)(ps:List Int):Bool:=eC x ps&&o7 x ps
def CJ.no{x:J}{ks:List Int}{k:Nat}(h:CJ x ks k)(hk:k<ks.length)(hb:¬ (0<=ks.getD k 0/\ks.getD k 0<=((dM x (ks.take k)).M.length:Int) - 1)):Jz x ks=J.mk (0:Int) (0:Int) []/\FE x ks=false/\eC x ks=false:=by
 have:=h.bad hk hb;unfold Jz FE;rw[this];exact⟨rfl,rfl,rfl⟩
def CJ.yes{x:J}{ks:List Int}{k:Nat}(h:CJ x ks k)(hk:ks.length<=k):Jz x ks=dM x (ks.take k)/\FE x ks=o7 x (ks.take k)/\eC x ks=true:=by
 have:=h.done hk;have e:=a0P x ks k hk;unfold Jz FE;rw[this,e.2.1,e.2.2];exact⟨rfl,rfl,rfl⟩
def y8:aN:=⟨Jq,[.v (.st .expr), .v (.slice (.int .i64))],λ (x:J) (ps:List Int)=>⟨(none,[⟨(.st .expr),Jz x ps⟩,⟨.bool,FE x ps⟩,⟨.bool,eC x ps⟩])⟩⟩
def W3(x:J)(ps:List Int):Nat->aA:=(cQ 0 (.a (Nat) (λ k=>CJ x ps k) (λ k=>ps.length - k) [0,1] (λ k=>[(11, .aH ⟨(.int .i64),((k:Int):Int)⟩),(5, .aH ⟨.bool,(o7 x (ps.take k):Bool)⟩)]) [4] (λ k=>[(2, .box [.aH ⟨(.int .i64),((dM x (ps.take k)).aq:Int)⟩, .aH ⟨(.int .i64),((dM x (ps.take k)).aS:Int)⟩, .aH ⟨(.slice (.st .expr)),((dM x (ps.take k)).M:List J)⟩])])) bJ)
abbrev DK(x:J)(ps:List Int)(k1:Nat)(k2:Nat):Prop:=(let v0:=((dM x (ps.take k1)).M).getD (Int.toNat (ps.getD k1 (0:Int))) zE;let v1:=dM x (ps.take k2);((v0.aq=(v1.aq)/\(v0.aS=(v1.aS)/\(v0.M=(v1.M)/\True)))/\(((0:Int)=(0:Int)/\((0:Int)=(0:Int)/\(True/\True)))/\True)))
def AZ:aN.Good y8:=by
 refine⟨ar F1,?_⟩;intro (x:J) (ps:List Int) _;refine aX [fO] [] [] [] ⟨fY,ae⟩ F1 Pb (W3 x ps) (let v0:=(ps.length:Int);let v1:=(0:Int);let v2:=(1:Int);((O v0->((∃ k1:Nat,let v3:=dM x (ps.take k1);(CJ x ps k1/\((True/\(True/\(false=(o7 x (ps.take k1))/\(ps=ps/\(v0=v0/\(v1=(k1:Int)/\True))))))/\((x.aq=(v3.aq)/\(x.aS=(v3.aS)/\(x.M=(v3.M)/\True)))/\((v1=v1/\(v1=v1/\(True/\True)))/\True)))))/\(∀ k1:Nat,let v3:=dM x (ps.take k1);let v5:=ps.getD k1 v1;let v6:=v3.M;let v7:=(k1:Int)+v2;let v8:=o7 x (ps.take k1);let v9:=(v6.length:Int);let v4 := !(decide (v1<=v5/\v5<=(v9 - v2)));(CJ x ps k1->(((decide ((k1:Int)<v0))=true->(ak (k1:Int) ps.length/\(O v5->(v6.length<=140737488355328->(O v9->(O (v9 - v2)/\(((v4=true)->(zE=(Jz x ps)/\(false=(FE x ps)/\false=(eC x ps))))/\((v4=false)->((v8=false->(O (v3.aq)->(v6.length<=140737488355328->(ak v5 v6.length/\(O v7/\(∃ k2:Nat,(CJ x ps k2/\(ps.length - k2<ps.length - k1/\((True/\(True/\((decide ((v3.aq)=(5:Int)))=(o7 x (ps.take k2))/\(ps=ps/\(v0=v0/\(v7=(k2:Int)/\True))))))/\(DK x ps k1 k2))))))))))/\(v8=(!false)->(v6.length<=140737488355328->(ak v5 v6.length/\(O v7/\(∃ k2:Nat,(CJ x ps k2/\(ps.length - k2<ps.length - k1/\((True/\(True/\(true=(o7 x (ps.take k2))/\(ps=ps/\(v0=v0/\(v7=(k2:Int)/\True))))))/\(DK x ps k1 k2))))))))))))))))))/\((decide ((k1:Int)<v0))=false->((J.mk (v3.aq) (v3.aS) v6)=(Jz x ps)/\(v8=(FE x ps)/\true=(eC x ps))))))))))) ?_;have f0:dM x (ps.take 0)=x:=by rw[b5T];rfl
 have f1:o7 x (ps.take 0)=false:=by rw[b5T];rfl
 refine λ _=>⟨⟨0,?_,⟨ae,ae,?_,rfl,rfl,?_,ae⟩,⟨?_,?_,?_,ae⟩,⟨rfl,rfl,ae,ae⟩,ae⟩,λ k1 _=>⟨λ _=>⟨?_,λ _ _ _=>⟨?_,λ _=>⟨?_,?_,?_⟩,λ _=>⟨λ _ _ _=>⟨?_,?_,k1+1,?_,?_,⟨ae,ae,?_,rfl,rfl,?_,ae⟩,⟨?_,?_,?_,ae⟩,⟨rfl,rfl,ae,ae⟩,ae⟩,λ _ _=>⟨?_,?_,k1+1,?_,?_,⟨ae,ae,?_,rfl,rfl,?_,ae⟩,⟨?_,?_,?_,ae⟩,⟨rfl,rfl,ae,ae⟩,ae⟩⟩⟩⟩,λ _=>⟨?_,?_,?_⟩⟩⟩;all_goals try and_intros
 all_goals first|with_reducible rfl|with_reducible assumption|exact True.intro|((try simp only[b5q,J.eta,b4N,b4M,b4T,b4R,b5a,b5k,ak,O,bc,b5f,b4Y,b5j,b5g,b5n] at *);first|exact True.intro|omega|exact CJ.zero _ _|(rw[f0];done)|(rw[f1];done)|(have h:CJ x ps k1:=(by with_reducible assumption);first|exact (h.no (by omega) (by with_reducible assumption)).1|exact ((h.no (by omega) (by with_reducible assumption)).1).symm|exact (h.no (by omega) (by with_reducible assumption)).2.1|exact ((h.no (by omega) (by with_reducible assumption)).2.1).symm|exact (h.no (by omega) (by with_reducible assumption)).2.2|exact ((h.no (by omega) (by with_reducible assumption)).2.2).symm|exact h.next (by omega) (by with_reducible assumption)|exact (h.yes (by omega)).1|exact ((h.yes (by omega)).1).symm|exact (h.yes (by omega)).2.1|exact ((h.yes (by omega)).2.1).symm|exact (h.yes (by omega)).2.2|exact ((h.yes (by omega)).2.2).symm|(rw[(zK x ps k1 (by omega)).2.1];done)|(rw[(zK x ps k1 (by omega)).2.2];simp only[isN, *,Bool.true_or,b8L];done)|(rw[(zK x ps k1 (by omega)).2.2];simp only[isN, *,Bool.true_or,b8L];simp[*];done)))
def sT{t a:Int}{x:J}(h:bg t a x=true)(i:Nat)(hi:i<x.M.length):bg t a (x.M.getD i zE)=true:=by
 rw[iu,b4S] at h;have hm:x.M.getD i zE∈x.M:=by
  rw[b5b,b5p hi];exact b6h _
 have:∀ xs:List J,bu (bg t a) xs=true->∀ y∈xs,bg t a y=true:=by
  intro xs;induction xs with
  | nil=>intro _ y hy;cases hy
  | cons z zs ih =>
   intro h y hy;simp only[bu,b4S] at h;rcases b5h.1 hy with rfl|hy
   .exact h.1
   .exact ih h.2 y hy
 exact this _ h.2 _ hm
def Yk{t a:Int}{x:J}(h:bg t a x=true):x.M.length<=2:=by
 rw[iu,Bool.and_eq_true] at h;have h1:=h.1;unfold oV at h1;simp only[Bool.and_eq_true,decide_eq_true_eq] at h1;have h2:=h1.1.1;unfold cV at h2;split at h2
 .omega
 .split at h2
  .omega
  .split at h2<;>omega
def kZ{x:J}(h:bg 62 62 x=true)(hk:x.aq=3\/x.aq=4):0<=x.aS/\x.aS<=62:=by
 rw[iu,Bool.and_eq_true] at h;have h1:=h.1;unfold oV at h1;rcases hk with hk|hk<;>simp[hk] at h1<;>omega
def T4:∀ (xs:List J) (y:J),cu (xs++[y])=(max (cu xs).1 (du y).1,max (cu xs).2 (du y).2)
 | [],y=>by
  rw[b5q];simp only[cu];rw[Int.max_comm,Int.max_comm (du y).2]
 | x::xs,y=>by
  rw[b6g,cu,T4 xs y,cu];simp only[Int.max_assoc]
def T5(x:J)(i:Nat)(hi:i<x.M.length):cu (x.M.take (i+1))=(max (cu (x.M.take i)).1 (du (x.M.getD i zE)).1,max (cu (x.M.take i)).2 (du (x.M.getD i zE)).2):=by
 rw[cC zE x.M i hi,T4]
def a9e(x:J)(h:x.aq=3):du x=(x.aS+1,0):=by rw[EE,b5u h]
def a9f(x:J)(h3:¬ x.aq=3)(h:x.aq=4):du x=(0,x.aS+1):=by rw[EE,b4Z h3,b5u h]
def a4F(x:J)(h3:¬ x.aq=3)(h:¬ x.aq=4)(i:Nat)(hi:x.M.length<=i):du x=cu (x.M.take i):=by rw[EE,b4Z h3,b4Z h,b5o hi]
def b3d{ts as_:List J}{x:J}(h:x.aq=3):dx ts as_ x=ts.getD x.aS.toNat zE:=by rw[a0s,b5u h]
def b3e{ts as_:List J}{x:J}(h3:¬ x.aq=3)(h:x.aq=4):dx ts as_ x=as_.getD x.aS.toNat zE:=by rw[a0s,b4Z h3,b5u h]
def b3f{ts as_:List J}{x:J}(h3:¬ x.aq=3)(h:¬ x.aq=4)(i:Nat)(hi:x.M.length<=i):dx ts as_ x=J.mk x.aq x.aS ((x.M.take i).map (dx ts as_)):=by rw[a0s,b4Z h3,b4Z h,b5o hi]
def a1O(ts as_:List J)(x:J)(i:Nat)(hi:i<x.M.length):(x.M.take (i+1)).map (dx ts as_)=(x.M.take i).map (dx ts as_)++[dx ts as_ (x.M.getD i zE)]:=by
 rw[cC zE x.M i hi];simp
def Zr{ts as_:List J}{x:J}(h:gf ts as_ x)(h3:¬ x.aq=3)(h4:¬ x.aq=4)(i:Nat)(hi:i<x.M.length):gf ts as_ (x.M.getD i zE) :=
 Zs (a3C h h3 h4) _ (by
  rw[b5b,b5p hi];exact b6h _)
structure OL(ts as_:List J):Prop where
 t:∀ y∈ts,aE y<=1048576
 a:∀ y∈as_,aE y<=1048576
def OL.gt{ts as_:List J}(h:OL ts as_){n:Int}(h0:0<=n)(h1:n<(ts.length:Int)):aE (ts.getD n.toNat zE)<=1048576:=h.t _ (by
 rw[b5b,b5p (by omega)];exact b6h _)
def OL.ga{ts as_:List J}(h:OL ts as_){n:Int}(h0:0<=n)(h1:n<(as_.length:Int)):aE (as_.getD n.toNat zE)<=1048576:=h.a _ (by
 rw[b5b,b5p (by omega)];exact b6h _)
def Fs:aN:=⟨FD,[.v (.int .i64), .v (.slice (.st .expr))],λ (k:Int) (ks:List J)=>⟨(none,[⟨(.st .expr),J.mk k 0 ks⟩])⟩⟩
def a0H(k:Int)(ks:List J):Nat->aA:=bJ
def Ga:aN.Good Fs:=by
 refine⟨ar sV,?_⟩;intro (k:Int) (ks:List J) _;refine aX [] [] [] [] trivial sV F8 (a0H k ks) ((J.mk k (0:Int) ks)=(J.mk k 0 ks)) ?_;refine ?_;all_goals try and_intros
 all_goals first|rfl|trivial|omega|(simp only[b4N,b4M,ak,O,bT,cB,bG,bc] at *;omega)|(simp[ak,O] at *;omega)|grind
mutual
def Rj:∀ x:J,bg 62 62 x=true->(0<=(du x).1/\(du x).1<=63)/\0<=(du x).2/\(du x).2<=63
 | ⟨k,n,ks⟩=>λ h=>by
  have h1:=kZ h;rw[bg,Bool.and_eq_true] at h;have h2:=OK ks h.2;rw[du];dsimp only at h1;by_cases h3:k=3
  .have:=h1 (.inl h3);rw[if_pos h3];dsimp only;omega
  .by_cases h4:k=4
   .have:=h1 (.inr h4);rw[if_neg h3,if_pos h4];dsimp only;omega
   .rw[b4Z h3,b4Z h4];exact h2
def OK:∀ xs:List J,nw 62 62 xs=true->(0<=(cu xs).1/\(cu xs).1<=63)/\0<=(cu xs).2/\(cu xs).2<=63
 | []=>λ _=>by rw[cu];dsimp only;omega
 | x::xs=>λ h=>by
  rw[nw,Bool.and_eq_true] at h;have h1:=Rj x h.1;have h2:=OK xs h.2;rw[cu];dsimp only;omega
end
def Rl{t a:Int}:∀ (xs:List J) (i:Nat),nw t a xs=true->nw t a (xs.take i)=true
 | _,0,_=>by rw[b5T];rfl
 | [],i+1,_=>by rw[List.take_nil];rfl
 | x::xs,i+1,h=>by
  rw[nw,b4S] at h;rw[b7X,nw,h.1,Rl xs i h.2];rfl
def S9(x:J)(h:bg 62 62 x=true)(i:Nat):(0<=(cu (x.M.take i)).1/\(cu (x.M.take i)).1<=63)/\0<=(cu (x.M.take i)).2/\(cu (x.M.take i)).2<=63:=by
 cases x with
 | mk k n ks =>
  rw[bg,b4S] at h;exact OK _ (Rl ks i h.2)
def s6(n:Nat):aN:=⟨FC,[.v (.st .expr)],λ (x:J)=>⟨(some (cd x<n/\bg 62 62 x=true),[⟨(.int .i64),(du x).1⟩,⟨(.int .i64),(du x).2⟩])⟩⟩
def Qs:aN:=⟨FC,[.v (.st .expr)],λ (x:J)=>⟨(some (bg 62 62 x=true),[⟨(.int .i64),(du x).1⟩,⟨(.int .i64),(du x).2⟩])⟩⟩
def a0G(x:J):Nat->aA:=(cQ 1 (.b (Nat) (λ i=>i<=x.M.length) (λ i=>x.M.length - i) [0,1,2,3,10,11,12,13,17,18,22] (λ i=>[(25, .aH ⟨(.int .i64),((i:Int):Int)⟩),(4, .aH ⟨(.int .i64),((cu (x.M.take i)).1:Int)⟩),(5, .aH ⟨(.int .i64),((cu (x.M.take i)).2:Int)⟩)])) bJ)
def YS(n:Nat)(hE:bC [s6 n]):aN.Good (s6 (n+1)):=by
 refine⟨ar sU,?_⟩;intro (x:J) (hp:cd x<n+1/\bg 62 62 x=true);refine aX [s6 n] [] [] [1] hE sU Ud (a0G x) (let v0:=(x.M.length:Int);let v1:=x.aS+(1:Int);((O x.aq->(((decide (x.aq=(3:Int)))=true->(O x.aS->(O v1/\(v1=((du x).1)/\(0:Int)=((du x).2)))))/\((decide (x.aq=(3:Int)))=false->(((decide (x.aq=(4:Int)))=true->(O v1/\(O x.aS->((0:Int)=((du x).1)/\v1=((du x).2)))))/\((decide (x.aq=(4:Int)))=false->(x.M.length<=140737488355328->(O v0->((∃ i1:Nat,(i1<=x.M.length/\(((0:Int)=((cu (x.M.take i1)).1)/\((0:Int)=((cu (x.M.take i1)).2)/\(x.M=x.M/\(v0=v0/\((0:Int)=(i1:Int)/\True)))))/\True)))/\(∀ i1:Nat,let v2:=aI (x.M.getD i1 zE);let v3:=cu (x.M.take i1);let v4:=du v2;(i1<=x.M.length->(((decide ((i1:Int)<v0))=true->(ak (i1:Int) x.M.length/\((cd v2<n/\bg 62 62 v2=true)/\(O (v4.1)->(O (v4.2)->(O (max (v3.1) (v4.1))->(O (max (v3.2) (v4.2))->(O ((i1:Int)+(1:Int))/\(∃ i2:Nat,(i2<=x.M.length/\(x.M.length - i2<x.M.length - i1/\(((max (v3.1) (v4.1))=((cu (x.M.take i2)).1)/\((max (v3.2) (v4.2))=((cu (x.M.take i2)).2)/\(x.M=x.M/\(v0=v0/\(((i1:Int)+(1:Int))=(i2:Int)/\True)))))/\True))))))))))))/\((decide ((i1:Int)<v0))=false->((v3.1)=((du x).1)/\(v3.2)=((du x).2)))))))))))))))) ?_;have f0:=λ i (h:i<x.M.length)=>ca zE x.M i h;have f1:=dk x;have f2:cu (x.M.take 0)=(0,0):=by rw[b5T];rfl
 refine λ _=>⟨λ _ _=>⟨?_,?_,?_⟩,λ _=>⟨λ _=>⟨?_,λ _=>⟨?_,?_⟩⟩,λ _ _ _=>⟨⟨0,?_,⟨?_,?_,rfl,rfl,?_,ae⟩,ae⟩,λ i1 _=>⟨λ _=>⟨?_,?_,λ _ _ _ _=>⟨?_,i1+1,?_,?_,⟨?_,?_,rfl,rfl,?_,ae⟩,ae⟩⟩,λ _=>⟨?_,?_⟩⟩⟩⟩⟩;all_goals try and_intros
 all_goals try (first|with_reducible rfl|with_reducible assumption)
 all_goals try simp only[J.eta,ag.eta,au.eta,aK,br,bL] at *
 all_goals first|with_reducible rfl|with_reducible assumption|exact True.intro|(simp only[b4V,b4U,b4T,b4R] at *;done)|((try simp only[b5q,J.eta,b4N,b4M,b4T,b4R,b5a,b5k,ak,O,bc,b5f,b4Y,b5j,b5g,b5n] at *);first|exact True.intro|omega|(rw[f2];done)|(rw[a9e x (by with_reducible assumption)];done)|(rw[a9f x (by with_reducible assumption) (by with_reducible assumption)];done)|(have h1:=kZ hp.2 (.inl (by with_reducible assumption));omega)|(have h1:=kZ hp.2 (.inr (by with_reducible assumption));omega)|(rw[a4F x (by with_reducible assumption) (by with_reducible assumption) i1 (by omega)];done)|exact sT hp.2 _ (by omega)|(have h1:=f0 i1 (by omega);omega)|(rw[T5 x i1 (by omega)];done)|(have h1:=Rj _ (sT hp.2 i1 (by omega));have h2:=S9 x hp.2 i1;omega))
def VB :∀ n,bC [s6 n]
 | 0=>⟨⟨ar sU,λ _ h=>absurd h.1 (b5H _)⟩,ae⟩
 | n+1=>by
  have ih:=VB  n;exact⟨YS n ⟨ih.1,ae⟩,ae⟩
def Uh :aN.Good Qs :=
 ⟨ar sU,λ x hp=>(VB  (cd x+1)).1.2 x (⟨b5C _,hp⟩)⟩
def nh(n:Nat):aN:=⟨zr,[.v (.st .expr), .v (.slice (.st .expr)), .v (.slice (.st .expr))],λ (x:J) (ts:List J) (as_:List J)=>⟨(some (cd x<n/\gf ts as_ x/\bg 62 62 x=true/\OL ts as_),[⟨(.st .expr),dx ts as_ x⟩])⟩⟩
def GF:aN:=⟨zr,[.v (.st .expr), .v (.slice (.st .expr)), .v (.slice (.st .expr))],λ (x:J) (ts:List J) (as_:List J)=>⟨(some (gf ts as_ x/\bg 62 62 x=true/\OL ts as_),[⟨(.st .expr),dx ts as_ x⟩])⟩⟩
def UU(x:J)(ts:List J)(as_:List J):Nat->aA:=(cQ 1 (.a (Nat) (λ i=>i<=x.M.length) (λ i=>x.M.length - i) [0,3,10,11,12,13,14,15,16,17,24,25,26,27,28,29,30,31,38,39,40,41,42,43] (λ i=>[(46, .aH ⟨(.int .i64),((i:Int):Int)⟩)]) [6] (λ i=>[(7, .box [.aH ⟨(.int .i64),(x.aq:Int)⟩, .aH ⟨(.int .i64),(x.aS:Int)⟩, .av 5800]),(5800, .av (.st .expr) ((x.M.take i).map (dx ts as_):List J))])) bJ)
abbrev Bh(x:J)(ts:List J)(as_:List J):Prop:=(let v0:=ts.getD (Int.toNat x.aS) zE;(O x.aS ->
 (ak x.aS ts.length/\(aE v0<=1048576/\(aI v0)=(dx ts as_ x)))))
abbrev Bi(x:J)(ts:List J)(as_:List J):Prop:=(let v0:=as_.getD (Int.toNat x.aS) zE;(O x.aS ->
 (ak x.aS as_.length/\(aE v0<=1048576/\(aI v0)=(dx ts as_ x)))))
abbrev Bj(n:Nat)(x:J)(ts:List J)(as_:List J):Prop:=(let v0:=(x.M.length:Int);let v1:=((0:Int)=(0:Int)/\((0:Int)=(0:Int)/\(True/\True)))/\True;let v2:=(7:Nat)=7/\(2:Nat)=2;let v3:=x.aq=x.aq/\(x.aS=x.aS/\(True/\True));let v4:=dx ts as_;(O x.aq ->
 (O x.aS ->
 (x.M.length<=140737488355328 ->
 (O v0 ->
 ((∃ i1:Nat,(i1<=x.M.length/\((ts=ts/\(as_=as_/\(True/\(True/\(x.M=x.M/\(v0=v0/\((0:Int)=(i1:Int)/\True)))))))/\(v3/\(((x.M.take i1).map v4)=[]/\v1)))))/\(∀ i1:Nat,let v5:=x.M.getD i1 zE;let v6:=(x.M.take i1).map v4;let v7:=[(aI (dx ts as_ (aI v5)))];(i1<=x.M.length ->
 (((decide ((i1:Int)<v0))=true ->
 (ak (i1:Int) x.M.length/\(ts.length<=140737488355328 ->
 (as_.length<=140737488355328 ->
 (v2/\((5800:Nat)=5800/\((v5.aq=v5.aq/\(v5.aS=v5.aS/\(v5.M=v5.M/\True)))/\(ts=ts/\(as_=as_/\((cd (aI v5)<n/\gf ts as_ (aI v5)/\bg 62 62 (aI v5)=true/\OL ts as_)/\(v2/\((5800:Nat)=5800/\(v2/\((5800:Nat)=5800/\(bc (v6.length+v7.length) 40/\(O ((i1:Int)+(1:Int))/\(∃ i2:Nat,(i2<=x.M.length/\(x.M.length - i2<x.M.length - i1/\((ts=ts/\(as_=as_/\(True/\(True/\(x.M=x.M/\(v0=v0/\(((i1:Int)+(1:Int))=(i2:Int)/\True)))))))/\(v3/\((v6++v7)=((x.M.take i2).map v4)/\v1))))))))))))))))))))))/\((decide ((i1:Int)<v0))=false ->
 (J.mk x.aq x.aS v6)=(dx ts as_ x)))))))))))
abbrev Bk(n:Nat)(x:J)(ts:List J)(as_:List J):Prop:=(O x.aq ->
 (((decide (x.aq=(4:Int)))=true ->
 (1<=as_.length/\((true=true ->
 (Bi x ts as_))/\(true=false ->
 (Bj n x ts as_)))))/\((decide (x.aq=(4:Int)))=(!true) ->
 ((false=true ->
 (Bi x ts as_))/\(false=false ->
 (Bj n x ts as_))))))
def SW(n:Nat)(hE:bC [])(hO:gn [nh n,eV])(hM:iv [])(hS:gF []):aN.cZ (nh (n+1)):=by
 refine⟨ar om,?_⟩;intro (x:J) (ts:List J) (as_:List J) (hp:cd x<n+1/\gf ts as_ x/\bg 62 62 x=true/\OL ts as_);refine cp [] [nh n,eV] [] [] [23,37,55,56,57] [] [] [3] hE hO hM hS om O6 (UU x ts as_) ((O x.aq->(((decide (x.aq=(3:Int)))=true->(1<=ts.length/\((true=true->(Bh x ts as_))/\(true=false->(Bk n x ts as_)))))/\((decide (x.aq=(3:Int)))=(!true)->((false=true->(Bh x ts as_))/\(false=false->(Bk n x ts as_))))))) ?_;obtain⟨hm,g0,g1,g2⟩:=hp;have f0:=λ i (h:i<x.M.length)=>ca zE x.M i h;have f1:=dk x;have f2:(x.M.take 0).map (dx ts as_)=[]:=by simp
 have f3:=Yk g1;refine λ _=>⟨λ _=>⟨?_,λ _ _=>⟨?_,?_,?_⟩,λ _ _=>⟨λ _=>⟨?_,λ _ _=>⟨?_,?_,?_⟩,λ _ _ _ _ _=>⟨⟨0,?_,⟨rfl,rfl,ae,ae,rfl,rfl,?_,ae⟩,⟨rfl,rfl,ae,ae⟩,?_,⟨rfl,rfl,ae,ae⟩,ae⟩,λ i1 _=>⟨λ _=>⟨?_,λ _ _=>⟨⟨?_,?_⟩,?_,⟨rfl,rfl,rfl,?_⟩,rfl,rfl,?_,⟨?_,?_⟩,?_,⟨?_,?_⟩,?_,?_,?_,i1+1,?_,?_,⟨rfl,rfl,ae,ae,rfl,rfl,?_,ae⟩,⟨rfl,rfl,ae,ae⟩,?_,⟨rfl,rfl,ae,ae⟩,ae⟩⟩,λ _=>?_⟩⟩⟩,λ _=>⟨λ _ _=>⟨?_,?_,?_⟩,λ _ _ _ _ _=>⟨⟨0,?_,⟨rfl,rfl,ae,ae,rfl,rfl,?_,ae⟩,⟨rfl,rfl,ae,ae⟩,?_,⟨rfl,rfl,ae,ae⟩,ae⟩,λ i1 _=>⟨λ _=>⟨?_,λ _ _=>⟨⟨?_,?_⟩,?_,⟨rfl,rfl,rfl,?_⟩,rfl,rfl,?_,⟨?_,?_⟩,?_,⟨?_,?_⟩,?_,?_,?_,i1+1,?_,?_,⟨rfl,rfl,ae,ae,rfl,rfl,?_,ae⟩,⟨rfl,rfl,ae,ae⟩,?_,⟨rfl,rfl,ae,ae⟩,ae⟩⟩,λ _=>?_⟩⟩⟩⟩⟩,λ _=>⟨λ _ _=>⟨?_,?_,?_⟩,λ _ _=>⟨λ _=>⟨?_,λ _ _=>⟨?_,?_,?_⟩,λ _ _ _ _ _=>⟨⟨0,?_,⟨rfl,rfl,ae,ae,rfl,rfl,?_,ae⟩,⟨rfl,rfl,ae,ae⟩,?_,⟨rfl,rfl,ae,ae⟩,ae⟩,λ i1 _=>⟨λ _=>⟨?_,λ _ _=>⟨⟨?_,?_⟩,?_,⟨rfl,rfl,rfl,?_⟩,rfl,rfl,?_,⟨?_,?_⟩,?_,⟨?_,?_⟩,?_,?_,?_,i1+1,?_,?_,⟨rfl,rfl,ae,ae,rfl,rfl,?_,ae⟩,⟨rfl,rfl,ae,ae⟩,?_,⟨rfl,rfl,ae,ae⟩,ae⟩⟩,λ _=>?_⟩⟩⟩,λ _=>⟨λ _ _=>⟨?_,?_,?_⟩,λ _ _ _ _ _=>⟨⟨0,?_,⟨rfl,rfl,ae,ae,rfl,rfl,?_,ae⟩,⟨rfl,rfl,ae,ae⟩,?_,⟨rfl,rfl,ae,ae⟩,ae⟩,λ i1 _=>⟨λ _=>⟨?_,λ _ _=>⟨⟨?_,?_⟩,?_,⟨rfl,rfl,rfl,?_⟩,rfl,rfl,?_,⟨?_,?_⟩,?_,⟨?_,?_⟩,?_,?_,?_,i1+1,?_,?_,⟨rfl,rfl,ae,ae,rfl,rfl,?_,ae⟩,⟨rfl,rfl,ae,ae⟩,?_,⟨rfl,rfl,ae,ae⟩,ae⟩⟩,λ _=>?_⟩⟩⟩⟩⟩⟩;all_goals try and_intros
 all_goals try (first|with_reducible rfl|with_reducible assumption)
 all_goals try simp only[J.eta,ag.eta,au.eta,aK,br,bL] at *
 all_goals first|with_reducible rfl|with_reducible assumption|exact True.intro|(simp only[b4V,b4U,b4T,b4R] at *;done)|((try simp only[b5q,J.eta,b4N,b4M,b4T,b4R,b5a,b5k,ak,O,bc,b5f,b4Y,b5j,b5g,b5n] at *);first|exact True.intro|omega|(rw[f2];done)|(rw[b3d (by with_reducible assumption)];done)|(rw[b3e (by with_reducible assumption) (by with_reducible assumption)];done)|(have h1:=kZ g1 (.inl (by with_reducible assumption));have h2:=a5b g0 (by with_reducible assumption);first|omega|exact g2.gt h1.1 h2)|(have h1:=kZ g1 (.inr (by with_reducible assumption));have h2:=a5a g0 (by with_reducible assumption);first|omega|exact g2.ga h1.1 h2)|(rw[b3f (by with_reducible assumption) (by with_reducible assumption) i1 (by omega)];done)|exact sT g1 _ (by omega)|(have h1:=f0 i1 (by omega);omega)|exact Zr g0 (by with_reducible assumption) (by with_reducible assumption) i1 (by omega)|exact a1O _ _ _ _ (by omega)|exact (a1O _ _ _ _ (by omega)).symm)
def Ti:∀ n,gn [nh n]
 | 0=>⟨⟨ar om,λ _ _ _ h=>absurd h.1 (b5H _)⟩,ae⟩
 | n+1=>by
  have ih:=Ti n;exact⟨SW n trivial ⟨ih.1,iP,ae⟩ trivial trivial,ae⟩
def Oa:aN.cZ GF :=
 ⟨ar om,λ x ts as_ hp=>(Ti (cd x+1)).1.2 x ts as_ (⟨b5C _,hp⟩)⟩
def a6L{l r:J}(h1:bg 62 62 l=true)(h2:bg 62 62 r=true):bg 62 62 (J.mk 6 0 [l,r])=true:=by
 rw[iu];simp only[bu,h1,h2,oV,cV];simp
def a9g(l r:J):du (J.mk 6 0 [l,r])=cu [l,r]:=by rw[du];simp
def wF(gg:aW)(x:J)(ts as_:List J):J:=bif cE gg (dx ts as_ x) then dx ts as_ x else J.mk (0:Int) (0:Int) []
def qw(gg:aW)(x:J)(ts as_:List J):Int:=bif cE gg (dx ts as_ x) then 0 else 3
def a0F{gg:aW}{x:J}{ts as_:List J}(h:cE gg (dx ts as_ x)=true):wF gg x ts as_=dx ts as_ x/\qw gg x ts as_=0:=by unfold wF qw;rw[h];exact⟨rfl,rfl⟩
def a3R{gg:aW}{x:J}{ts as_:List J}(h:cE gg (dx ts as_ x)=false):wF gg x ts as_=J.mk (0:Int) (0:Int) []/\qw gg x ts as_=3:=by unfold wF qw;rw[h];exact⟨rfl,rfl⟩
def rpK(y x:J)(ps:List Int):List J:=(fV y x ps).M
def b3T(y x:J)(ps:List Int)(h:ps.length=0):fV y x ps=y:=by rw[b5U h];rfl
def a8M(y x:J)(ps:List Int)(h:¬ ps.length=0):rpK y x ps=x.M.set (ps.getD 0 0).toNat (fV y (x.M.getD (ps.getD 0 0).toNat zE) (ps.drop 1))/\fV y x ps=J.mk x.aq x.aS (rpK y x ps):=by
 match ps,h with
 | k::ks,_=>exact⟨rfl,rfl⟩
def a2M(y x:J)(ps:List Int)(h:¬ ps.length=0):(rpK y x ps).length=x.M.length:=by rw[(a8M y x ps h).1,b5V]
def a5G(y x:J)(ps:List Int)(h:¬ ps.length=0)(i:Nat)(hi:i<x.M.length)(h0:0<=ps.getD 0 0):(rpK y x ps).take (i+1)=(rpK y x ps).take i++[if (i:Int)=ps.getD 0 0 then fV y (x.M.getD i zE) (ps.drop 1) else x.M.getD i zE]:=by
 rw[cC zE _ i (by rw[a2M y x ps h];exact hi)];congr 2;rw[(a8M y x ps h).1,b5b,b7K];by_cases e:(i:Int)=ps.getD 0 0
 .rw[b5u e];have e2:(ps.getD 0 0).toNat=i:=by omega
  rw[b5u e2,e2,b5u hi];rfl
 .rw[b4Z e,b4Z (by omega),b5b]
def a2L(y x:J)(ps:List Int)(h:¬ ps.length=0)(i:Nat)(hi:x.M.length<=i):fV y x ps=J.mk x.aq x.aS ((rpK y x ps).take i):=by
 rw[b5o (by rw[a2M y x ps h];exact hi)];exact (a8M y x ps h).2
def a4b{x:J}{ps:List Int}(h:¬ ps.length=0)(ho:eC x ps=true):(0<=ps.getD 0 0/\ps.getD 0 0<=(x.M.length:Int) - 1)/\eC (x.M.getD (ps.getD 0 0).toNat zE) (ps.drop 1)=true:=by
 match ps,h with
 | k::ks,_ =>
  simp only[eC,b4S,R9,b4N] at ho;exact ho
def Au(gg:aW)(x:J)(ps:List Int)(y:J):J:=bif eC x ps && !(o7 x ps && !bq y)&&cE gg (fV y x ps) then fV y x ps else J.mk (0:Int) (0:Int) []
def pQ(gg:aW)(x:J)(ps:List Int)(y:J):Int:=bif eC x ps then (bif o7 x ps && !bq y then 4 else (bif cE gg (fV y x ps) then 0 else 3)) else 2
def a8L{gg:aW}{x y:J}{ps:List Int}(h:eC x ps=false):Au gg x ps y=J.mk (0:Int) (0:Int) []/\pQ gg x ps y=2:=by unfold Au pQ;rw[h];exact⟨rfl,rfl⟩
def a4x{gg:aW}{x y:J}{ps:List Int}(h:eC x ps=true)(h2:FE x ps=true)(h3:bq y=false):Au gg x ps y=J.mk (0:Int) (0:Int) []/\pQ gg x ps y=4:=by
 unfold FE at h2;rw[h,Bool.true_and] at h2;unfold Au pQ;rw[h,h2,h3];exact⟨rfl,rfl⟩
def JQ{gg:aW}{x y:J}{ps:List Int}(h:eC x ps=true)(h2:FE x ps=false\/bq y=true)(b:Bool)(h3:cE gg (fV y x ps)=b):Au gg x ps y=(bif b then fV y x ps else J.mk (0:Int) (0:Int) [])/\pQ gg x ps y=bif b then 0 else 3:=by
 have e:(o7 x ps && !bq y)=false:=by
  unfold FE at h2;rw[h,Bool.true_and] at h2;rcases h2 with g|g<;>rw[g]<;>simp
 unfold Au pQ;rw[h,e,h3];exact⟨rfl,rfl⟩
def IZ:aN:=⟨Jm,[.v (.st .equation)],λ (q:au)=>⟨(some (bg 62 62 q.left=true/\bg 62 62 q.right=true),[⟨(.int .i64),(cu [q.left,q.right]).1⟩,⟨(.int .i64),(cu [q.left,q.right]).2⟩])⟩⟩
def WZ(q:au):Nat->aA:=bJ
def PQ:aN.Good IZ:=by
 refine⟨ar FX,?_⟩;intro (q:au) (hp:bg 62 62 q.left=true/\bg 62 62 q.right=true);refine aX [Qs,Fs] [] [] [1] ⟨Uh,Ga,ae⟩ FX O7 (WZ q) (let v0:=J.mk (6:Int) 0 ([q.left,q.right]);((bg 62 62 v0=true/\(O ((du v0).1)->(O ((du v0).2)->(((du v0).1)=((cu [q.left,q.right]).1)/\((du v0).2)=((cu [q.left,q.right]).2))))))) ?_;have f0:=a6L hp.1 hp.2;have f1:=a9g q.left q.right;refine⟨?_,λ _ _=>⟨?_,?_⟩⟩;all_goals try and_intros
 all_goals first|with_reducible rfl|trivial|exact f0|omega|(rw[f1];done)|(simp only[b5q,J.eta,b4N,b4M,b4T,b4R,b5a,b5k,ak,O,bc,b5f,b4Y,b5j,b5g,b5n] at *;omega)
def qI:aN:=⟨Ef,[.v (.st .sig), .v (.st .expr), .v (.slice (.st .expr)), .v (.slice (.st .expr))],λ (gg:aW) (x:J) (ts:List J) (as_:List J)=>⟨(some (gf ts as_ x/\bg 62 62 x=true/\OL ts as_/\ts.length<=1000/\as_.length<=1000),[⟨(.st .expr),wF gg x ts as_⟩,⟨(.int .i64),qw gg x ts as_⟩])⟩⟩
def QB(gg:aW)(x:J)(ts:List J)(as_:List J):Nat->aA:=bJ
abbrev Lf(gg:aW)(x:J)(ts:List J)(as_:List J):Prop:=(let v0:=aI (dx ([]++ts) ([]++as_) x);(x=x/\(as_=as_/\(bc ((@List.nil J).length+as_.length) 40/\(x=x/\((gf ([]++ts) ([]++as_) x/\bg 62 62 x=true/\OL ([]++ts) ([]++as_))/\(((!(cE gg v0))=true ->
 (zE=(wF gg x ts as_)/\(3:Int)=(qw gg x ts as_)))/\((!(cE gg v0))=false ->
 (v0=(wF gg x ts as_)/\(0:Int)=(qw gg x ts as_))))))))))
def JF:aN.cZ qI:=by
 refine⟨ar AG,?_⟩;intro (gg:aW) (x:J) (ts:List J) (as_:List J) (hp:gf ts as_ x/\bg 62 62 x=true/\OL ts as_/\ts.length<=1000/\as_.length<=1000);refine cp [mj] [GF] [] [] [18] [] [] [4,5] ⟨lE,ae⟩ ⟨Oa,ae⟩ trivial trivial AG KD (QB gg x ts as_) (let v1:=(@List.nil J).length+ts.length;let v2:=Lf gg x ts as_;let v0:=x=x/\(ts=ts/\(as_=as_/\(bc v1 40/\v2)));((ts.length<=140737488355328->(as_.length<=140737488355328->(x=x/\(ts=ts/\(as_=as_/\((x=x/\(ts=ts/\(as_=as_/\((bc v1 40/\(x=x/\(as_=as_/\v2)))/\(v0/\True)))))/\((x=x/\(ts=ts/\(as_=as_/\v0)))/\True))))))))) ?_;refine λ _ _=>⟨rfl,rfl,rfl,⟨rfl,rfl,rfl,⟨?_,rfl,rfl,rfl,rfl,?_,rfl,?_,λ _=>⟨?_,?_⟩,λ _=>⟨?_,?_⟩⟩,⟨rfl,rfl,rfl,?_,rfl,rfl,?_,rfl,?_,λ _=>⟨?_,?_⟩,λ _=>⟨?_,?_⟩⟩,ae⟩,⟨rfl,rfl,rfl,rfl,rfl,rfl,?_,rfl,rfl,?_,rfl,?_,λ _=>⟨?_,?_⟩,λ _=>⟨?_,?_⟩⟩,ae⟩;all_goals try and_intros
 all_goals try (first|with_reducible rfl|with_reducible assumption)
 all_goals try simp only[J.eta,ag.eta,au.eta,aK,br,bL] at *
 all_goals first|with_reducible rfl|with_reducible assumption|exact True.intro|omega|((first|have Q:=a0F (gg:=gg) (x:=x) (ts:=ts) (as_:=as_) (by with_reducible assumption)|have Q:=a3R (gg:=gg) (x:=x) (ts:=ts) (as_:=as_) (by with_reducible assumption));first|exact Q.1|exact Q.2|exact Q.1.symm|exact Q.2.symm)|exact hp.1|exact hp.2.1|exact hp.2.2.1|(simp only[b5q,J.eta,b4N,b4M,b4T,b4R,b5a,b5k,ak,O,bc,b5f,b4Y,b5j,b5g,b5n] at *;first|omega|((first|have Q:=a0F (gg:=gg) (x:=x) (ts:=ts) (as_:=as_) (by with_reducible assumption)|have Q:=a3R (gg:=gg) (x:=x) (ts:=ts) (as_:=as_) (by with_reducible assumption));first|exact Q.1|exact Q.2|exact Q.1.symm|exact Q.2.symm))
def kt(n:Nat):aN:=⟨sJ,[.v (.st .expr), .v (.slice (.int .i64)), .v (.st .expr)],λ (x:J) (ps:List Int) (y:J)=>⟨(some (ps.length<n/\eC x ps=true/\aE x<=1048576/\aE y<=1048576/\ps.length<=1000),[⟨(.st .expr),fV y x ps⟩])⟩⟩
def Bs:aN:=⟨sJ,[.v (.st .expr), .v (.slice (.int .i64)), .v (.st .expr)],λ (x:J) (ps:List Int) (y:J)=>⟨(some (eC x ps=true/\aE x<=1048576/\aE y<=1048576/\ps.length<=1000),[⟨(.st .expr),fV y x ps⟩])⟩⟩
def QD(x:J)(ps:List Int)(y:J):Nat->aA:=(cQ 0 (.a (Nat) (λ i=>i<=x.M.length) (λ i=>x.M.length - i) [0,2,3,10,11,12,15,16,17,18,19,20] (λ i=>[(23, .aH ⟨(.int .i64),((i:Int):Int)⟩)]) [6] (λ i=>[(7, .box [.aH ⟨(.int .i64),(x.aq:Int)⟩, .aH ⟨(.int .i64),(x.aS:Int)⟩, .av 5800]),(5800, .av (.st .expr) ((rpK y x ps).take i:List J))])) bJ)
abbrev Lg(x:J)(i1:Nat):Prop:=(let v0:=x.M.getD i1 zE;(v0.aq=v0.aq/\(v0.aS=v0.aS/\(v0.M=v0.M/\True))))
abbrev wI(x:J)(ps:List Int)(y:J)(i1:Nat)(i2:Nat):Prop:=(ps=ps/\(y=y/\(True/\(True/\(x.M=x.M/\(((x.M.length:Int))=((x.M.length:Int))/\(((i1:Int)+(1:Int))=(i2:Int)/\True)))))))
def Oi(n:Nat)(hE:bC [])(hO:gn [kt n,eV])(hM:iv [])(hS:gF []):aN.cZ (kt (n+1)):=by
 refine⟨ar ly,?_⟩;intro (x:J) (ps:List Int) (y:J) (hp:ps.length<n+1/\eC x ps=true/\aE x<=1048576/\aE y<=1048576/\ps.length<=1000);refine cp [] [kt n,eV] [] [] [14,39,40,41,46,47,48] [] [] [3,5] hE hO hM hS ly KG (QD x ps y) (let v1:=(7:Nat)=7/\(2:Nat)=2;let v3:=x.aq=x.aq/\(x.aS=x.aS/\(True/\True));let v4:=(x.M.length:Int);let v5:=(ps.length:Int);let v0:=(ps.take (Int.toNat v5)).drop 1;let v6:=rpK y x ps;let v7:=(0:Int);let v2:=(v7=v7/\(v7=v7/\(True/\True)))/\True;let v8:=(5800:Nat);((O v5->(((decide (v5=v7))=true->(aE y<=1048576/\(aI y)=(fV y x ps)))/\((decide (v5=v7))=false->(O x.aq->(O x.aS->(x.M.length<=140737488355328->(O v4->((∃ i1:Nat,(i1<=x.M.length/\((ps=ps/\(y=y/\(True/\(True/\(x.M=x.M/\(v4=v4/\(v7=(i1:Int)/\True)))))))/\(v3/\((v6.take i1)=[]/\v2)))))/\(∀ i1:Nat,let v9:=aI (x.M.getD i1 zE);let va:=Lg x i1;let vb:=(i1:Int);let vc:=v6.take i1;(i1<=x.M.length->(((decide (vb<v4))=true->(ak vb x.M.length/\(ak v7 ps.length/\(O (ps.getD 0 v7)->(((decide (vb=(ps.getD 0 v7)))=true->(ps.length<=140737488355328->(v1/\(v8=5800/\(va/\(ps=ps/\(y=y/\(cB (1:Int) v5 ps.length/\(v1/\(v8=5800/\(va/\(y=y/\((v0.length<n/\eC v9 v0=true/\aE v9<=1048576/\aE y<=1048576/\v0.length<=1000)/\(v1/\(v8=5800/\(v1/\(v8=5800/\(bc (vc.length+([(aI (fV y v9 v0))]).length) 40/\(O (vb+(1:Int))/\(∃ i2:Nat,(i2<=x.M.length/\(x.M.length - i2<x.M.length - i1/\((wI x ps y i1 i2)/\(v3/\((vc++([(aI (fV y v9 v0))]))=(v6.take i2)/\v2)))))))))))))))))))))))))/\((decide (vb=(ps.getD 0 v7)))=false->(v1/\(v8=5800/\(va/\(aE v9<=1048576/\(v1/\(v8=5800/\(v1/\(v8=5800/\(bc (vc.length+([v9]).length) 40/\(O (vb+(1:Int))/\(∃ i2:Nat,(i2<=x.M.length/\(x.M.length - i2<x.M.length - i1/\((wI x ps y i1 i2)/\(v3/\((vc++([v9]))=(v6.take i2)/\v2))))))))))))))))))))))/\((decide (vb<v4))=false->(J.mk x.aq x.aS vc)=(fV y x ps))))))))))))))) ?_;obtain⟨hm,g0,g1,g2,g3⟩:=hp;rw[jU] at g1;have f1:=λ i (h:i<x.M.length)=>fi aE zE x.M i h;have f9:ps.take (Int.toNat (ps.length:Int))=ps:=by simp
 have f8:(rpK y x ps).take 0=[]:=b5T;refine λ _=>⟨λ _=>⟨?_,?_⟩,λ _ _ _ _ _=>⟨⟨0,?_,⟨rfl,rfl,ae,ae,rfl,rfl,?_,ae⟩,⟨rfl,rfl,ae,ae⟩,?_,⟨rfl,rfl,ae,ae⟩,ae⟩,λ i1 _=>⟨λ _=>⟨?_,?_,λ _=>⟨λ _ _=>⟨⟨?_,?_⟩,?_,⟨rfl,rfl,rfl,?_⟩,rfl,rfl,?_,⟨?_,?_⟩,?_,⟨rfl,rfl,rfl,?_⟩,rfl,?_,⟨?_,?_⟩,?_,⟨?_,?_⟩,?_,?_,?_,i1+1,?_,?_,⟨rfl,rfl,ae,ae,rfl,rfl,?_,ae⟩,⟨rfl,rfl,ae,ae⟩,?_,⟨rfl,rfl,ae,ae⟩,ae⟩,λ _=>⟨⟨?_,?_⟩,?_,⟨rfl,rfl,rfl,?_⟩,?_,⟨?_,?_⟩,?_,⟨?_,?_⟩,?_,?_,?_,i1+1,?_,?_,⟨rfl,rfl,ae,ae,rfl,rfl,?_,ae⟩,⟨rfl,rfl,ae,ae⟩,?_,⟨rfl,rfl,ae,ae⟩,ae⟩⟩⟩,λ _=>?_⟩⟩⟩;all_goals try and_intros
 all_goals try (first|with_reducible rfl|with_reducible assumption)
 all_goals try simp only[J.eta,ag.eta,au.eta,aK,br,bL] at *
 all_goals first|with_reducible rfl|with_reducible assumption|exact True.intro|((try simp only[b5q,J.eta,b4N,b4M,b4T,b4R,b5a,b5k,ak,O,bc,b5f,b4Y,b5j,b5g,b5n] at *);(try simp only[f9]);first|exact True.intro|omega|exact f8.symm|(rw[b6f];omega)|(rw[b3T y x ps (by omega)];done)|(rw[a5G y x ps (by omega) i1 (by omega) (a4b (by omega) g0).1.1,b5u (by omega)];done)|(rw[a5G y x ps (by omega) i1 (by omega) (a4b (by omega) g0).1.1,b4Z (by omega)];done)|exact a2L y x ps (by omega) i1 (by omega)|exact (a2L y x ps (by omega) i1 (by omega)).symm|(have h1:=(a4b (by omega) g0).2;rw[show (ps.getD 0 0).toNat=i1 by omega] at h1;exact h1)|(have h1:=f1 i1 (by omega);omega)|(have h1:=b6f (l:=ps) (i:=1);omega)|(rw[b6f];omega))
def VE:∀ n,gn [kt n]
 | 0=>⟨⟨ar ly,λ _ _ _ h=>absurd h.1 (b5H _)⟩,ae⟩
 | n+1=>by
  have ih:=VE n;exact⟨Oi n trivial ⟨ih.1,iP,ae⟩ trivial trivial,ae⟩
def JH:aN.cZ Bs :=
 ⟨ar ly,λ x ps y hp=>(VE (ps.length+1)).1.2 x ps y (⟨b5C _,hp⟩)⟩
def zj:aN:=⟨BF,[.v (.st .sig), .v (.st .expr), .v (.slice (.int .i64)), .v (.st .expr)],λ (gg:aW) (x:J) (ps:List Int) (y:J)=>⟨(some (aE x<=1048576/\aE y<=1048576/\ps.length<=1000),[⟨(.st .expr),Au gg x ps y⟩,⟨(.int .i64),pQ gg x ps y⟩])⟩⟩
def NZ(gg:aW)(x:J)(ps:List Int)(y:J):Nat->aA:=bJ
abbrev IX(gg:aW)(x:J)(ps:List Int)(y:J):Prop:=(let v0:=aI (fV y x ps);((eC x ps=true/\aE x<=1048576/\aE y<=1048576/\ps.length<=1000)/\(((!(cE gg v0))=true ->
 (zE=(Au gg x ps y)/\(3:Int)=(pQ gg x ps y)))/\((!(cE gg v0))=false ->
 (v0=(Au gg x ps y)/\(0:Int)=(pQ gg x ps y))))))
def HL:aN.cZ zj:=by
 refine⟨ar xN,?_⟩;intro (gg:aW) (x:J) (ps:List Int) (y:J) (hp:aE x<=1048576/\aE y<=1048576/\ps.length<=1000);refine cp [mj,y8,fg] [Bs] [] [] [34] [] [] [4,5,7] ⟨lE,AZ,gB,ae⟩ ⟨JH,ae⟩ trivial trivial xN Ia (NZ gg x ps y) (let v0:=zE=(Au gg x ps y)/\(4:Int)=(pQ gg x ps y);let v1:=IX gg x ps y;((((!(eC x ps))=true->(zE=(Au gg x ps y)/\(2:Int)=(pQ gg x ps y)))/\((!(eC x ps))=false->(((FE x ps)=true->(((!(bq y))=true->v0)/\((!(bq y))=false->v1)))/\((FE x ps)=(!true)->((false=true->v0)/\(false=false->v1)))))))) ?_;refine⟨λ _=>⟨?_,?_⟩,λ _=>⟨λ _=>⟨λ _=>⟨?_,?_⟩,λ _=>⟨?_,λ _=>⟨?_,?_⟩,λ _=>⟨?_,?_⟩⟩⟩,λ _=>⟨λ _=>⟨?_,?_⟩,λ _=>⟨?_,λ _=>⟨?_,?_⟩,λ _=>⟨?_,?_⟩⟩⟩⟩⟩;all_goals try and_intros
 all_goals try (first|with_reducible rfl|with_reducible assumption)
 all_goals try simp only[J.eta,ag.eta,au.eta,aK,br,bL] at *
 all_goals first|with_reducible rfl|with_reducible assumption|exact True.intro|(simp only[b4V,b4U,b4T,b4R] at *;done)|((try simp only[b5q,J.eta,b4N,b4M,b4T,b4R,b5a,b5k,ak,O,bc,b5f,b4Y,b5j,b5g,b5n] at *);first|exact True.intro|omega|((first|have Q:=a8L (gg:=gg) (x:=x) (y:=y) (ps:=ps) (by with_reducible assumption)|have Q:=a4x (gg:=gg) (x:=x) (y:=y) (ps:=ps) (by with_reducible assumption) (by with_reducible assumption) (by with_reducible assumption));first|exact Q.1|exact Q.2|exact Q.1.symm|exact Q.2.symm)|((first|have Q:=JQ (gg:=gg) (x:=x) (y:=y) (ps:=ps) (by with_reducible assumption) (.inl (by with_reducible assumption)) true (by with_reducible assumption)|have Q:=JQ (gg:=gg) (x:=x) (y:=y) (ps:=ps) (by with_reducible assumption) (.inl (by with_reducible assumption)) false (by with_reducible assumption)|have Q:=JQ (gg:=gg) (x:=x) (y:=y) (ps:=ps) (by with_reducible assumption) (.inr (by with_reducible assumption)) true (by with_reducible assumption)|have Q:=JQ (gg:=gg) (x:=x) (y:=y) (ps:=ps) (by with_reducible assumption) (.inr (by with_reducible assumption)) false (by with_reducible assumption));first|exact Q.1|exact Q.2|exact Q.1.symm|exact Q.2.symm))
def a1q{α:Type}(F:α->α->Prop×Bool)(z:α)(xs ys:List α):Prop:=∀ i,i<xs.length->i<ys.length->(F (xs.getD i z) (ys.getD i z)).1
def dJ{α:Type}(f:α->α->Bool):List α->List α->Bool
 | [],[]=>true
 | x::xs,y::ys=>f x y&&dJ f xs ys
 | _,_=>false
def Y6{α:Type}(f:α->α->Bool):∀ xs ys:List α,dJ f xs ys=true->xs.length=ys.length
 | [],[],_=>rfl
 | x::xs,y::ys,h=>by
  simp only[dJ,b4S] at h;simp[Y6 f xs ys h.2]
 | [],_::_,h=>by cases h
 | _::_,[],h=>by cases h
def a6X{α:Type}(f:α->α->Bool)(xs ys:List α)(h:xs.length≠ys.length):dJ f xs ys=false:=by
 cases hb:dJ f xs ys
 .rfl
 .exact absurd (Y6 f xs ys hb) h
def Rx{α:Type}(f:α->α->Bool)(z:α):∀ xs ys:List α,dJ f xs ys=true↔xs.length=ys.length/\∀ i,i<xs.length->f (xs.getD i z) (ys.getD i z)=true
 | [],[]=>by simp[dJ]
 | [],_::_=>by simp[dJ]
 | _::_,[]=>by simp[dJ]
 | x::xs,y::ys=>by
  simp only[dJ,b4S,Rx f z xs ys,b4Y,Nat.add_right_cancel_iff];constructor
  .rintro⟨h1,h2,h3⟩;refine⟨h2,λ i hi=>?_⟩;cases i with
   | zero=>simpa using h1
   | succ i=>simpa using h3 i (by omega)
  .rintro⟨h1,h2⟩;exact⟨by simpa using h2 0 (by omega),h1,λ i hi=>by simpa using h2 (i+1) (by omega)⟩
def a6W{α:Type}(f:α->α->Bool)(z:α)(xs ys:List α)(k:Nat)(h:xs.length=ys.length)(hk:k<xs.length)(hf:f (xs.getD k z) (ys.getD k z)=false):dJ f xs ys=false:=by
 cases hb:dJ f xs ys
 .rfl
 .have:=((Rx f z xs ys).1 hb).2 k hk;rw[this] at hf;cases hf
def a3f{α:Type}(f:α->α->Bool)(z:α)(xs ys:List α)(k:Nat)(h:xs.length=ys.length)(hk:xs.length<=k)(ha:dJ f (xs.take k) (ys.take k)=true):dJ f xs ys=true:=by
 rwa [b5o hk,b5o (by omega)] at ha
def a3e{α:Type}(f:α->α->Bool)(z:α)(xs ys:List α)(k:Nat)(h1:k<xs.length)(h2:k<ys.length)(ha:dJ f (xs.take k) (ys.take k)=true)(hf:f (xs.getD k z) (ys.getD k z)=true):dJ f (xs.take (k+1)) (ys.take (k+1))=true:=by
 rw[Rx f z] at ha ⊢;simp only[b5n,b5b] at ha hf ⊢;refine⟨by omega,λ i hi=>?_⟩;rcases b5Q i k with hik|hik
 .have:=ha.2 i (by omega);simpa [List.getElem?_take,hik,show i<k+1 by omega] using this
 .have:i=k:=by omega
  subst this;simpa [List.getElem?_take] using hf
def Y5{α:Type}:∀ xs ys:List α,dJ bH xs ys=bH xs ys
 | [],[]=>by simp[dJ]
 | [],_::_=>by simp[dJ,bH]
 | _::_,[]=>by simp[dJ,bH]
 | x::xs,y::ys=>by
  rw[dJ,Y5 xs ys];refine b6O.2 ?_;simp
def Zm(x y:J):bH x y=(decide (x.aq=y.aq)&&decide (x.aS=y.aS)&&bH x.M y.M):=by
 refine b6O.2 ?_;cases x;cases y;simp[and_assoc]
def ja:aN:=⟨oe,[.v (.slice (.st .expr)), .v (.slice (.st .expr)), .c [(.st .expr),(.st .expr)] .bool],λ (xs:List J) (ys:List J) (F:J->J->Prop×Bool)=>⟨(some (a1q F zE xs ys),[⟨.bool,dJ (λ x y=>(F x y).2) xs ys⟩])⟩⟩
def Cp(xs:List J)(ys:List J)(F:J->J->Prop×Bool):Nat->aA:=(cQ 0 (.b (Nat) (λ k=>k<=xs.length/\xs.length=ys.length/\dJ (λ x y=>(F x y).2) (xs.take k) (ys.take k)=true) (λ k=>xs.length - k) [0,10,11,12,13,14] (λ k=>[(17, .aH ⟨(.int .i64),((k:Int):Int)⟩)])) bJ)
def xf:aN.Good ja:=by
 refine⟨ar nB,?_⟩;intro (xs:List J) (ys:List J) (F:J->J->Prop×Bool) (hp:a1q F zE xs ys);refine aX [] [] [] [] trivial nB xd (Cp xs ys F) (let v0:=(xs.length:Int);let v1 := !(decide (v0=((ys.length:Int))));((O v0->(O ((ys.length:Int))->((v1=true->false=(dJ (λ x y=>(F x y).2) xs ys))/\(v1=false->(O v0->((∃ k1:Nat,((k1<=xs.length/\xs.length=ys.length/\dJ (λ x y=>(F x y).2) (xs.take k1) (ys.take k1)=true)/\((ys=ys/\(F=F/\(xs=xs/\(v0=v0/\((0:Int)=(k1:Int)/\True)))))/\True)))/\(∀ k1:Nat,let v2:=F (aI (xs.getD k1 zE)) (aI (ys.getD k1 zE));let v3:=(k1:Int);((k1<=xs.length/\xs.length=ys.length/\dJ (λ x y=>(F x y).2) (xs.take k1) (ys.take k1)=true)->(((decide (v3<v0))=true->(ak v3 xs.length/\(ak v3 ys.length/\(v2.1/\(((!(v2.2))=true->false=(dJ (λ x y=>(F x y).2) xs ys))/\((!(v2.2))=false->(O (v3+(1:Int))/\(∃ k2:Nat,((k2<=xs.length/\xs.length=ys.length/\dJ (λ x y=>(F x y).2) (xs.take k2) (ys.take k2)=true)/\(xs.length - k2<xs.length - k1/\((ys=ys/\(F=F/\(xs=xs/\(v0=v0/\((v3+(1:Int))=(k2:Int)/\True)))))/\True)))))))))))/\((decide (v3<v0))=false->true=(dJ (λ x y=>(F x y).2) xs ys))))))))))))) ?_;have f0:=a6X (λ x y=>(F x y).2) xs ys;refine λ _ _=>⟨λ _=>?_,λ _ _=>⟨⟨0,?_,⟨rfl,rfl,rfl,rfl,?_,ae⟩,ae⟩,λ k1 _=>have b2G:=hp k1;have b2H:=a6W (λ x y=>(F x y).2) zE xs ys k1;have b2I:=a3f (λ x y=>(F x y).2) zE xs ys k1;have b2J:=a3e (λ x y=>(F x y).2) zE xs ys k1;⟨λ _=>⟨?_,?_,?_,λ _=>?_,λ _=>⟨?_,k1+1,?_,?_,⟨rfl,rfl,rfl,rfl,?_,ae⟩,ae⟩⟩,λ _=>?_⟩⟩⟩;all_goals try and_intros
 all_goals try (first|with_reducible rfl|with_reducible assumption)
 all_goals try simp only[J.eta,ag.eta,au.eta,aK,br,bL] at *
 all_goals first|rfl|trivial|(simp only[b4N,b4M,ak,O] at *;first|omega|grind)|(simp[dJ];done)|grind
def jW(n:Nat):J->J->Prop×Bool:=λ (x:J) (y:J)=>((cd x<n),bH x y)
def S4:Nat×nz:=(ns,⟨[(.st .expr),(.st .expr)], .bool,[]⟩)
def a3j(n:Nat)(xs ys:List J)(h:cd xs<=n):a1q (jW n) zE xs ys:=λ i hi _=>by
 have:=ca zE xs i hi;show cd (xs.getD i _)<n;omega
def a3g(n:Nat)(xs ys:List J):dJ (λ x y=>(jW n x y).2) xs ys=bH xs ys:=Y5 xs ys
def lG(n:Nat):aN:=⟨ns,[.v (.st .expr), .v (.st .expr)],λ (x:J) (y:J)=>⟨(some (cd x<n),[⟨.bool,bH x y⟩])⟩⟩
def jC:aN:=⟨ns,[.v (.st .expr), .v (.st .expr)],λ (x:J) (y:J)=>⟨(none,[⟨.bool,bH x y⟩])⟩⟩
def Si(x:J)(y:J):Nat->aA:=bJ
abbrev yM(n:Nat)(x:J)(y:J):Prop:=(x.M.length<=140737488355328 ->
 (y.M.length<=140737488355328 ->
 (a1q (jW n) zE x.M y.M/\(dJ (λ x y=>((jW n) x y).2) x.M y.M)=(bH x y))))
def QR(n:Nat)(hE:bC [lG n,ja]):aN.Good (lG (n+1)):=by
 refine⟨ar lu,?_⟩;intro (x:J) (y:J) (hp:cd x<n+1);refine aX [lG n,ja] [] [S4] [2,3] hE lu Kx (Si x y) ((O x.aq->(O y.aq->(((decide (x.aq=y.aq))=true->(O x.aS->(O y.aS->(((decide (x.aS=y.aS))=true->(yM n x y))/\((decide (x.aS=y.aS))=(!true)->false=(bH x y))))))/\((decide (x.aq=y.aq))=(!true)->((false=true->(yM n x y))/\(false=(!true)->false=(bH x y)))))))) ?_;have f0:=dk x;have f1:=a3j n x.M y.M;have f2:=a3g n x.M y.M;have f3:=Zm x y;refine λ _ _=>⟨λ _ _ _=>⟨λ _ _ _=>⟨?_,?_⟩,λ _=>?_⟩,λ _=>⟨λ _ _ _=>⟨?_,?_⟩,λ _=>?_⟩⟩;all_goals try and_intros
 all_goals first|rfl|trivial|(simp only[decide_eq_true_eq,decide_eq_false_iff_not,ak,O] at *;first|omega|grind)|grind [a1q]
def Te :∀ n,bC [lG n]
 | 0=>⟨⟨ar lu,λ _ _ h=>absurd h (b5H _)⟩,ae⟩
 | n+1=>by
  have ih:=Te  n;exact⟨QR n ⟨ih.1,xf,ae⟩,ae⟩
def jj :aN.Good jC :=
 ⟨ar lu,λ x y hp=>(Te  (cd x+1)).1.2 x y (b5C _)⟩
def na(n:Nat):aN:=⟨vW,[.r (.st .expr), .r (.st .expr)],λ (x:J) (y:J)=>⟨(some (cd x<n),[⟨.bool,bH x y⟩])⟩⟩
def oC:aN:=⟨vW,[.r (.st .expr), .r (.st .expr)],λ (x:J) (y:J)=>⟨(none,[⟨.bool,bH x y⟩])⟩⟩
def UH(x:J)(y:J):Nat->aA:=(cQ 0 (.b (Nat) (λ k=>k<=x.M.length/\x.M.length=y.M.length/\x.M.take k=y.M.take k/\x.aq=y.aq/\x.aS=y.aS) (λ k=>x.M.length - k) [6,7,8,9,10,11,12,13,14,15,16,17,18,19,20,21,22,23,24,25,26,27,28,29,30,31,32,33,34,35,36,37,38] (λ k=>[(5, .aH ⟨(.int .i64),((k:Int):Int)⟩)])) bJ)
abbrev qA(n:Nat)(x:J)(y:J):Prop:=(let v0:=(x.M.length:Int);((∃ k1:Nat,((k1<=x.M.length/\x.M.length=y.M.length/\x.M.take k1=y.M.take k1/\x.aq=y.aq/\x.aS=y.aS)/\((x=x/\(y=y/\((0:Int)=(k1:Int)/\True)))/\True)))/\(∀ k1:Nat,let v1 := !(bH (x.M.getD k1 zE) (y.M.getD k1 zE));let v2:=(k1:Int);((k1<=x.M.length/\x.M.length=y.M.length/\x.M.take k1=y.M.take k1/\x.aq=y.aq/\x.aS=y.aS) ->
 (x.M.length<=140737488355328 ->
 (O v0 ->
 (((decide (v2<v0))=true ->
 (ak v2 x.M.length/\(ak v2 y.M.length/\(x.M.length<=140737488355328 ->
 (y.M.length<=140737488355328 ->
 (cd (x.M.getD k1 zE)<n/\((v1=true ->
 false=(bH x y))/\(v1=false ->
 (O (v2+(1:Int))/\(∃ k2:Nat,((k2<=x.M.length/\x.M.length=y.M.length/\x.M.take k2=y.M.take k2/\x.aq=y.aq/\x.aS=y.aS)/\(x.M.length - k2<x.M.length - k1/\((x=x/\(y=y/\((v2+(1:Int))=(k2:Int)/\True)))/\True)))))))))))))/\((decide (v2<v0))=false ->
 true=(bH x y)))))))))
abbrev A9(n:Nat)(x:J)(y:J):Prop:=(let v0 := !(decide (((x.M.length:Int))=((y.M.length:Int))));(x.M.length<=140737488355328 ->
 (O ((x.M.length:Int)) ->
 (y.M.length<=140737488355328 ->
 (O ((y.M.length:Int)) ->
 ((v0=true ->
 false=(bH x y))/\(v0=false ->
 (qA n x y))))))))
def SS(n:Nat)(hE:bC [na n]):aN.Good (na (n+1)):=by
 refine⟨ar mJ,?_⟩;intro (x:J) (y:J) (hp:cd x<n+1);refine aX [na n] [] [] [] hE mJ MH (UH x y) ((((!(decide (x.aq=y.aq)))=false->(((!(decide (x.aS=y.aS)))=false->(O x.aq->(O y.aq->(O x.aS->(O y.aS->(A9 n x y))))))/\((!(decide (x.aS=y.aS)))=(!false)->(O x.aq->(O y.aq->(O x.aS->(O y.aS->((true=true->false=(bH x y))/\(true=false->(qA n x y))))))))))/\((!(decide (x.aq=y.aq)))=(!false)->((true=false->(O x.aq->(O y.aq->(A9 n x y))))/\(true=(!false)->(O x.aq->(O y.aq->((true=true->false=(bH x y))/\(true=false->(qA n x y)))))))))) ?_;have f0:=dk x;have f3:=Zm x y;refine⟨λ _=>⟨λ _ _ _ _ _ _ _ _ _=>⟨λ _=>?_,λ _=>⟨⟨0,?_,⟨rfl,rfl,?_,ae⟩,ae⟩,λ k1 _=>have a3m:=gm zE x.M y.M k1;have a3n:=dC x.M y.M k1;have a3o:=ca zE x.M k1;λ _ _=>⟨λ _=>⟨?_,?_,λ _ _=>⟨?_,λ _=>?_,λ _=>⟨?_,k1+1,?_,?_,⟨rfl,rfl,?_,ae⟩,ae⟩⟩⟩,λ _=>?_⟩⟩⟩,λ _ _ _ _ _=>⟨λ _=>?_,λ _=>⟨⟨0,?_,⟨rfl,rfl,?_,ae⟩,ae⟩,λ k1 _=>have a7j:=gm zE x.M y.M k1;have a7k:=dC x.M y.M k1;have a7l:=ca zE x.M k1;λ _ _=>⟨λ _=>⟨?_,?_,λ _ _=>⟨?_,λ _=>?_,λ _=>⟨?_,k1+1,?_,?_,⟨rfl,rfl,?_,ae⟩,ae⟩⟩⟩,λ _=>?_⟩⟩⟩⟩,λ _=>⟨λ _ _ _ _ _ _ _=>⟨λ _=>?_,λ _=>⟨⟨0,?_,⟨rfl,rfl,?_,ae⟩,ae⟩,λ k1 _=>have b0w:=gm zE x.M y.M k1;have b0x:=dC x.M y.M k1;have b0y:=ca zE x.M k1;λ _ _=>⟨λ _=>⟨?_,?_,λ _ _=>⟨?_,λ _=>?_,λ _=>⟨?_,k1+1,?_,?_,⟨rfl,rfl,?_,ae⟩,ae⟩⟩⟩,λ _=>?_⟩⟩⟩,λ _ _ _=>⟨λ _=>?_,λ _=>⟨⟨0,?_,⟨rfl,rfl,?_,ae⟩,ae⟩,λ k1 _=>have b2K:=gm zE x.M y.M k1;have b2L:=dC x.M y.M k1;have b2M:=ca zE x.M k1;λ _ _=>⟨λ _=>⟨?_,?_,λ _ _=>⟨?_,λ _=>?_,λ _=>⟨?_,k1+1,?_,?_,⟨rfl,rfl,?_,ae⟩,ae⟩⟩⟩,λ _=>?_⟩⟩⟩⟩⟩;all_goals try and_intros
 all_goals first|rfl|trivial|(simp only[decide_eq_true_eq,decide_eq_false_iff_not,Bool.not_eq_false',Bool.not_eq_true',decide_not,ak,O] at *;first|omega|grind)|grind [iD,a5V]
def Tf :∀ n,bC [na n]
 | 0=>⟨⟨ar mJ,λ _ _ h=>absurd h (b5H _)⟩,ae⟩
 | n+1=>by
  have ih:=Tf  n;exact⟨SS n ⟨ih.1,ae⟩,ae⟩
def oU :aN.Good oC :=
 ⟨ar mJ,λ x y hp=>(Tf  (cd x+1)).1.2 x y (b5C _)⟩
end
end Go.Proofs.YtmjfpcajohhbeaaGreatDoor

namespace Go.Proofs
open Go.Shelf
def Tryz.a0I:Go.Shelf.Ren:=⟨λ|145=>144|220=>148|219=>153|217=>160|225=>161|224=>162|267=>163|266=>169|314=>170|n=>n,λ|9=>9|4=>4|59=>175|3=>3|5=>5|46=>203|146=>214|51=>213|n=>n,λ|1=>0|n=>n⟩
def Tryz.a8e:Go.Proofs.Lays.n145 Tryz.prog Tryz.a0I:={
 mixed:=by kernel_rfl
 f145:=Tryz.func144.trans (congrArg some (by kernel_rfl))
 f217:=Tryz.func160.trans (congrArg some (by kernel_rfl))
 f219:=Tryz.func153.trans (congrArg some (by kernel_rfl))
 f220:=Tryz.func148.trans (congrArg some (by kernel_rfl))
 f224:=Tryz.func162.trans (congrArg some (by kernel_rfl))
 f225:=Tryz.func161.trans (congrArg some (by kernel_rfl))
 f266:=Tryz.func169.trans (congrArg some (by kernel_rfl))
 f267:=Tryz.func163.trans (congrArg some (by kernel_rfl))
 f314:=Tryz.func170.trans (congrArg some (by kernel_rfl))
 t3:=Tryz.underlying3
 a3:=Tryz.isAgg3
 z3:=Tryz.sizeOf3
 v3:=Tryz.zeroValue3
 t4:=Tryz.underlying4
 a4:=Tryz.isAgg4
 z4:=Tryz.sizeOf4
 v4:=Tryz.zeroValue4
 t5:=Tryz.underlying5
 a5:=Tryz.isAgg5
 z5:=Tryz.sizeOf5
 v5:=Tryz.zeroValue5
 t9:=Tryz.underlying9
 a9:=Tryz.isAgg9
 z9:=Tryz.sizeOf9
 v9:=Tryz.zeroValue9
 t46:=Tryz.underlying203
 a46:=Tryz.isAgg203
 z46:=Tryz.sizeOf203
 v46:=Tryz.zeroValue203
 t51:=Tryz.underlying213
 a51:=Tryz.isAgg213
 z51:=Tryz.sizeOf213
 v51:=Tryz.zeroValue213
 t59:=Tryz.underlying175
 a59:=Tryz.isAgg175
 z59:=Tryz.sizeOf175
 v59:=Tryz.zeroValue175
 t146:=Tryz.underlying214
 a146:=Tryz.isAgg214
 z146:=Tryz.sizeOf214
 v146:=Tryz.zeroValue214
 g1:=by kernel_rfl }
open Go.RowKit Go.Lib in
def Tryz.strings_Cut(s sep:ByteArray)(m:Int)(w:World)(hs:s.size<4294967281)(hm:w.cell? ⟨0,0,none⟩=some (.int .i64 m)) :
  Calls Tryz.prog 144 #[.string s, .string sep] w λ e w'=>e = .returned (.tuple #[.string ⟨(Lib.cut s.data.toList sep.data.toList).1.toArray⟩, .string ⟨(Lib.cut s.data.toList sep.data.toList).2.1.toArray⟩, .bool (Lib.cut s.data.toList sep.data.toList).2.2])/\∃ n,w'=w.drewN n:=Any.strings_Cut Tryz.a8e s sep m w hs hm
end Go.Proofs

namespace Go.Proofs.YtmjfpcajohhbeaaGreatDoor
noncomputable section
open Go.RowKit Go.Proofs
def pw(s p:List UInt8):List UInt8:=(Lib.cut s p).1
def kK(s p:List UInt8):List UInt8:=(Lib.cut s p).2.1
def tB(s p:List UInt8):Bool:=(Lib.cut s p).2.2
def Dl(s p:List UInt8):List UInt8:=bif tB s p then pw s p else []
def a2t(s p:List UInt8)(i:Nat):Lib.occAt s p i=true↔(s.take (i+p.length)).drop i=p:=by
 unfold Lib.occAt;rw[List.isPrefixOf_iff_prefix,List.prefix_iff_eq_take,List.drop_take,Nat.add_sub_cancel_left];exact eq_comm
def a7u(s p:List UInt8)(i:Nat)(h:Lib.NoOcc s p i)(hi:i+p.length<=s.length)(e:(s.take (i+p.length)).drop i=p):Dl s p=s.take i/\kK s p=s.drop (i+p.length)/\tB s p=true:=by
 have hx:=Lib.index_hit h (by omega) ((a2t s p i).2 e);have hc:Lib.cut s p=(s.take i,s.drop (i+p.length),true):=by
  unfold Lib.cut;rw[hx,if_pos (by omega),Int.toNat_natCast]
 simp[Dl,kK,tB,pw,hc]
def a9v(s p:List UInt8)(i:Nat)(h:Lib.NoOcc s p i)(e:¬ (s.take (i+p.length)).drop i=p):Lib.NoOcc s p (i+1) :=
 h.succ (by
  cases q:Lib.occAt s p i with
  | false=>rfl
  | true=>exact absurd ((a2t s p i).1 q) e)
def a7t(s p:List UInt8)(i:Nat)(h:Lib.NoOcc s p i)(hp:1<=p.length)(hi:s.length<i+p.length):Dl s p=[]/\kK s p=[]/\tB s p=false:=by
 have hx:=Lib.index_past (λ e=>by rw[e] at hp;simp at hp) h hi;have hc:Lib.cut s p=(s,[],false):=by
  unfold Lib.cut;rw[hx];rfl
 simp[Dl,kK,tB,pw,hc]
def natAdd(a b:Nat):((a:Int)+(b:Int)).toNat=a+b:=by omega
def Zk(s p:List UInt8):(pw s p).length<=s.length/\(kK s p).length<=s.length:=by
 unfold pw kK Lib.cut;split
 .simp only[b5n,b6f];omega
 .simp
def I7:aN:=⟨Jx,[.v .str, .v .str],λ (s:List UInt8) (p:List UInt8)=>⟨(some (s.length<=1048576/\1<=p.length/\p.length<=100),[⟨.str,Dl s p⟩,⟨.str,kK s p⟩,⟨.bool,tB s p⟩])⟩⟩
def Xc(s:List UInt8)(p:List UInt8):Nat->aA:=(cQ 0 (.b (Nat) (λ i=>Lib.NoOcc s p i/\i<=s.length) (λ i=>s.length - i) [] (λ i=>[(7, .aH ⟨(.int .i64),((i:Int):Int)⟩)])) bJ)
def PZ:aN.Good I7:=by
 refine⟨ar F7,?_⟩;intro (s:List UInt8) (p:List UInt8) (hp:s.length<=1048576/\1<=p.length/\p.length<=100);refine aX [] [] [] [] trivial F7 Pn (Xc s p) (let v0:=(p.length:Int);let v1:=(s.length:Int);(((∃ i1:Nat,((Lib.NoOcc s p i1/\i1<=s.length)/\((s=s/\(p=p/\((0:Int)=(i1:Int)/\True)))/\True)))/\(∀ i1:Nat,let v2:=(i1:Int)+v0;let v3:=decide (((s.take (Int.toNat v2)).drop i1)=p);((Lib.NoOcc s p i1/\i1<=s.length)->(O v0->(O v2/\(O v1->(((decide (v2<=v1))=true->(O v0->(O v2/\(cB (i1:Int) v2 s.length/\((v3=true->(cB (0:Int) (i1:Int) s.length/\(O v2/\(cB v2 v1 s.length/\(O v0->(((s.take i1).drop 0)=(Dl s p)/\(((s.take (Int.toNat v1)).drop (Int.toNat v2))=(kK s p)/\true=(tB s p))))))))/\(v3=false->(O ((i1:Int)+(1:Int))/\(∃ i2:Nat,((Lib.NoOcc s p i2/\i2<=s.length)/\(s.length - i2<s.length - i1/\((s=s/\(p=p/\(((i1:Int)+(1:Int))=(i2:Int)/\True)))/\True)))))))))))/\((decide (v2<=v1))=false->([]=(Dl s p)/\([]=(kK s p)/\false=(tB s p))))))))))))) ?_;have f0:=Lib.NoOcc.zero s p;refine⟨⟨0,?_,⟨rfl,rfl,?_,ae⟩,ae⟩,λ i1 _=>have C9:=a7u s p i1;have p7:=a9v s p i1;have wu:=a7t s p i1;λ _=>⟨?_,λ _=>⟨λ _ _=>⟨?_,?_,λ _=>⟨?_,?_,?_,λ _=>⟨?_,?_,?_⟩⟩,λ _=>⟨?_,i1+1,?_,?_,⟨rfl,rfl,?_,ae⟩,ae⟩⟩,λ _=>⟨?_,?_,?_⟩⟩⟩⟩;all_goals try and_intros
 all_goals first|rfl|trivial|omega|(simp only[b4N,b4M,ak,O,cB,natAdd,b5e,b7j] at *;first|omega|grind)|grind
def I8:aN:=⟨Jy,[.v .str, .v .str],λ (s:List UInt8) (p:List UInt8)=>⟨(some (s.length<=1048576),[⟨.str,pw s p⟩,⟨.str,kK s p⟩,⟨.bool,tB s p⟩])⟩⟩
def P1:aN.Good I8:=by
 refine⟨ar Ub rfl (by decide),?_⟩;intro (s:List UInt8) (p:List UInt8) hp w S b9 hS ha;match b9,ha with
 | [v,u],ha =>
  obtain⟨⟨x,hv,hx,vI⟩,⟨y,hu,hy,hyl⟩,_⟩:=ha;simp only[b4X,b5d] at hv hu;subst hv hu;have hp2:s.length<=1048576:=hp;obtain⟨_,m,hm⟩:=hS.2 0 (b5t.2 rfl);have lh:x.size<4294967281:=by
   have:x.data.toList.length=s.length:=congrArg List.length hx;rw[b8T,this];omega
  have hl:=Zk s p;have ex:x.data.toList=s:=hx;have ey:y.data.toList=p:=hy;refine (Tryz.strings_Cut x y m w lh hm).mono ?_;rw[ex,ey];rintro e w' ⟨rfl,n,rfl⟩;refine⟨_,S,_,rfl,rfl,⟨rfl,rfl,rfl,b5w _,λ b _ _=>rfl⟩,λ b _=>b6P,λ b h=>hS.1 b h,[_,_,_],rfl,?_,?_,rfl,ae⟩
  .refine⟨_,rfl,rfl,?_⟩;have:(⟨(Lib.cut s p).1.toArray⟩:ByteArray).size=(pw s p).length:=by rw[b8T];rfl
   rw[this];omega
  .refine⟨_,rfl,rfl,?_⟩;have:(⟨(Lib.cut s p).2.1.toArray⟩:ByteArray).size=(kK s p).length:=by rw[b8T];rfl
   rw[this];omega
end
end Go.Proofs.YtmjfpcajohhbeaaGreatDoor

namespace Go.Proofs.YtmjfpcajohhbeaaGreatDoor
open Go.RowKit Go.Proofs
def VW{B b:Nat}{p:Value}{bs:List Value}{w:World}(h:Lib.BuilderAt 196 5 B b p bs w)(o:Obj):Lib.BuilderAt 196 5 B b p bs (w.alloc o):=by
 obtain⟨hB,v,hb,n9,eR⟩:=h;exact⟨hB,v,by rw[Lib.alloc_old w o b (bE hb)];exact hb,n9.alloc _,eR⟩
abbrev xa(B b:Nat)(l:List UInt8)(w:World):Prop:=Lib.IsBuilder 196 5 B b (Lib.byteCells l) w
def ma{B b:Nat}{l:List UInt8}{w:World}(h:xa B b l w)(o:Obj):xa B b l (w.alloc o):=h.imp (λ h=>VW h o) (λ h=>VW h o)
def Qo{B b:Nat}{l:List UInt8}{w:World}(h:xa B b l w):b<w.heap.size:=by
 rcases h with h|h<;>exact h.lt
def px{B:Nat}{w:World}(h:B<=w.heap.size)(o:Obj):B<=(w.alloc o).heap.size:=by simp;omega
def Dg{b:Nat}{w w1:World}{cs:Array Value}(h:jq b (w.alloc (.cells cs 38)) w1)(hb:b<w.heap.size)(j:Nat){v:Value}(hj:cs[j]?=some v):w1.cell? ⟨w.heap.size,j,none⟩=some v:=by
 have e:=h w.heap.size cs 38 (0,0) (b7Z w _) (by decide) (by omega);rw[b7w (a:=⟨w.heap.size,j,none⟩) e,b7B (b7Z w _)];exact hj
structure Wr(B b:Nat)(l t:List UInt8)(w w':World):Prop where
 Sa:xa B b (l++t) w'
 nG:Below B w w'
 aR:jq b w w'
def Wr.trans{B b:Nat}{l t u:List UInt8}{w w1 w2:World}(h:Wr B b l t w w1)(k:Wr B b (l++t) u w1 w2):Wr B b l (t++u) w w2 :=
 ⟨by rw[<-b5O];exact k.Sa,h.nG.trans k.nG,h.aR.trans k.aR⟩
def Wr.alloc{B b:Nat}{l t:List UInt8}{w w1:World}{o:Obj}(h:Wr B b l t (w.alloc o) w1)(iY:B<=w.heap.size):Wr B b l t w w1 :=
 ⟨h.Sa,((b8r B w).alloc iY _).trans h.nG,((jq.refl b w).alloc _).trans h.aR⟩
def ws(B b:Nat)(l:List UInt8)(s:ByteArray)(w:World)(h:xa B b l w)(hlen:l.length+s.data.toList.length<=140737488355328)(iY:B<=w.heap.size) :
  Calls Tryz.prog 167 #[.pointer (some ⟨b,0,none⟩), .string s] w λ e w'=>e = .returned (.tuple #[.int .i64 s.size, .nilIface])/\Wr B b l s.data.toList w w':=by
 refine (writeString B b _ s w h (by simpa [Lib.byteCells_length] using hlen) iY).mono ?_;rintro e w' ⟨rfl,h1,h2,h3⟩;refine⟨rfl,?_,h2,h3⟩;have:Lib.byteCells l++Lib.strCells s=Lib.byteCells (l++s.data.toList):=by simp[Lib.byteCells,Lib.strCells]
 rw[xa,<-this];exact h1
abbrev Kv(B b:Nat)(v:Value)(l t:List UInt8)(w:World):Prop :=
 Calls Tryz.prog 156 #[.pointer (some ⟨b,0,none⟩),v] w λ e w'=>e = .returned (.tuple #[])/\Wr B b l t w w'
set_option maxRecDepth 100000 in
def RU(i:Nat)(hi:i<100)(w:World) :
  Calls Tryz.prog 173 #[.int .i64 i, .int .i64 10] w λ e w'=>e = .returned (.string ⟨(Lib.decDigits i).toArray⟩)/\w'=w:=by
 go_enter Tryz.func173,Tryz.ntmps173;go_wp2_with (go_at_call 175;refine (Tryz.internal_strconv_FormatInt_10_small i hi _).mono ?_);rintro e w1 ⟨he,hw⟩;subst he hw;go_wp2;go_ret;exact⟨rfl,rfl⟩
set_option maxRecDepth 100000 in
def It(i:Nat)(hi:i<100)(w:World) :
  Calls Tryz.prog 168 #[.int .i64 i] w λ e w'=>e = .returned (.string ⟨(Lib.decDigits i).toArray⟩)/\w'=w:=by
 go_enter Tryz.func168,Tryz.ntmps168;go_wp2_with (go_at_call 173;refine (RU i hi _).mono ?_);rintro e w1 ⟨he,hw⟩;subst he hw;go_wp2;go_ret;exact⟨rfl,rfl⟩
set_option maxRecDepth 100000 in
def we1(B b:Nat)(l:List UInt8)(n:Int)(sl:Value)(w:World)(h:xa B b l w)(hlen:l.length+1<=140737488355328)(iY:B<=w.heap.size) :
  Kv B b (.agg #[.int .i64 1, .int .i64 n,sl]) l [48] w:=by
 go_enter Tryz.func156,Tryz.ntmps156;go_wp2_with (go_at_call 167;refine (ws B b l _ _ (ma h _) (by exact hlen) (px iY _)).mono ?_);intro e w1 he h1;subst he;go_wp2;go_end0;exact⟨rfl,h1.alloc iY⟩
set_option maxRecDepth 100000 in
def we2(B b:Nat)(l:List UInt8)(n:Int)(sl:Value)(w:World)(h:xa B b l w)(hlen:l.length+1<=140737488355328)(iY:B<=w.heap.size) :
  Kv B b (.agg #[.int .i64 2, .int .i64 n,sl]) l [49] w:=by
 go_enter Tryz.func156,Tryz.ntmps156;go_wp2_with (go_at_call 167;refine (ws B b l _ _ (ma h _) (by exact hlen) (px iY _)).mono ?_);intro e w1 he h1;subst he;go_wp2;go_end0;exact⟨rfl,h1.alloc iY⟩
set_option maxRecDepth 100000 in
def we3(B b:Nat)(l:List UInt8)(i:Nat)(hi:i<100)(sl:Value)(w:World)(h:xa B b l w)(hlen:l.length+((Lib.decDigits i).length+1)<=140737488355328)(iY:B<=w.heap.size) :
  Kv B b (.agg #[.int .i64 3, .int .i64 i,sl]) l (116::Lib.decDigits i) w:=by
 go_enter Tryz.func156,Tryz.ntmps156;go_wp2_with (go_at_call 168;refine (It i hi _).mono ?_);rintro e w1 ⟨he,hw⟩;subst he hw;go_wp2_with (go_at_call 167;refine (ws B b l _ _ (ma h _) (by simp;omega) (px iY _)).mono ?_);rintro e w1 ⟨he,h1⟩;subst he;go_wp2;go_end0;exact⟨rfl,by simpa using h1.alloc iY⟩
set_option maxRecDepth 100000 in
def we4(B b:Nat)(l:List UInt8)(i:Nat)(hi:i<100)(sl:Value)(w:World)(h:xa B b l w)(hlen:l.length+((Lib.decDigits i).length+1)<=140737488355328)(iY:B<=w.heap.size) :
  Kv B b (.agg #[.int .i64 4, .int .i64 i,sl]) l (97::Lib.decDigits i) w:=by
 go_enter Tryz.func156,Tryz.ntmps156;go_wp2_with (go_at_call 168;refine (It i hi _).mono ?_);rintro e w1 ⟨he,hw⟩;subst he hw;go_wp2_with (go_at_call 167;refine (ws B b l _ _ (ma h _) (by simp;omega) (px iY _)).mono ?_);rintro e w1 ⟨he,h1⟩;subst he;go_wp2;go_end0;exact⟨rfl,by simpa using h1.alloc iY⟩
set_option maxRecDepth 100000 in
def we5(B b:Nat)(l t:List UInt8)(n:Int)(kb ko cap:Nat)(c0 c1 c2:Value)(w:World)(h:xa B b l w)(hlen:l.length+(t.length+1)<=140737488355328)(iY:B<=w.heap.size)
  (tF:∀ w1,Below B w w1->∀ j v,[c0,c1,c2][j]?=some v->w1.cell? ⟨kb,ko+0+j,none⟩=some v)
  (ih0:∀ w1 l1,Below B w w1->xa B b l1 w1->B<=w1.heap.size->l1.length+t.length<=140737488355328->Kv B b (.agg #[c0,c1,c2]) l1 t w1)
  : Kv B b (.agg #[.int .i64 5, .int .i64 n, .slice (some ⟨kb,ko,none⟩) 1 cap]) l (126::t) w:=by
 go_enter Tryz.func156,Tryz.ntmps156;go_wp2_with (go_at_call 167;refine (ws B b l _ _ (ma h _) (by simp;omega) (px iY _)).mono ?_);intro e w1 he h1;subst he;have c2':=Dg h1.aR (Qo h) 2 rfl;have q00:w1.cell? ⟨kb,ko,none⟩=some c0:=by simpa [Nat.add_assoc] using tF w1 (h1.alloc iY).nG 0 _ rfl
 have q01:w1.cell? ⟨kb,ko+1,none⟩=some c1:=by simpa [Nat.add_assoc] using tF w1 (h1.alloc iY).nG 1 _ rfl
 have q02:w1.cell? ⟨kb,ko+2,none⟩=some c2:=by simpa [Nat.add_assoc] using tF w1 (h1.alloc iY).nG 2 _ rfl
 go_wp2_with (go_at_call 156;refine (ih0 w1 _ (h1.alloc iY).nG h1.Sa (by have:=(h1.alloc iY).nG.size;omega) (by simp;omega)).mono ?_);rintro e w2 ⟨he,h2⟩;subst he;go_wp2;go_end0;exact⟨rfl,((h1.alloc iY).trans h2)⟩
set_option maxRecDepth 100000 in
def we8(B b:Nat)(l t:List UInt8)(n:Int)(kb ko cap:Nat)(c0 c1 c2:Value)(w:World)(h:xa B b l w)(hlen:l.length+(t.length+1)<=140737488355328)(iY:B<=w.heap.size)
  (tF:∀ w1,Below B w w1->∀ j v,[c0,c1,c2][j]?=some v->w1.cell? ⟨kb,ko+0+j,none⟩=some v)
  (ih0:∀ w1 l1,Below B w w1->xa B b l1 w1->B<=w1.heap.size->l1.length+t.length<=140737488355328->Kv B b (.agg #[c0,c1,c2]) l1 t w1)
  : Kv B b (.agg #[.int .i64 8, .int .i64 n, .slice (some ⟨kb,ko,none⟩) 1 cap]) l (t++[42]) w:=by
 have P8:Below B w (w.alloc (.cells #[.int .i64 8, .int .i64 n, .slice (some ⟨kb,ko,none⟩) 1 cap] 38)):=(Below.refl B w).alloc iY _;have q00:(w.alloc (.cells #[.int .i64 8, .int .i64 n, .slice (some ⟨kb,ko,none⟩) 1 cap] 38)).cell? ⟨kb,ko,none⟩=some c0:=by simpa [Nat.add_assoc] using tF (w.alloc (.cells #[.int .i64 8, .int .i64 n, .slice (some ⟨kb,ko,none⟩) 1 cap] 38)) P8 0 _ rfl
 have q01:(w.alloc (.cells #[.int .i64 8, .int .i64 n, .slice (some ⟨kb,ko,none⟩) 1 cap] 38)).cell? ⟨kb,ko+1,none⟩=some c1:=by simpa [Nat.add_assoc] using tF (w.alloc (.cells #[.int .i64 8, .int .i64 n, .slice (some ⟨kb,ko,none⟩) 1 cap] 38)) P8 1 _ rfl
 have q02:(w.alloc (.cells #[.int .i64 8, .int .i64 n, .slice (some ⟨kb,ko,none⟩) 1 cap] 38)).cell? ⟨kb,ko+2,none⟩=some c2:=by simpa [Nat.add_assoc] using tF (w.alloc (.cells #[.int .i64 8, .int .i64 n, .slice (some ⟨kb,ko,none⟩) 1 cap] 38)) P8 2 _ rfl
 go_enter Tryz.func156,Tryz.ntmps156;go_wp2_with (go_at_call 156;refine (ih0 _ _ P8 (ma h _) (px iY _) (by omega)).mono ?_);rintro e w1 ⟨he,h1⟩;subst he;go_wp2_with (go_at_call 167;refine (ws B b _ _ _ h1.Sa (by simp;omega) (by have:=(h1.alloc iY).nG.size;omega)).mono ?_);intro e w2 he h2;subst he;go_wp2;go_end0;exact⟨rfl,((h1.alloc iY).trans h2)⟩
set_option maxRecDepth 100000 in
def we6(B b:Nat)(l t u:List UInt8)(n:Int)(kb ko cap:Nat)(c0 c1 c2 d0 d1 d2:Value)(w:World)(h:xa B b l w)(hlen:l.length+(t.length+u.length+5)<=140737488355328)(iY:B<=w.heap.size)
  (tF:∀ w1,Below B w w1->∀ j v,[c0,c1,c2][j]?=some v->w1.cell? ⟨kb,ko+0+j,none⟩=some v)
  (ih0:∀ w1 l1,Below B w w1->xa B b l1 w1->B<=w1.heap.size->l1.length+t.length<=140737488355328->Kv B b (.agg #[c0,c1,c2]) l1 t w1)
  (R2:∀ w1,Below B w w1->∀ j v,[d0,d1,d2][j]?=some v->w1.cell? ⟨kb,ko+3+j,none⟩=some v)
  (ih1:∀ w1 l1,Below B w w1->xa B b l1 w1->B<=w1.heap.size->l1.length+u.length<=140737488355328->Kv B b (.agg #[d0,d1,d2]) l1 u w1)
  : Kv B b (.agg #[.int .i64 6, .int .i64 n, .slice (some ⟨kb,ko,none⟩) 2 cap]) l ([40]++(t++([32,43,32]++(u++[41])))) w:=by
 go_enter Tryz.func156,Tryz.ntmps156;go_wp2_with (go_at_call 167;refine (ws B b l _ _ (ma h _) (by simp;omega) (px iY _)).mono ?_);intro e w1 he h1;subst he;have e1:=Dg h1.aR (Qo h) 2 rfl;have q00:w1.cell? ⟨kb,ko,none⟩=some c0:=by simpa [Nat.add_assoc] using tF w1 (h1.alloc iY).nG 0 _ rfl
 have q01:w1.cell? ⟨kb,ko+1,none⟩=some c1:=by simpa [Nat.add_assoc] using tF w1 (h1.alloc iY).nG 1 _ rfl
 have q02:w1.cell? ⟨kb,ko+2,none⟩=some c2:=by simpa [Nat.add_assoc] using tF w1 (h1.alloc iY).nG 2 _ rfl
 have g1:=h1.alloc iY;have s1:B<=w1.heap.size:=by have:=g1.nG.size;omega
 go_wp2_with (go_at_call 156;refine (ih0 w1 _ g1.nG h1.Sa s1 (by simp;omega)).mono ?_);rintro e w2 ⟨he,h2⟩;subst he;have s2:B<=w2.heap.size:=by have:=h2.nG.size;omega
 go_wp2_with (go_at_call 167;refine (ws B b _ _ _ h2.Sa (by simp;omega) s2).mono ?_);intro e w3 he h3;subst he;have e3:=Dg (h1.aR.trans (h2.aR.trans h3.aR)) (Qo h) 2 rfl;have g3:=g1.nG.trans (h2.nG.trans h3.nG);have q10:w3.cell? ⟨kb,ko+3,none⟩=some d0:=by simpa [Nat.add_assoc] using R2 w3 g3 0 _ rfl
 have q11:w3.cell? ⟨kb,ko+4,none⟩=some d1:=by simpa [Nat.add_assoc] using R2 w3 g3 1 _ rfl
 have q12:w3.cell? ⟨kb,ko+5,none⟩=some d2:=by simpa [Nat.add_assoc] using R2 w3 g3 2 _ rfl
 have s3:B<=w3.heap.size:=by have:=h3.nG.size;omega
 go_wp2_with (go_at_call 156;refine (ih1 w3 _ g3 h3.Sa s3 (by simp;omega)).mono ?_);rintro e w4 ⟨he,h4⟩;subst he;have s4:B<=w4.heap.size:=by have:=h4.nG.size;omega
 go_wp2_with (go_at_call 167;refine (ws B b _ _ _ h4.Sa (by simp;omega) s4).mono ?_);intro e w5 he h5;subst he;go_wp2;go_end0;have j2:Wr B b (l++[40]) t w1 w2:=by simpa using h2
 have j3:Wr B b (l++[40]++t) [32,43,32] w2 w3:=by simpa using h3
 have j4:Wr B b (l++[40]++t++[32,43,32]) u w3 w4:=by simpa using h4
 have j5:Wr B b (l++[40]++t++[32,43,32]++u) [41] w4 w5:=by simpa using h5
 exact⟨rfl,g1.trans (j2.trans (j3.trans (j4.trans j5)))⟩
set_option maxRecDepth 100000 in
def we7(B b:Nat)(l t u:List UInt8)(n:Int)(kb ko cap:Nat)(c0 c1 c2 d0 d1 d2:Value)(w:World)(h:xa B b l w)(hlen:l.length+(t.length+u.length+3)<=140737488355328)(iY:B<=w.heap.size)
  (tF:∀ w1,Below B w w1->∀ j v,[c0,c1,c2][j]?=some v->w1.cell? ⟨kb,ko+0+j,none⟩=some v)
  (ih0:∀ w1 l1,Below B w w1->xa B b l1 w1->B<=w1.heap.size->l1.length+t.length<=140737488355328->Kv B b (.agg #[c0,c1,c2]) l1 t w1)
  (R2:∀ w1,Below B w w1->∀ j v,[d0,d1,d2][j]?=some v->w1.cell? ⟨kb,ko+3+j,none⟩=some v)
  (ih1:∀ w1 l1,Below B w w1->xa B b l1 w1->B<=w1.heap.size->l1.length+u.length<=140737488355328->Kv B b (.agg #[d0,d1,d2]) l1 u w1)
  : Kv B b (.agg #[.int .i64 7, .int .i64 n, .slice (some ⟨kb,ko,none⟩) 2 cap]) l ([40]++(t++([32]++(u++[41])))) w:=by
 go_enter Tryz.func156,Tryz.ntmps156;go_wp2_with (go_at_call 167;refine (ws B b l _ _ (ma h _) (by simp;omega) (px iY _)).mono ?_);intro e w1 he h1;subst he;have e1:=Dg h1.aR (Qo h) 2 rfl;have q00:w1.cell? ⟨kb,ko,none⟩=some c0:=by simpa [Nat.add_assoc] using tF w1 (h1.alloc iY).nG 0 _ rfl
 have q01:w1.cell? ⟨kb,ko+1,none⟩=some c1:=by simpa [Nat.add_assoc] using tF w1 (h1.alloc iY).nG 1 _ rfl
 have q02:w1.cell? ⟨kb,ko+2,none⟩=some c2:=by simpa [Nat.add_assoc] using tF w1 (h1.alloc iY).nG 2 _ rfl
 have g1:=h1.alloc iY;have s1:B<=w1.heap.size:=by have:=g1.nG.size;omega
 go_wp2_with (go_at_call 156;refine (ih0 w1 _ g1.nG h1.Sa s1 (by simp;omega)).mono ?_);rintro e w2 ⟨he,h2⟩;subst he;have s2:B<=w2.heap.size:=by have:=h2.nG.size;omega
 go_wp2_with (go_at_call 167;refine (ws B b _ _ _ h2.Sa (by simp;omega) s2).mono ?_);intro e w3 he h3;subst he;have e3:=Dg (h1.aR.trans (h2.aR.trans h3.aR)) (Qo h) 2 rfl;have g3:=g1.nG.trans (h2.nG.trans h3.nG);have q10:w3.cell? ⟨kb,ko+3,none⟩=some d0:=by simpa [Nat.add_assoc] using R2 w3 g3 0 _ rfl
 have q11:w3.cell? ⟨kb,ko+4,none⟩=some d1:=by simpa [Nat.add_assoc] using R2 w3 g3 1 _ rfl
 have q12:w3.cell? ⟨kb,ko+5,none⟩=some d2:=by simpa [Nat.add_assoc] using R2 w3 g3 2 _ rfl
 have s3:B<=w3.heap.size:=by have:=h3.nG.size;omega
 go_wp2_with (go_at_call 156;refine (ih1 w3 _ g3 h3.Sa s3 (by simp;omega)).mono ?_);rintro e w4 ⟨he,h4⟩;subst he;have s4:B<=w4.heap.size:=by have:=h4.nG.size;omega
 go_wp2_with (go_at_call 167;refine (ws B b _ _ _ h4.Sa (by simp;omega) s4).mono ?_);intro e w5 he h5;subst he;go_wp2;go_end0;have j2:Wr B b (l++[40]) t w1 w2:=by simpa using h2
 have j3:Wr B b (l++[40]++t) [32] w2 w3:=by simpa using h3
 have j4:Wr B b (l++[40]++t++[32]) u w3 w4:=by simpa using h4
 have j5:Wr B b (l++[40]++t++[32]++u) [41] w4 w5:=by simpa using h5
 exact⟨rfl,g1.trans (j2.trans (j3.trans (j4.trans j5)))⟩
end Go.Proofs.YtmjfpcajohhbeaaGreatDoor

namespace Go.Proofs.YtmjfpcajohhbeaaGreatDoor
noncomputable section
open Go.RowKit Go.Proofs
def An(n:Int):List UInt8:=Lib.decDigits n.toNat
def Y1(k n:Int)(p q:List UInt8):List UInt8:=if k=1 then [48] else if k=2 then [49] else if k=3 then 116::An n else if k=4 then 97::An n else if k=5 then 126::p
 else if k=6 then [40]++(p++([32,43,32]++(q++[41]))) else if k=7 then [40]++(p++([32]++(q++[41]))) else p++[42]
mutual
def bY:J->List UInt8
 | ⟨k,n,ks⟩=>Y1 k n ((T6 ks).getD 0 []) ((T6 ks).getD 1 [])
def T6:List J->List (List UInt8)
 | []=>[]
 | k::ks=>bY k::T6 ks
end
def pg(z:J):∀ (xs:List J) (i:Nat),i<xs.length->(T6 xs).getD i []=bY (xs.getD i z)
 | [],i,h=>by simp at h
 | x::xs,0,h=>by simp[T6]
 | x::xs,i+1,h=>by
  have:=pg z xs i (by simpa using h);simpa [T6] using this
def b0m(x:J):bY x=Y1 x.aq x.aS ((T6 x.M).getD 0 []) ((T6 x.M).getD 1 []):=by
 cases x;rfl
def eh(x:J):Bool:=bg 9 9 x
def AY(x:J)(i:Nat):Prop:=eh (x.M.getD i zE)=true/\cd (x.M.getD i zE)<cd x
def yA(x:J)(h:eh x=true)(i:Nat)(hi:i<x.M.length):AY x i:=by
 unfold AY;simp only[eh] at h ⊢;rw[iu] at h;simp only[Bool.and_eq_true] at h;refine⟨Y8 _ _ _ _ hi h.2,?_⟩;have:=ca (zE:J) x.M i hi;have:=dk x;omega
def gA(x:J)(h:eh x=true):((x.aq=3\/x.aq=4)->0<=x.aS/\x.aS<=9) /\
  ((x.aq=5\/x.aq=8)->x.M.length=1/\AY x 0)/\((x.aq=6\/x.aq=7)->x.M.length=2/\AY x 0/\AY x 1) /\
  (x.aq=1\/x.aq=2\/x.aq=3\/x.aq=4\/x.aq=5\/x.aq=6\/x.aq=7\/x.aq=8):=by
 have hk:=yA x h;simp only[eh] at h;rw[iu,xv] at h;simp only[b4S,b4N] at h;obtain⟨⟨⟨h1,h2⟩,_⟩,_⟩:=h;refine⟨λ e=>?_,λ e=>?_,λ e=>?_,?_⟩
 .rcases e with e|e<;>simpa [JC,e] using h2
 .have h1':x.M.length=1:=by
   rcases e with e|e<;>rw[e] at h1<;>simp[cV] at h1<;>omega
  exact⟨h1',hk 0 (by omega)⟩
 .have h1':x.M.length=2:=by
   rcases e with e|e<;>rw[e] at h1<;>simp[cV] at h1<;>omega
  exact⟨h1',hk 0 (by omega),hk 1 (by omega)⟩
 .unfold cV at h1;split at h1
  .omega
  .split at h1
   .omega
   .split at h1<;>omega
def eJ(x:J)(h:eh x=true):(x.aq=1->bY x=[48])/\(x.aq=2->bY x=[49])/\(x.aq=3->bY x=116::An x.aS)/\(x.aq=4->bY x=97::An x.aS) /\
  (x.aq=5->bY x=126::bY (x.M.getD 0 zE)) /\
  (x.aq=6->bY x=[40]++(bY (x.M.getD 0 zE)++([32,43,32]++(bY (x.M.getD 1 zE)++[41])))) /\
  (x.aq=7->bY x=[40]++(bY (x.M.getD 0 zE)++([32]++(bY (x.M.getD 1 zE)++[41])))) /\
  (x.aq=8->bY x=bY (x.M.getD 0 zE)++[42]):=by
 have hf:=gA x h;rw[b0m];refine⟨λ e=>?_,λ e=>?_,λ e=>?_,λ e=>?_,λ e=>?_,λ e=>?_,λ e=>?_,λ e=>?_⟩
 .simp[Y1,e]
 .simp[Y1,e]
 .simp[Y1,e]
 .simp[Y1,e]
 .have:=(hf.2.1 (.inl e)).1;rw[pg zE x.M 0 (by omega)];simp[Y1,e]
 .have:=(hf.2.2.1 (.inl e)).1;rw[pg zE x.M 0 (by omega),pg zE x.M 1 (by omega)];simp[Y1,e]
 .have:=(hf.2.2.1 (.inr e)).1;rw[pg zE x.M 0 (by omega),pg zE x.M 1 (by omega)];simp[Y1,e]
 .have:=(hf.2.1 (.inr e)).1;rw[pg zE x.M 0 (by omega)];simp[Y1,e]
def a1G(n:Int)(h:0<=n/\n<=9):(An n).length=1:=by
 unfold An;rw[Lib.decDigits_one (by omega)];rfl
def b1e(f:J->Nat)(z:J)(xs:List J)(h:xs.length=2):aG f xs=f (xs.getD 0 z)+f (xs.getD 1 z):=by
 match xs,h with
 | [a,b],_=>simp[aG]
def b1d(f:J->Nat)(z:J)(xs:List J)(h:xs.length=1):aG f xs=f (xs.getD 0 z):=by
 match xs,h with
 | [a],_=>simp[aG]
def Ab:∀ (N:Nat) (x:J),cd x<N->eh x=true->(bY x).length<=5 * aO x
 | 0,x,h,_=>by omega
 | N+1,x,hN,h=>by
  have hf:=gA x h;have ht:=eJ x h;have hn:=zM x;rcases hf.2.2.2 with e|e|e|e|e|e|e|e
  .rw[ht.1 e];simp;omega
  .rw[ht.2.1 e];simp;omega
  .rw[ht.2.2.1 e];have:=a1G _ (hf.1 (.inl e));simp;omega
  .rw[ht.2.2.2.1 e];have:=a1G _ (hf.1 (.inr e));simp;omega
  .rw[ht.2.2.2.2.1 e];obtain⟨hl,h0⟩:=hf.2.1 (.inl e);have i0:=Ab N _ (by have:=h0.2;omega) h0.1;rw[b1d _ zE _ hl] at hn;simp only[b4Y];omega
  .rw[ht.2.2.2.2.2.1 e];obtain⟨hl,h0,h1⟩:=hf.2.2.1 (.inl e);have i0:=Ab N _ (by have:=h0.2;omega) h0.1;have i1:=Ab N _ (by have:=h1.2;omega) h1.1;rw[b1e _ zE _ hl] at hn;simp only[b5f,b4Y,b5j];omega
  .rw[ht.2.2.2.2.2.2.1 e];obtain⟨hl,h0,h1⟩:=hf.2.2.1 (.inr e);have i0:=Ab N _ (by have:=h0.2;omega) h0.1;have i1:=Ab N _ (by have:=h1.2;omega) h1.1;rw[b1e _ zE _ hl] at hn;simp only[b5f,b4Y,b5j];omega
  .rw[ht.2.2.2.2.2.2.2 e];obtain⟨hl,h0⟩:=hf.2.1 (.inr e);have i0:=Ab N _ (by have:=h0.2;omega) h0.1;rw[b1d _ zE _ hl] at hn;simp only[b5f,b4Y,b5j];omega
def a2F{w:World}{S:Nat->Prop}{x:J}{cs:List Value}(h:Rd w S x.aP cs):∃ a cap,cs=[.int .i64 x.aq, .int .i64 x.aS, .slice a x.M.length cap] /\
  (x.M=[]\/∃ b o,a=some ⟨b,o,none⟩/\S b/\dw w S (x.M.map J.aP) b o):=by
 cases x with
 | mk k n ks =>
  simp only[J.aP,Rd,dq] at h;obtain⟨v0,r0,rfl,⟨h0,_⟩,v1,r1,rfl,⟨h1,_⟩,v2,r2,rfl,⟨a,cap,h2,_,_,_,h3⟩,rfl⟩:=h;simp only[b4X,b5d] at h0 h1 h2;subst h0 h1 h2;rw[J.uw] at *
  refine⟨a,cap,by simp,h3.imp (λ h=>by simpa using h) id⟩
def b0b{w:World}{S:Nat->Prop}{x:J}{b o:Nat}(h:dw w S (x.M.map J.aP) b o)(i:Nat)(hi:i<x.M.length) :
  ∃ c0 c1 c2,Rd w S (x.M.getD i zE).aP [c0,c1,c2]/\cf w b (o+3 * i) [c0,c1,c2]:=by
 obtain⟨cs,h1,h2,h3⟩:=dw.at_ (n:=3) _ b o h (λ d hd=>by
  obtain⟨y,_,rfl⟩:=b4W.1 hd;cases y;rfl) i (x.M.getD i zE).aP (by simp[b6D,b5b,b5p hi])
 match cs,h1 with
 | [c0,c1,c2],_=>exact⟨c0,c1,c2,h2,by rw[Nat.mul_comm];exact h3⟩
def Mn(B b:Nat)(S:Nat->Prop)(hS:∀ k,S k->k<B):∀ (N:Nat) (x:J),cd x<N->eh x=true->∀ (l:List UInt8) (w:World) (cs:List Value),xa B b l w->B<=w.heap.size ->
  l.length+(bY x).length<=140737488355328->Rd w S x.aP cs->Kv B b (.agg cs.toArray) l (bY x) w
 | 0,x,h,_=>by omega
 | N+1,x,hN,h=>by
  intro l w cs hI hB hl hr;have hf:=gA x h;have ht:=eJ x h;obtain⟨a,cap,rfl,hk⟩:=a2F hr;have Li:∀ i,i<x.M.length->AY x i->∃ kb ko c0 c1 c2,a=some ⟨kb,ko,none⟩/\(∀ j,j≠i->True)/\(∀ w1,Below B w w1->∀ j v,[c0,c1,c2][j]?=some v->w1.cell? ⟨kb,ko+3 * i+j,none⟩=some v) /\
    (∀ w1 l1,Below B w w1->xa B b l1 w1->B<=w1.heap.size->l1.length+(bY (x.M.getD i zE)).length<=140737488355328->Kv B b (.agg #[c0,c1,c2]) l1 (bY (x.M.getD i zE)) w1):=by
   intro i hi hg;rcases hk with hk|⟨kb,ko,rfl,hSk,eG⟩
   .rw[hk] at hi;simp at hi
   .obtain⟨c0,c1,c2,h1,h2⟩:=b0b eG i hi;refine⟨kb,ko,c0,c1,c2,rfl,λ _ _=>trivial,λ w1 hw j v hj=>?_,λ w1 l1 hw hI1 hB1 hl1=>?_⟩
    .exact h2.aR (hw.block kb (hS kb hSk)) j v hj
    .exact Mn B b S hS N _ (by have:=hg.2;omega) hg.1 l1 w1 [c0,c1,c2] hI1 hB1 hl1 (h1.aR (λ _ h=>h) (λ k hk=>hw.block k (hS k hk)))
  rcases hf.2.2.2 with e|e|e|e|e|e|e|e
  .rw[ht.1 e] at hl ⊢;rw[e];exact we1 B b l _ _ w hI hl hB
  .rw[ht.2.1 e] at hl ⊢;rw[e];exact we2 B b l _ _ w hI hl hB
  .have hn:=hf.1 (.inl e);rw[ht.2.2.1 e] at hl ⊢;rw[e,show x.aS=((x.aS.toNat:Nat):Int) by omega];exact we3 B b l _ (by omega) _ w hI (by simpa [An] using hl) hB
  .have hn:=hf.1 (.inr e);rw[ht.2.2.2.1 e] at hl ⊢;rw[e,show x.aS=((x.aS.toNat:Nat):Int) by omega];exact we4 B b l _ (by omega) _ w hI (by simpa [An] using hl) hB
  .obtain⟨hn,h0⟩:=hf.2.1 (.inl e);obtain⟨kb,ko,c0,c1,c2,rfl,_,q1,q2⟩:=Li 0 (by omega) h0;rw[ht.2.2.2.2.1 e] at hl ⊢;rw[e,hn];exact we5 B b l _ _ kb ko cap c0 c1 c2 w hI (by simpa using hl) hB q1 q2
  .obtain⟨hn,h0,h1⟩:=hf.2.2.1 (.inl e);obtain⟨kb,ko,c0,c1,c2,rfl,_,q1,q2⟩:=Li 0 (by omega) h0;obtain⟨kb',ko',d0,d1,d2,eq,_,p1,p2⟩:=Li 1 (by omega) h1;cases eq;rw[ht.2.2.2.2.2.1 e] at hl ⊢;rw[e,hn];exact we6 B b l _ _ _ kb ko cap c0 c1 c2 d0 d1 d2 w hI (by simp at hl ⊢;omega) hB q1 q2 p1 p2
  .obtain⟨hn,h0,h1⟩:=hf.2.2.1 (.inr e);obtain⟨kb,ko,c0,c1,c2,rfl,_,q1,q2⟩:=Li 0 (by omega) h0;obtain⟨kb',ko',d0,d1,d2,eq,_,p1,p2⟩:=Li 1 (by omega) h1;cases eq;rw[ht.2.2.2.2.2.2.1 e] at hl ⊢;rw[e,hn];exact we7 B b l _ _ _ kb ko cap c0 c1 c2 d0 d1 d2 w hI (by simp at hl ⊢;omega) hB q1 q2 p1 p2
  .obtain⟨hn,h0⟩:=hf.2.1 (.inr e);obtain⟨kb,ko,c0,c1,c2,rfl,_,q1,q2⟩:=Li 0 (by omega) h0;rw[ht.2.2.2.2.2.2.2 e] at hl ⊢;rw[e,hn];exact we8 B b l _ _ kb ko cap c0 c1 c2 w hI (by simpa using hl) hB q1 q2
def I2:aN:=⟨Jr,[.v (.st .expr)],λ (x:J)=>⟨(some (eh x=true/\(bY x).length<=1000000),[⟨.str,bY x⟩])⟩⟩
set_option maxRecDepth 100000 in
def a1e(x:J)(w:World)(S:Nat->Prop)(hS:∀ b,S b->b<w.heap.size)(hg:eh x=true)(hl:(bY x).length<=1000000)(cs:List Value)(hr:Rd w S x.aP cs) :
  Calls Tryz.prog 150 #[.agg cs.toArray] w λ e w'=>e = .returned (.string ⟨(bY x).toArray⟩)/\Below w.heap.size w w':=by
 obtain⟨a,cap,rfl,hk⟩:=a2F hr;have hI:∀ o:Obj,xa (w.heap.size+1) (w.heap.size+1) [] ((w.alloc o).alloc (.cells #[.pointer none, .slice none 0 0] 196)):=λ o=>by
  have:=Lib.fresh_isBuilder 196 5 (w.alloc o);rw[show (w.alloc o).heap.size=w.heap.size+1 by simp] at this;exact this
 have hB:∀ o p:Obj,w.heap.size+1<=((w.alloc o).alloc p).heap.size:=λ o p=>by simp
 have hw:∀ o p:Obj,Below w.heap.size w ((w.alloc o).alloc p):=λ o p=>((Below.refl _ w).alloc (Nat.le_refl _) o).alloc (by simp) p;go_enter Tryz.func150,Tryz.ntmps150;go_wp2_with (go_at_call 156;refine (Mn (w.heap.size+1) (w.heap.size+1) S (λ k hk=>Nat.lt_succ_of_lt (hS k hk)) (cd x+1) x (Nat.lt_succ_self _) hg [] _ _ (hI _) (hB _ _) (by simp;omega) (hr.aR (λ _ h=>h) (λ k hk=>(hw _ _).block k (hS k hk)))).mono ?_);rintro e w1 ⟨he,h1⟩;subst he;have b1:Below w.heap.size w w1:=(hw _ _).trans (h1.nG.mono (Nat.le_succ _));have g1:xa (w.heap.size+1) (w.heap.size+1) (bY x) w1:=by simpa using h1.Sa
 have z1:w.heap.size+1<=w1.heap.size:=b6x (hB _ _) h1.nG.size;clear h1;go_wp2_with (go_at_call 157;refine (Tryz.Builder_String_any (w.heap.size+1) (w.heap.size+1) (bY x) w1 g1 z1).mono ?_);rintro e w2 ⟨he,h2⟩;subst he;go_wp2;go_ret;exact⟨rfl,b1.trans (h2.mono (b8U _))⟩
def a0j{w w':World}(h:Below w.heap.size w w'):bD (λ _=>False) w w':=⟨h.os,h.tape,h.output,h.size,λ b hb _=>h.block b hb⟩
def b0c{w:World}{S:Nat->Prop}(l:List UInt8)(h:l.length<=140737488355328):dV w S ⟨.str,l⟩ (.string ⟨l.toArray⟩) :=
 ⟨⟨l.toArray⟩,rfl,by simp,by simpa [ByteArray.size] using h⟩
def PU:aN.Good I2:=by
 refine⟨ar T8 rfl (by decide),?_⟩;intro x hp w S b9 ⟨hS,_⟩ ha;match b9,ha with
 | [v],ha =>
  obtain⟨⟨cs,rfl,hr⟩,_⟩:=ha;refine (a1e x w S hS hp.1 hp.2 cs hr).mono ?_;rintro e w' ⟨rfl,hb⟩;exact⟨_,S,_,rfl,rfl,a0j hb,λ _ _=>b6P,λ b h=>b5i (hS b h) hb.size,b0c (w:=w') (S:=S) _ (by have:=hp.2;omega)⟩
def tk(x:J)(i:Nat):J:=x.M.getD i zE
structure TK(x:J)(i:Nat):Prop where
 b4G:eh (x.M.getD i zE)=true
 less:cd (x.M.getD i zE)<cd x
 len:(bY (x.M.getD i zE)).length<=(bY x).length
end
end Go.Proofs.YtmjfpcajohhbeaaGreatDoor

namespace Go.Proofs.YtmjfpcajohhbeaaGreatDoor
noncomputable section
def a6p(s:List UInt8)(h:nC 9 s=true)(h9:gG s<=9):nC 1 s=true:=by
 rw[Eu] at h ⊢;simp only[b4S,b4N,b5a,b7g,b4M] at h ⊢;obtain⟨⟨⟨h1,h2⟩,h3⟩,h4⟩:=h;refine⟨⟨⟨h1,?_⟩,h3⟩,h4⟩;rcases b5Q 1 s.length with hl|hl
 .exfalso;match s,hl,h3,h4,h9 with
  | a::b::r,_,h3,h4,h9 =>
   have ha:fB a=true:=by simp[bu] at h4;exact h4.1
   have ha':=ha;simp only[fB,b4S,b4N] at ha;have h3':a.toNat≠48:=by rcases h3 with h3|h3<;>simp at h3<;>omega
   have key:∀ (r:List UInt8) (n:Int),1<=n->bu fB r=true->n<=r.foldl (λ n b=>n * 10+((b.toNat:Int) - 48)) n:=by
    intro r;induction r with
    | nil=>intro n _ _;exact b8V _
    | cons c r ih =>
     intro n hn hr;simp only[bu,b4S] at hr;have hc:=hr.1;simp only[fB,b4S,b4N] at hc;have:=ih (n * 10+((c.toNat:Int) - 48)) (by omega) hr.2;simp only[b6X];omega
   simp only[bu,b4S] at h4;have hb:=h4.2.1;simp only[fB,b4S,b4N] at hb;have:=key r (((0 * 10+((a.toNat:Int) - 48)) * 10)+((b.toNat:Int) - 48)) (by omega) h4.2.2;simp only[gG,b6X] at h9;omega
 .omega
def X9{α:Type}(f:α->Nat):∀ (xs ys:List α),aG f (xs++ys)=aG f xs+aG f ys
 | [],ys=>by simp[aG]
 | x::xs,ys=>by simp only[b6g,aG,X9 f xs ys];omega
def xr{α:Type}(f:α->Bool):∀ (xs:List α),bu f xs=true->∀ x∈xs,f x=true
 | x::xs,h,y,hy=>by
  simp only[bu,b4S] at h;rcases b5h.1 hy with e|e
  .rw[e];exact h.1
  .exact xr f xs h.2 y e
abbrev zX:J:=J.mk (0:Int) (0:Int) []
def cO(t:List UInt8)(a:Nat)(s:List UInt8):Bool:=decide (s.length<=(t.drop a).length)&&decide ((t.drop a).take s.length=s)
def mA{t:List UInt8}{a:Nat}{s r:List UInt8}(h:t.drop a=s++r):cO t a s=true:=by
 unfold cO;rw[h];simp
def Ri(t:List UInt8)(a:Nat)(s:List UInt8):cO t a s=true↔∃ r,t.drop a=s++r:=by
 constructor
 .intro h;simp only[cO,b4S,b4N] at h;refine⟨(t.drop a).drop s.length,?_⟩;conv=>rhs;lhs;rw[<-h.2]
  rw[b6d]
 .rintro⟨r,h⟩;exact mA h
def lK{t:List UInt8}{a:Nat}{b c:UInt8}{r:List UInt8}(h:t.drop a=b::r)(hn:b≠c)(s:List UInt8):cO t a (c::s)=false:=by
 cases e:cO t a (c::s) with
 | false=>rfl
 | true =>
  obtain⟨r',h'⟩:=(Ri _ _ _).1 e;rw[h] at h';simp only[b6g,b4X] at h';exact absurd h'.1 hn
def cJ(c:UInt8):List UInt8->Nat
 | []=>0
 | b::l=>if b=c then cJ c l+1 else 0
def noB(c:UInt8)(r:List UInt8):Prop:=∀ b l,r=b::l->b≠c
def Pu(c:UInt8)(r:List UInt8)(h:noB c r):∀ n,cJ c (List.replicate n c++r)=n
 | 0=>by
  cases r with
  | nil=>rfl
  | cons b l=>simp[cJ,h b l rfl]
 | n+1=>by simp[b6Q,cJ,Pu c r h n]
def cv{t w r:List UInt8}{a:Nat}(h:t.drop a=w++r):t.drop (a+w.length)=r:=by
 rw[<-b6C,h];simp
structure RI where
 e:J
 ok:Bool
 a:Nat
def cr(k:Int):Nat->J->J
 | 0,e=>e
 | n+1,e=>cr k n (J.mk k 0 [e])
def dP(k:Int):∀ (n:Nat) (e:J),cr k (n+1) e=J.mk k 0 [cr k n e]
 | 0,e=>rfl
 | n+1,e=>by
  show cr k (n+1) (J.mk k 0 [e])=_;rw[dP k n (J.mk k 0 [e])];rfl
def jv(core:Nat->RI)(t:List UInt8)(a:Nat):RI :=
 if 40<cJ 126 (t.drop a) then ⟨zX,false,a+cJ 126 (t.drop a)⟩ else
 if 41<cJ 42 (t.drop (core (a+cJ 126 (t.drop a))).a) then ⟨zX,false,(core (a+cJ 126 (t.drop a))).a+42⟩ else
 ⟨cr 8 (cJ 42 (t.drop (core (a+cJ 126 (t.drop a))).a)) (cr 5 (cJ 126 (t.drop a)) (core (a+cJ 126 (t.drop a))).e),(core (a+cJ 126 (t.drop a))).ok,(core (a+cJ 126 (t.drop a))).a+cJ 42 (t.drop (core (a+cJ 126 (t.drop a))).a)⟩
def jh(t:List UInt8)(a:Nat):Bool:=decide (a<t.length)&&decide (48<=(t.getD a 0).toNat)&&decide ((t.getD a 0).toNat<=57)
def sF(k:Int)(t:List UInt8)(a:Nat):RI:=bif jh t a then ⟨J.mk k (((t.getD a 0).toNat:Int) - 48) [],true,a+1⟩ else ⟨J.mk k 0 [],false,a⟩
def qZ(k:Int)(t:List UInt8)(x y:RI):RI:=bif x.ok&&y.ok&&cO t y.a [41] then ⟨J.mk k 0 [x.e,y.e],true,y.a+1⟩ else ⟨J.mk k 0 [x.e,y.e],false,y.a⟩
def dD(t:List UInt8):Nat->Nat->RI
 | 0,a=>⟨zX,false,a⟩
 | d+1,a=>if cO t a [48]=true then ⟨J.mk 1 0 [],true,a+1⟩ else if cO t a [49]=true then ⟨J.mk 2 0 [],true,a+1⟩ else
  if cO t a [116]=true then sF 3 t (a+1) else if cO t a [97]=true then sF 4 t (a+1) else if cO t a [40]=false then ⟨zX,false,a⟩ else
  if cO t (jv (dD t d) t (a+1)).a [32,43,32]=true then qZ 6 t (jv (dD t d) t (a+1)) (jv (dD t d) t ((jv (dD t d) t (a+1)).a+3)) else
  if cO t (jv (dD t d) t (a+1)).a [32]=true then qZ 7 t (jv (dD t d) t (a+1)) (jv (dD t d) t ((jv (dD t d) t (a+1)).a+1)) else
  ⟨zX,false,(jv (dD t d) t (a+1)).a⟩
def RP(k:Int):Prop:=k=1\/k=2\/k=3\/k=4\/k=6\/k=7
def kX(x:J)(h:eh x=true)(e:¬ x.aq=3)(e':¬ x.aq=4):x.aS=0:=by
 simp only[eh] at h;rw[iu,xv] at h;simp only[Bool.and_eq_true,decide_eq_true_eq] at h;have:=h.1.1.2;rw[JC,if_neg e,if_neg e'] at this;simpa using this
def oT(x:J)(h:eh x=true)(e:x.aq=1\/x.aq=2\/x.aq=3\/x.aq=4):x.M=[]:=by
 simp only[eh] at h;rw[iu,xv] at h;simp only[b4S,b4N] at h;have h1:=h.1.1.1;have:x.M.length=0:=by rcases e with e|e|e|e<;>rw[e] at h1<;>simp[cV] at h1<;>omega
 exact b5U this
def a6d(x:J)(h:eh x=true)(e:x.aq=5):bq (x.M.getD 0 zE)=true:=by
 simp only[eh] at h;rw[iu,xv] at h;simp only[Bool.and_eq_true,decide_eq_true_eq] at h;have:=h.1.2;simpa [e] using this
def QV(x:J)(h:x.M.length=1):x.M=[x.M.getD 0 zE]:=by
 cases x with
 | mk k n ks =>
  match ks,h with
  | [a],_=>rfl
def Ku(x:J)(h:x.M.length=2):x.M=[x.M.getD 0 zE,x.M.getD 1 zE]:=by
 cases x with
 | mk k n ks =>
  match ks,h with
  | [a,b],_=>rfl
def gM(x:J)(k n:Int)(ks:List J)(h1:x.aq=k)(h2:x.aS=n)(h3:x.M=ks):x=J.mk k n ks:=by
 cases x;simp at h1 h2 h3;simp[h1,h2,h3]
def XS:∀ (N:Nat) (x:J),cd x<N->eh x=true->∃ m n c,x=cr 8 m (cr 5 n c)/\eh c=true/\RP c.aq/\cd c<=cd x/\bM c+m+n=bM x /\
  bY x=List.replicate n 126++(bY c++List.replicate m 42)
 | 0,x,h,_=>by omega
 | N+1,x,hN,h=>by
  have hf:=gA x h;have ht:=eJ x h;by_cases h8:x.aq=8
  .obtain⟨hl,hk⟩:=hf.2.1 (.inr h8);obtain⟨m,n,c,e1,e2,e3,e4,e5,e6⟩:=XS N _ (by have:=hk.2;omega) hk.1;have hx:x=J.mk 8 0 [x.M.getD 0 zE]:=gM x 8 0 _ h8 (kX x h (by omega) (by omega)) (QV x hl);refine⟨m+1,n,c,?_,e2,e3,by have:=hk.2;omega,?_,?_⟩
   .rw[dP,<-e1];exact hx
   .rw[gU x,QV x hl];simp only[iL];omega
   .rw[ht.2.2.2.2.2.2.2 h8,e6,b7x];simp
  .by_cases h5:x.aq=5
   .obtain⟨hl,hk⟩:=hf.2.1 (.inl h5);obtain⟨m,n,c,e1,e2,e3,e4,e5,e6⟩:=XS N _ (by have:=hk.2;omega) hk.1;have hx:x=J.mk 5 0 [x.M.getD 0 zE]:=gM x 5 0 _ h5 (kX x h (by omega) (by omega)) (QV x hl);have hm:m=0:=by
     cases m with
     | zero=>rfl
     | succ m =>
      have hc:=a6d x h h5;rw[e1,dP,RM] at hc;simp[MW] at hc
    subst hm;refine⟨0,n+1,c,?_,e2,e3,by have:=hk.2;omega,?_,?_⟩
    .show x=cr 5 (n+1) c;rw[dP];have e1':x.M.getD 0 zE=cr 5 n c:=e1;rw[<-e1'];exact hx
    .rw[gU x,QV x hl];simp only[iL];omega
    .rw[ht.2.2.2.2.1 h5,e6,b6Q];simp
   .exact⟨0,0,x,rfl,h,by have:=hf.2.2.2;unfold RP;omega,Nat.le_refl _,by omega,by simp⟩
def MX{t:List UInt8}{a:Nat}{b:UInt8}{r:List UInt8}(h:t.drop a=b::r):a<t.length/\t.getD a 0=b:=by
 have hl:a<t.length:=by
  rcases b5Q a t.length with g|g
  .exact g
  .rw[b7d g] at h;cases h
 refine⟨hl,?_⟩;rw[b6E hl] at h;simp only[b4X] at h;rw[b5b,b5p hl,<-h.1];rfl
def Tx(c:J)(h:eh c=true)(hk:RP c.aq):∃ b l,bY c=b::l/\b≠126/\b≠43:=by
 have ht:=eJ c h;rcases hk with e|e|e|e|e|e
 .exact⟨_,_,ht.1 e,by decide,by decide⟩
 .exact⟨_,_,ht.2.1 e,by decide,by decide⟩
 .exact⟨_,_,ht.2.2.1 e,by decide,by decide⟩
 .exact⟨_,_,ht.2.2.2.1 e,by decide,by decide⟩
 .exact⟨_,_,ht.2.2.2.2.2.1 e,by decide,by decide⟩
 .exact⟨_,_,ht.2.2.2.2.2.2.1 e,by decide,by decide⟩
def Wh(x:J)(h:eh x=true):∃ b l,bY x=b::l/\b≠43:=by
 obtain⟨m,n,c,_,h2,h3,_,_,h6⟩:=XS (cd x+1) x (b5C _) h;obtain⟨b,l,g1,_,g3⟩:=Tx c h2 h3;cases n with
 | zero=>exact⟨b,_,by rw[h6,g1];rfl,g3⟩
 | succ n=>exact⟨126,_,by rw[h6,b6Q];rfl,by decide⟩
def Zo(core:Nat->RI)(t:List UInt8)(a:Nat)(r:List UInt8)(x c:J)(m n:Nat)(hx:x=cr 8 m (cr 5 n c))(hc:eh c=true)(hk:RP c.aq)
  (htx:bY x=List.replicate n 126++(bY c++List.replicate m 42)) (hm:m<=40) (hn:n<=40) (hr:noB 42 r) (hd:t.drop a=bY x++r)
  (b1H:∀ r',t.drop (a+n)=bY c++r'->core (a+n)=⟨c,true,a+n+(bY c).length⟩):jv core t a=⟨x,true,a+(bY x).length⟩:=by
 obtain⟨b,l,g1,g2,_⟩:=Tx c hc hk;have hd1:t.drop a=List.replicate n 126++(bY c++(List.replicate m 42++r)):=by rw[hd,htx];simp
 have hd2:t.drop (a+n)=bY c++(List.replicate m 42++r):=by
  have:=cv hd1;simpa using this
 have hd3:=cv hd2;have WE:cJ 126 (t.drop a)=n:=by
  rw[hd1];refine Pu 126 _ ?_ n;intro b' l' e;rw[g1] at e;simp only[b6g,b4X] at e;rw[<-e.1];exact g2
 have hm1:cJ 42 (t.drop (a+n+(bY c).length))=m:=by rw[hd3];exact Pu 42 r hr m
 have hcr:=b1H _ hd2;unfold jv;rw[WE,hcr];simp only[hm1];rw[if_neg (by omega),if_neg (by omega),<-hx];have:(bY x).length=n+((bY c).length+m):=by rw[htx];simp
 simp only[RI.mk.injEq,b5M];omega
def Zj:∀ (N:Nat) (c:J),cd c<N->eh c=true->RP c.aq->∀ (t:List UInt8) (d a:Nat) (r:List UInt8),bM c<=d->bM c<=40->t.drop a=bY c++r->dD t d a=⟨c,true,a+(bY c).length⟩
 | 0,c,h,_,_=>by omega
 | N+1,c,hN,h,hk=>by
  intro t d a r hd h40 ht;have hf:=gA c h;have hx:=eJ c h;have hdp:=gU c;obtain⟨d,rfl⟩:∃ d',d=d'+1:=⟨d - 1,by omega⟩;have Li:∀ i,i<c.M.length->AY c i->∀ (a:Nat) (r:List UInt8),noB 42 r->t.drop a=bY (c.M.getD i zE)++r ->
    jv (dD t d) t a=⟨c.M.getD i zE,true,a+(bY (c.M.getD i zE)).length⟩:=by
   intro i hi hg a r hr hda;obtain⟨m,n,c',e1,e2,e3,e4,e5,e6⟩:=XS _ _ (b5C _) hg.1;have hdk:=sG bM zE c.M i hi;exact Zo (dD t d) t a r _ c' m n e1 e2 e3 e6 (by omega) (by omega) hr hda (λ r' NI=>Zj N c' (by have:=hg.2;omega) e2 e3 t d (a+n) r' (by omega) (by omega) NI)
  rcases hk with e|e|e|e|e|e
  .rw[hx.1 e] at ht ⊢;have hc:=gM c 1 0 [] e (kX c h (by omega) (by omega)) (oT c h (by omega));rw[dD,b5u (mA (s:=[48]) ht),<-hc];rfl
  .rw[hx.2.1 e] at ht ⊢;have hc:=gM c 2 0 [] e (kX c h (by omega) (by omega)) (oT c h (by omega));rw[dD,b4Z (by rw[lK (b:=49) ht (by decide)];decide),b5u (mA (s:=[49]) ht),<-hc];rfl
  .have hn:=hf.1 (.inl e);have hg:An c.aS=[UInt8.ofNat (48+c.aS.toNat)]:=by unfold An;rw[Lib.decDigits_one (by omega)]
   rw[hx.2.2.1 e,hg] at ht ⊢;have h2:t.drop (a+1)=UInt8.ofNat (48+c.aS.toNat)::r:=cv (w:=[116]) ht;obtain⟨g1,g2⟩:=MX h2;have hb:(UInt8.ofNat (48+c.aS.toNat)).toNat=48+c.aS.toNat:=by rw[b8f];omega
   rw[dD,if_neg (by rw[lK (b:=116) ht (by decide)];decide),if_neg (by rw[lK (b:=116) ht (by decide)];decide),if_pos (mA (s:=[116]) ht)];have hdb:jh t (a+1)=true:=by unfold jh;rw[g2,hb,decide_eq_true g1,decide_eq_true (by omega),decide_eq_true (by omega)];rfl
   unfold sF;rw[hdb,g2,hb];have hc:=gM c 3 c.aS [] e rfl (oT c h (by omega));rw[show (((48+c.aS.toNat:Nat):Int) - 48)=c.aS by omega,<-hc];rfl
  .have hn:=hf.1 (.inr e);have hg:An c.aS=[UInt8.ofNat (48+c.aS.toNat)]:=by unfold An;rw[Lib.decDigits_one (by omega)]
   rw[hx.2.2.2.1 e,hg] at ht ⊢;have h2:t.drop (a+1)=UInt8.ofNat (48+c.aS.toNat)::r:=cv (w:=[97]) ht;obtain⟨g1,g2⟩:=MX h2;have hb:(UInt8.ofNat (48+c.aS.toNat)).toNat=48+c.aS.toNat:=by rw[b8f];omega
   rw[dD,if_neg (by rw[lK (b:=97) ht (by decide)];decide),if_neg (by rw[lK (b:=97) ht (by decide)];decide),if_neg (by rw[lK (b:=97) ht (by decide)];decide),if_pos (mA (s:=[97]) ht)];have hdb:jh t (a+1)=true:=by unfold jh;rw[g2,hb,decide_eq_true g1,decide_eq_true (by omega),decide_eq_true (by omega)];rfl
   unfold sF;rw[hdb,g2,hb];have hc:=gM c 4 c.aS [] e rfl (oT c h (by omega));rw[show (((48+c.aS.toNat:Nat):Int) - 48)=c.aS by omega,<-hc];rfl
  .obtain⟨hl,k0,k1⟩:=hf.2.2.1 (.inl e);have hc:=gM c 6 0 _ e (kX c h (by omega) (by omega)) (Ku c hl);rw[hx.2.2.2.2.2.1 e] at ht ⊢;have p0:t.drop a=40::(bY (c.M.getD 0 zE)++([32,43,32]++(bY (c.M.getD 1 zE)++([41]++r)))):=by rw[ht];simp
   have p1:t.drop (a+1)=bY (c.M.getD 0 zE)++([32,43,32]++(bY (c.M.getD 1 zE)++([41]++r))):=cv (w:=[40]) p0;have q1:=Li 0 (by omega) k0 (a+1) _ (λ b l g=>by simp at g;rw[<-g.1];decide) p1;have p2:=cv p1;have p3:=cv p2;have q2:=Li 1 (by omega) k1 _ _ (λ b l g=>by simp at g;rw[<-g.1];decide) p3;have p4:=cv p3;rw[dD,b4Z (by rw[lK p0 (by decide)];decide),b4Z (by rw[lK p0 (by decide)];decide),b4Z (by rw[lK p0 (by decide)];decide),b4Z (by rw[lK p0 (by decide)];decide),
    b4Z (by rw[mA (s:=[40]) p0];decide)]
   rw[q1];simp only;rw[if_pos (mA p2)];have q2':jv (dD t d) t (a+1+(bY (c.M.getD 0 zE)).length+3)=_:=q2;rw[q2'];unfold qZ;simp only;rw[show cO t _ [41]=true from mA (s:=[41]) p4];simp only[Bool.and_self,cond_true,RI.mk.injEq,true_and,<-hc];simp only[List.length_append,List.length_cons,List.length_nil];omega
  .obtain⟨hl,k0,k1⟩:=hf.2.2.1 (.inr e);have hc:=gM c 7 0 _ e (kX c h (by omega) (by omega)) (Ku c hl);rw[hx.2.2.2.2.2.2.1 e] at ht ⊢;have p0:t.drop a=40::(bY (c.M.getD 0 zE)++([32]++(bY (c.M.getD 1 zE)++([41]++r)))):=by rw[ht];simp
   have p1:t.drop (a+1)=bY (c.M.getD 0 zE)++([32]++(bY (c.M.getD 1 zE)++([41]++r))):=cv (w:=[40]) p0;have q1:=Li 0 (by omega) k0 (a+1) _ (λ b l g=>by simp at g;rw[<-g.1];decide) p1;have p2:=cv p1;have p3:=cv p2;have q2:=Li 1 (by omega) k1 _ _ (λ b l g=>by simp at g;rw[<-g.1];decide) p3;have p4:=cv p3;have fM:cO t (a+[40].length+(bY (c.M.getD 0 zE)).length) [32,43,32]=false:=by
    cases hb:cO t (a+[40].length+(bY (c.M.getD 0 zE)).length) [32,43,32] with
    | false=>rfl
    | true =>
     obtain⟨r',h'⟩:=(Ri _ _ _).1 hb;obtain⟨b,l,f1,f2⟩:=Wh _ k1.1;have p2':=p2;rw[f1] at p2';have h3:=p2'.symm.trans h';simp only[b6g,b5q,b4X,b5M] at h3;exact absurd h3.1 f2
   rw[dD,b4Z (by rw[lK p0 (by decide)];decide),b4Z (by rw[lK p0 (by decide)];decide),b4Z (by rw[lK p0 (by decide)];decide),b4Z (by rw[lK p0 (by decide)];decide),
    b4Z (by rw[mA (s:=[40]) p0];decide)]
   rw[q1];simp only;rw[if_neg (by rw[show cO t (a+1+(bY (c.M.getD 0 zE)).length) [32,43,32]=false from fM];decide),if_pos (mA p2)];have q2':jv (dD t d) t (a+1+(bY (c.M.getD 0 zE)).length+1)=_:=q2;rw[q2'];unfold qZ;simp only;rw[show cO t _ [41]=true from mA (s:=[41]) p4];simp only[Bool.and_self,cond_true,RI.mk.injEq,true_and,<-hc];simp only[List.length_append,List.length_cons,List.length_nil];omega
def a5W(x:J)(h:eh x=true)(h40:bM x<=40):jv (dD (bY x) 41) (bY x) 0=⟨x,true,(bY x).length⟩:=by
 obtain⟨m,n,c,e1,e2,e3,e4,e5,e6⟩:=XS _ _ (Nat.lt_succ_self _) h;have:=Zo (dD (bY x) 41) (bY x) 0 [] x c m n e1 e2 e3 e6 (by omega) (by omega) (λ b l g=>by cases g) (by simp) (λ r' NI=>Zj _ c (Nat.lt_succ_self _) e2 e3 (bY x) 41 (0+n) r' (by omega) (by omega) NI);simpa using this
def cm(t:List UInt8)(a:Nat):Int:=if a<t.length then ((t.getD a 0).toNat:Int) else 0
structure RS where
 e:J
 a:Nat
 dp:Nat
 bad:Bool
def n6:List UInt8->Nat
 | []=>0
 | b::l=>if fB b=true then n6 l+1 else 0
def XF(t:List UInt8)(a:Nat):List UInt8:=(t.drop (a+1)).take (n6 (t.drop (a+1)))
def o6(t:List UInt8)(a dp:Nat):RS:=⟨J.mk (if cm t a=97 then 4 else 3) (kP 9 (XF t a)) [],a+1+n6 (t.drop (a+1)),dp,!nC 9 (XF t a)⟩
def dH(t:List UInt8)(a:Nat)(c:Int):Nat:=if cm t a=c then a+1 else a
def fK(t:List UInt8)(a:Nat)(c:Int)(bad:Bool):Bool:=if cm t a=c then bad else true
def CC(t:List UInt8)(r:RS):RS:=if r.bad=true then ⟨r.e,r.a,r.dp - 1,true⟩ else ⟨cr 8 (cJ 42 (t.drop r.a)) r.e,r.a+cJ 42 (t.drop r.a),r.dp - 1,false⟩
def dX(inner:Nat->Nat->RS)(t:List UInt8)(a dp:Nat)(bad:Bool):RS:=if bad=true\/100<dp+1 then ⟨zX,a,dp+1,true⟩ else CC t (inner a (dp+1))
def Cz(inner:Nat->Nat->RS)(t:List UInt8)(x:RS)(k:Int)(a:Nat)(bad:Bool):RS :=
 ⟨J.mk k 0 [x.e,(dX inner t a x.dp bad).e],dH t (dX inner t a x.dp bad).a 41,(dX inner t a x.dp bad).dp,fK t (dX inner t a x.dp bad).a 41 (dX inner t a x.dp bad).bad⟩
def vZ(inner:Nat->Nat->RS)(t:List UInt8)(x:RS):RS :=
 if cm t (dH t x.a 32)=43 then Cz inner t x 6 (dH t (dH t x.a 32+1) 32) (fK t (dH t x.a 32+1) 32 (fK t x.a 32 x.bad)) else Cz inner t x 7 (dH t x.a 32) (fK t x.a 32 x.bad)
def cD(t:List UInt8):Nat->Nat->Nat->RS
 | g,a,dp=>if cm t a=48 then ⟨J.mk 1 0 [],a+1,dp,false⟩ else if cm t a=49 then ⟨J.mk 2 0 [],a+1,dp,false⟩ else
  if cm t a=116\/cm t a=97 then o6 t a dp else
  if cm t a=126 then (match g with
   | 0=>⟨zX,a+1,dp+1,true⟩
   | g+1=>⟨J.mk 5 0 [(cD t g (a+1) (dp+1)).e],(cD t g (a+1) (dp+1)).a,(cD t g (a+1) (dp+1)).dp - 1,(cD t g (a+1) (dp+1)).bad⟩) else
  if cm t a=40 then (match g with
   | 0=>vZ (λ _ _=>⟨zX,0,0,true⟩) t (dX (λ _ _=>⟨zX,0,0,true⟩) t (a+1) dp false)
   | g+1=>vZ (cD t g) t (dX (cD t g) t (a+1) dp false)) else ⟨zX,a,dp,true⟩
def gb{t:List UInt8}{a:Nat}{b:UInt8}{r:List UInt8}(h:t.drop a=b::r):cm t a=(b.toNat:Int):=by
 obtain⟨h1,h2⟩:=MX h;unfold cm;rw[if_pos h1,h2]
def um(t:List UInt8)(a:Nat)(c:UInt8)(hc:c≠0)(h:cm t a=(c.toNat:Int)):∃ r,t.drop a=c::r:=by
 unfold cm at h;split at h
 .rename_i hl;refine⟨t.drop (a+1),?_⟩;rw[List.drop_eq_getElem_cons hl];rw[List.getD_eq_getElem?_getD,List.getElem?_eq_getElem hl] at h;have:t[a]=c:=UInt8.toNat_inj.1 (by simpa using Int.ofNat_inj.1 h);rw[this]
 .exfalso;have:c.toNat=0:=by omega
  exact hc (UInt8.toNat_inj.1 this)
def a1f(t:List UInt8)(a:Nat)(c:UInt8)(hc:c≠0)(bad:Bool)(h:fK t a (c.toNat:Int) bad=false):bad=false/\dH t a (c.toNat:Int)=a+1/\∃ r,t.drop a=c::r:=by
 unfold fK at h;unfold dH;split at h
 .rename_i e;rw[b5u e];exact⟨h,rfl,um t a c hc e⟩
 .cases h
def th{t:List UInt8}{a:Nat}{c:UInt8}{r:List UInt8}(h:t.drop a=c::r)(bad:Bool):dH t a (c.toNat:Int)=a+1/\fK t a (c.toNat:Int) bad=bad:=by
 unfold dH fK;rw[if_pos (gb h),if_pos (gb h)];exact⟨rfl,rfl⟩
def Zi(c:UInt8):∀ l:List UInt8,l=List.replicate (cJ c l) c++l.drop (cJ c l)
 | []=>rfl
 | b::l=>by
  unfold cJ;split
  .rename_i e;subst e;rw[b6Q,b7D,b6g,<-Zi b l]
  .rfl
structure OQ(t:List UInt8)(a dp:Nat)(r:RS):Prop where
 ex:r.bad=false->r.dp=dp/\∃ W,t.drop a=W++t.drop r.a/\(eh r.e=true->W=bY r.e)
def TB:∀ (m:Nat) (e:J),eh (cr 8 m e)=true->eh e=true/\bY (cr 8 m e)=bY e++List.replicate m 42
 | 0,e,h=>⟨h,by simp[cr]⟩
 | m+1,e,h=>by
  rw[dP] at h ⊢;have hk:=yA _ h 0 (by simp);have hx:=(eJ _ h).2.2.2.2.2.2.2 rfl;obtain⟨h1,h2⟩:=TB m e hk.1;refine⟨h1,?_⟩;rw[hx];show bY (cr 8 m e)++[42]=_;rw[h2,b7x,b5O]
def a6F(t:List UInt8)(a dp:Nat)(r:RS)(h:OQ t a (dp+1) r):OQ t a dp (CC t r):=by
 refine⟨λ hb=>?_⟩;unfold CC at hb ⊢;cases e:r.bad
 .rw[e] at hb;simp only[b4U,b7M] at hb ⊢;obtain⟨h0,W,h1,h2⟩:=h.ex e;refine⟨by omega,W++List.replicate (cJ 42 (t.drop r.a)) 42,?_,λ hg=>?_⟩
  .rw[h1,b5O];congr 1;rw[<-b6C];exact Zi 42 _
  .obtain⟨g1,g2⟩:=TB _ _ hg;rw[g2,h2 g1]
 .rw[e] at hb;simp at hb
def rN(inner:Nat->Nat->RS)(t:List UInt8)(a dp:Nat)(bad:Bool)(h:dp+1<=100->OQ t a (dp+1) (inner a (dp+1))):OQ t a dp (dX inner t a dp bad):=by
 unfold dX;split
 .exact⟨λ hb=>by cases hb⟩
 .rename_i hn;exact a6F t a dp _ (h (by omega))
def a5Y(inner:Nat->Nat->RS)(t:List UInt8)(a dp:Nat)(bad:Bool)(h:(dX inner t a dp bad).bad=false):bad=false:=by
 unfold dX at h;split at h
 .cases h
 .rename_i hn;cases bad<;>simp_all
def XP(inner:Nat->Nat->RS)(t:List UInt8)(a0 dp:Nat)(x:RS)(k:Int)(sep:List UInt8)(hk:(k=6/\sep=[32,43,32])\/(k=7/\sep=[32]))(a:Nat)(bad:Bool)(hx:OQ t (a0+1) dp x)
  (h0:∃ r,t.drop a0=40::r) (b3F:bad=false->x.bad=false/\t.drop x.a=sep++t.drop a) (hi:dp+1<=100->OQ t a (dp+1) (inner a (dp+1))):OQ t a0 dp (Cz inner t x k a bad):=by
 refine⟨λ hb=>?_⟩;unfold Cz at hb ⊢;simp only at hb ⊢;obtain⟨h1,h2,r,h3⟩:=a1f t _ 41 (by decide) _ hb;have Fg:=a5Y inner t a x.dp bad h1;obtain⟨hx1,hx2⟩:=b3F Fg;obtain⟨wx0,Wx,wx1,wx2⟩:=hx.ex hx1;rw[wx0] at h1 h2 h3 ⊢;obtain⟨wy0,Wy,wy1,wy2⟩:=(rN inner t a dp bad hi).ex h1;obtain⟨r0,WM⟩:=h0;have Uo:t.drop (a0+1)=r0:=cv (w:=[40]) WM;have h4:t.drop ((dX inner t a dp bad).a+1)=r:=cv (w:=[41]) h3;have e41:dH t (dX inner t a dp bad).a 41=(dX inner t a dp bad).a+1:=h2;refine⟨wy0,[40]++(Wx++(sep++(Wy++[41]))),?_,λ hg=>?_⟩
 .rw[e41,WM,h4,<-Uo,wx1,hx2,wy1,h3];simp
 .have k0:=yA _ hg 0 (by simp);have k1:=yA _ hg 1 (by simp);rw[wx2 k0.1,wy2 k1.1];rcases hk with ⟨rfl,rfl⟩|⟨rfl,rfl⟩
  .exact ((eJ _ hg).2.2.2.2.2.1 rfl).symm
  .exact ((eJ _ hg).2.2.2.2.2.2.1 rfl).symm
def a1H(s:List UInt8)(h:nC 9 s=true)(h9:gG s<=9):An (gG s)=s:=by
 have h1:=a6p s h h9;rw[Eu] at h1;simp only[b4S,b4N] at h1;match s,h1 with
 | [b],h1 =>
  have hd:fB b=true:=by have:=h1.2;simpa [bu] using this
  simp only[fB,b4S,b4N] at hd;have hv:gG [b]=(b.toNat:Int) - 48:=by simp[gG]
  rw[hv] at h9 ⊢;unfold An;rw[Lib.decDigits_one (by omega)];congr 1;apply UInt8.toNat_inj.1;rw[UInt8.toNat_ofNat'];omega
 | [],h1=>simp at h1
 | _::_::_,h1=>simp at h1;omega
def a6m(t:List UInt8)(a dp:Nat)(h:cm t a=116\/cm t a=97):OQ t a dp (o6 t a dp):=by
 refine⟨λ hb=>⟨rfl,?_⟩⟩;unfold o6 at hb ⊢;simp only[Bool.not_eq_false'] at hb ⊢;have sZ:∀ c:UInt8,(∃ r,t.drop a=c::r)->t.drop a=(c::XF t a)++t.drop (a+1+n6 (t.drop (a+1))):=by
  rintro c ⟨r,hr⟩;have h1:t.drop (a+1)=r:=cv (w:=[c]) hr;have e:t.drop (a+1+n6 (t.drop (a+1)))=(t.drop (a+1)).drop (n6 (t.drop (a+1))):=by rw[b6C]
  rw[e,hr,h1,List.cons_append];unfold XF;rw[h1,List.take_append_drop]
 have hv:kP 9 (XF t a)=gG (XF t a):=by unfold kP;rw[hb];rfl
 rcases h with h|h
 .refine⟨_,sZ 116 (um t a 116 (by decide) h),λ hg=>?_⟩;have e:(if cm t a=97 then (4:Int) else 3)=3:=b4Z (by rw[h];decide);rw[e,hv] at hg ⊢;have hn:=(gA _ hg).1 (.inl rfl);rw[(eJ _ hg).2.2.1 rfl];show _=116::An (gG (XF t a));rw[a1H _ hb hn.2]
 .refine⟨_,sZ 97 (um t a 97 (by decide) h),λ hg=>?_⟩;have e:(if cm t a=97 then (4:Int) else 3)=4:=b5u h;rw[e,hv] at hg ⊢;have hn:=(gA _ hg).1 (.inr rfl);rw[(eJ _ hg).2.2.2.1 rfl];show _=97::An (gG (XF t a));rw[a1H _ hb hn.2]
def ZY(inner:Nat->Nat->RS)(t:List UInt8)(a0 dp:Nat)(x:RS)(hx:OQ t (a0+1) dp x)(h0:∃ r,t.drop a0=40::r)(hi:∀ a,dp+1<=100->OQ t a (dp+1) (inner a (dp+1))):OQ t a0 dp (vZ inner t x):=by
 unfold vZ;split
 .rename_i hp;refine XP inner t a0 dp x 6 [32,43,32] (.inl ⟨rfl,rfl⟩) _ _ hx h0 (λ hb=>?_) (hi _);obtain⟨b1,b2,r1,b3⟩:=a1f t _ 32 (by decide) _ hb;obtain⟨c1,c2,r2,c3⟩:=a1f t _ 32 (by decide) _ b1;have c2':dH t x.a 32=x.a+1:=c2;rw[c2'] at hp b2 b3 ⊢;have b2':dH t (x.a+1+1) 32=x.a+1+1+1:=b2;obtain⟨r3,d3⟩:=um t (x.a+1) 43 (by decide) hp;have e1:t.drop (x.a+1)=r2:=cv (w:=[32]) c3;have e2:t.drop (x.a+1+1)=r3:=cv (w:=[43]) d3;have e3:t.drop (x.a+1+1+1)=r1:=cv (w:=[32]) b3;refine⟨c1,?_⟩;rw[b2',e3,c3,<-e1,d3,<-e2,b3];rfl
 .refine XP inner t a0 dp x 7 [32] (.inr ⟨rfl,rfl⟩) _ _ hx h0 (λ hb=>?_) (hi _);obtain⟨c1,c2,r2,c3⟩:=a1f t _ 32 (by decide) _ hb;have c2':dH t x.a 32=x.a+1:=c2;have e1:t.drop (x.a+1)=r2:=cv (w:=[32]) c3;exact⟨c1,by rw[c2',e1,c3];rfl⟩
def a2f(t:List UInt8)(a dp:Nat)(k:Int)(c:UInt8)(hc:c≠0)(h:cm t a=(c.toNat:Int))(he:eh (J.mk k 0 [])=true->bY (J.mk k 0 [])=[c]):OQ t a dp ⟨J.mk k 0 [],a+1,dp,false⟩:=by
 obtain⟨r,hr⟩:=um t a c hc h;have h1:t.drop (a+1)=r:=cv (w:=[c]) hr;exact⟨λ _=>⟨rfl,[c],by rw[h1,hr];rfl,λ hg=>(he hg).symm⟩⟩
def Fo(t:List UInt8):∀ (g a dp:Nat),g+dp=100->OQ t a dp (cD t g a dp)
 | g,a,dp,hgd=>by
  have step:∀ g',g=g'+1->∀ a',OQ t a' (dp+1) (cD t g' a' (dp+1)):=λ g' e a'=>Fo t g' a' (dp+1) (by omega);unfold cD;split
  .rename_i h;exact a2f t a dp 1 48 (by decide) h (λ hg=>(eJ _ hg).1 rfl)
  .split
   .rename_i h;exact a2f t a dp 2 49 (by decide) h (λ hg=>(eJ _ hg).2.1 rfl)
   .split
    .rename_i h;exact a6m t a dp h
    .split
     .rename_i h;obtain⟨r,hr⟩:=um t a 126 (by decide) h;have h1:t.drop (a+1)=r:=cv (w:=[126]) hr;cases g with
      | zero=>exact⟨λ hb=>by cases hb⟩
      | succ g =>
       refine⟨λ hb=>?_⟩;obtain⟨e1,W,e2,e3⟩:=(step g rfl (a+1)).ex hb;refine⟨by show _ - 1=dp;omega,126::W,?_,λ hg=>?_⟩
       .show t.drop a=126::W++t.drop (cD t g (a+1) (dp+1)).a;rw[hr,<-h1,e2];rfl
       .have hk:=yA _ hg 0 (by simp);rw[(eJ _ hg).2.2.2.2.1 rfl];show _=126::bY (cD t g (a+1) (dp+1)).e;rw[e3 hk.1]
     .split
      .rename_i h;have h0:=um t a 40 (by decide) h;cases g with
       | zero =>
        refine ZY _ t a dp _ (rN _ t (a+1) dp false (λ h=>by omega)) h0 (λ a' h=>by omega)
       | succ g=>exact ZY _ t a dp _ (rN _ t (a+1) dp false (λ _=>step g rfl _)) h0 (λ a' _=>step g rfl a')
      .exact⟨λ hb=>by cases hb⟩
 termination_by g=>g
def okR(r:List UInt8):Prop:=∀ b l,r=b::l->b≠42/\fB b=false
def noD(r:List UInt8):Prop:=∀ b l,r=b::l->fB b=false
def a5R(b:UInt8)(r:List UInt8)(hb:fB b=true)(hr:noD r):n6 (b::r)=1:=by
 unfold n6;rw[if_pos hb];cases r with
 | nil=>rfl
 | cons c l=>unfold n6;rw[if_neg (by rw[hr c l rfl];decide)]
def a2l(t:List UInt8)(a dp:Nat)(c:J)(h:eh c=true)(e:c.aq=3\/c.aq=4)(r:List UInt8)(hr:noD r)(ht:t.drop a=bY c++r):o6 t a dp=⟨c,a+(bY c).length,dp,false⟩:=by
 have hn:=(gA c h).1 e;have hx:=eJ c h;have hg:An c.aS=[UInt8.ofNat (48+c.aS.toNat)]:=by unfold An;rw[Lib.decDigits_one (by omega)]
 have hb:(UInt8.ofNat (48+c.aS.toNat)).toNat=48+c.aS.toNat:=by rw[b8f];omega
 have hd:fB (UInt8.ofNat (48+c.aS.toNat))=true:=by unfold fB;rw[hb,decide_eq_true (by omega),decide_eq_true (by omega)];rfl
 have key:∀ (w:UInt8),bY c=w::An c.aS->t.drop (a+1)=UInt8.ofNat (48+c.aS.toNat)::r/\cm t a=(w.toNat:Int)/\(bY c).length=2:=by
  intro w e';rw[e',hg] at ht;exact⟨cv (w:=[w]) ht,gb ht,by rw[e',hg];rfl⟩
 have fin:∀ (w:UInt8),bY c=w::An c.aS->(if cm t a=97 then (4:Int) else 3)=c.aq->o6 t a dp=⟨c,a+(bY c).length,dp,false⟩:=by
  intro w e' ek;obtain⟨k1,k2,k3⟩:=key w e';have hcn:n6 (t.drop (a+1))=1:=by rw[k1];exact a5R _ _ hd hr
  have hnm:XF t a=[UInt8.ofNat (48+c.aS.toNat)]:=by unfold XF;rw[hcn,k1];rfl
  have hv:gG [UInt8.ofNat (48+c.aS.toNat)]=c.aS:=by simp only[gG,b6X,b8D,hb];omega
  have hN:nC 9 [UInt8.ofNat (48+c.aS.toNat)]=true:=by rw[Eu];simp only[b4Y,b5j,bu,hd];rfl
  unfold o6;rw[hcn,hnm,ek,hN,k3];have hnv:kP 9 [UInt8.ofNat (48+c.aS.toNat)]=c.aS:=by unfold kP;rw[hN,hv];rfl
  rw[hnv];have hc:=gM c c.aq c.aS [] rfl rfl (oT c h (by omega));rw[<-hc];rfl
 rcases e with e|e
 .exact fin 116 (hx.2.2.1 e) (by rw[(key 116 (hx.2.2.1 e)).2.1,e];decide)
 .exact fin 97 (hx.2.2.2.1 e) (by rw[(key 97 (hx.2.2.2.1 e)).2.1,e];decide)
def Zp(inner:Nat->Nat->RS)(t:List UInt8)(a dp:Nat)(r:List UInt8)(x c:J)(m n:Nat)(hx:x=cr 8 m (cr 5 n c))
  (htx:bY x=List.replicate n 126++(bY c++List.replicate m 42)) (hdp:dp+1<=100) (hr:okR r) (hd:t.drop a=bY x++r)
  (eA:∀ r',noD r'->t.drop a=List.replicate n 126++bY c++r'->inner a (dp+1)=⟨cr 5 n c,a+(n+(bY c).length),dp+1,false⟩):dX inner t a dp false=⟨x,a+(bY x).length,dp,false⟩:=by
 have hd1:t.drop a=(List.replicate n 126++bY c)++(List.replicate m 42++r):=by rw[hd,htx];simp
 have fM:noD (List.replicate m 42++r):=by
  intro b l e;cases m with
  | zero=>exact (hr b l e).2
  | succ m =>
   rw[b6Q,b6g] at e;simp only[b4X] at e;rw[<-e.1];decide
 have h1:=eA _ fM hd1;have hd2:=cv hd1;have hl:(List.replicate n 126++bY c).length=n+(bY c).length:=by simp
 rw[hl] at hd2;have hm:cJ 42 (t.drop (a+(n+(bY c).length)))=m:=by rw[hd2];exact Pu 42 r (λ b l e=>(hr b l e).1) m
 unfold dX;rw[if_neg (by simp;omega),h1];unfold CC;simp only[Bool.false_eq_true,if_false];rw[hm,<-hx];have:(bY x).length=n+((bY c).length+m):=by rw[htx];simp
 simp only[RS.mk.injEq,b5M,b5d];omega
def NL:∀ (N:Nat) (n:Nat) (c:J),cd c+n<N->eh c=true->RP c.aq->∀ (t:List UInt8) (g a dp:Nat) (r:List UInt8),g+dp=100->dp+n+2 * bM c<=101->noD r ->
  t.drop a=List.replicate n 126++bY c++r->cD t g a dp=⟨cr 5 n c,a+(n+(bY c).length),dp,false⟩
 | 0,n,c,h,_,_=>by omega
 | N+1,n+1,c,hN,h,hk=>by
  intro t g a dp r hg hd hr ht;have hdp:=gU c;obtain⟨g,rfl⟩:∃ g',g=g'+1:=⟨g - 1,by omega⟩;have Up:t.drop a=126::(List.replicate n 126++bY c++r):=by rw[ht,b6Q];rfl
  have h1:t.drop (a+1)=List.replicate n 126++bY c++r:=cv (w:=[126]) Up;have ih:=NL N n c (by omega) h hk t g (a+1) (dp+1) r (by omega) (by omega) hr h1;have hp:=gb Up;rw[cD.eq_def];dsimp only;rw[if_neg (by rw[hp];decide),if_neg (by rw[hp];decide),if_neg (by rw[hp];decide),if_pos (by rw[hp];decide)];simp only[ih,dP];simp only[RS.mk.injEq,true_and,and_true];omega
 | N+1,0,c,hN,h,hk=>by
  intro t g a dp r hg hd hr ht;have ht:t.drop a=bY c++r:=by rw[ht];rfl
  have hf:=gA c h;have hx:=eJ c h;have hdp:=gU c;show cD t g a dp=⟨c,a+(0+(bY c).length),dp,false⟩;rw[b6w];have Li:∀ i,i<c.M.length->AY c i->∀ g',g=g'+1->∀ (a:Nat) (r:List UInt8),okR r->t.drop a=bY (c.M.getD i zE)++r ->
    dX (cD t g') t a dp false=⟨c.M.getD i zE,a+(bY (c.M.getD i zE)).length,dp,false⟩:=by
   intro i hi hgk g' eg a r hr hda;obtain⟨m,n,c',e1,e2,e3,e4,e5,e6⟩:=XS _ _ (b5C _) hgk.1;have hdk:=sG bM zE c.M i hi;have hdc:=gU c';have hms:cd c'+n<=cd (c.M.getD i zE):=by
    have w:∀ (k:Int) (n:Nat) (e:J),cd (cr k n e)>=cd e+n:=by
     intro k n;induction n with
     | zero=>intro e;exact b5w _
     | succ n ih =>
      intro e;have h1:=ih (J.mk k 0 [e]);have h2:cd [e]<cd (J.mk k 0 [e]):=dk (J.mk k 0 [e]);have h3:cd e<cd [e]:=ca e [e] 0 (by simp);show cd (cr k n (J.mk k 0 [e]))>=_;omega
    have h1:=w 8 m (cr 5 n c');have h2:=w 5 n c';rw[<-e1] at h1;omega
   exact Zp (cD t g') t a dp r _ c' m n e1 e6 (by omega) hr hda (λ r' NI Ht=>NL N n c' (by have:=hgk.2;omega) e2 e3 t g' a (dp+1) r' (by omega) (by omega) NI Ht)
  rcases hk with e|e|e|e|e|e
  .rw[hx.1 e] at ht ⊢;have hp:=gb (show t.drop a=48::r from ht);have hc:=gM c 1 0 [] e (kX c h (by omega) (by omega)) (oT c h (by omega));rw[cD.eq_def];dsimp only;rw[if_pos (by rw[hp];decide),<-hc];rfl
  .rw[hx.2.1 e] at ht ⊢;have hp:=gb (show t.drop a=49::r from ht);have hc:=gM c 2 0 [] e (kX c h (by omega) (by omega)) (oT c h (by omega));rw[cD.eq_def];dsimp only;rw[if_neg (by rw[hp];decide),if_pos (by rw[hp];decide),<-hc];rfl
  .have hp:=gb (show t.drop a=116::(An c.aS++r) by rw[ht,hx.2.2.1 e];rfl);rw[cD.eq_def];dsimp only;rw[if_neg (by rw[hp];decide),if_neg (by rw[hp];decide),if_pos (by rw[hp];decide)];exact a2l t a dp c h (.inl e) r hr ht
  .have hp:=gb (show t.drop a=97::(An c.aS++r) by rw[ht,hx.2.2.2.1 e];rfl);rw[cD.eq_def];dsimp only;rw[if_neg (by rw[hp];decide),if_neg (by rw[hp];decide),if_pos (by rw[hp];decide)];exact a2l t a dp c h (.inr e) r hr ht
  .obtain⟨hl,k0,k1⟩:=hf.2.2.1 (.inl e);have hc:=gM c 6 0 _ e (kX c h (by omega) (by omega)) (Ku c hl);have hd0:=sG bM zE c.M 0 (by omega);have hd1:=gU (c.M.getD 0 zE);obtain⟨g,rfl⟩:∃ g',g=g'+1:=⟨g - 1,by omega⟩;rw[hx.2.2.2.2.2.1 e] at ht ⊢;have p0:t.drop a=40::(bY (c.M.getD 0 zE)++([32,43,32]++(bY (c.M.getD 1 zE)++([41]++r)))):=by rw[ht];simp
   have p1:t.drop (a+1)=bY (c.M.getD 0 zE)++([32,43,32]++(bY (c.M.getD 1 zE)++([41]++r))):=cv (w:=[40]) p0;have q1:=Li 0 (by omega) k0 g rfl (a+1) _ (λ b l g=>by simp at g;rw[<-g.1];decide) p1;have p2:=cv p1;have p2a:t.drop (a+1+(bY (c.M.getD 0 zE)).length+1)=43::(32::(bY (c.M.getD 1 zE)++([41]++r))):=cv (w:=[32]) p2;have p2b:t.drop (a+1+(bY (c.M.getD 0 zE)).length+1+1)=32::(bY (c.M.getD 1 zE)++([41]++r)):=cv (w:=[43]) p2a;have p3:t.drop (a+1+(bY (c.M.getD 0 zE)).length+1+1+1)=bY (c.M.getD 1 zE)++([41]++r):=cv (w:=[32]) p2b;have q2:=Li 1 (by omega) k1 g rfl _ _ (λ b l g=>by simp at g;rw[<-g.1];decide) p3;have p4:=cv p3;have hp:=gb p0;rw[cD.eq_def];dsimp only;rw[if_neg (by rw[hp];decide),if_neg (by rw[hp];decide),if_neg (by rw[hp];decide),if_neg (by rw[hp];decide),if_pos (by rw[hp];decide)];simp only[q1];unfold vZ;have y1:dH t (a+1+(bY (c.M.getD 0 zE)).length) 32=_:=(th (c:=32) p2 false).1;have y2:fK t (a+1+(bY (c.M.getD 0 zE)).length) 32 false=false:=(th (c:=32) p2 false).2;have y3:dH t (a+1+(bY (c.M.getD 0 zE)).length+1+1) 32=_:=(th (c:=32) p2b false).1;have y4:fK t (a+1+(bY (c.M.getD 0 zE)).length+1+1) 32 false=false:=(th (c:=32) p2b false).2;simp only[y1,y2,y3,y4];rw[if_pos (by rw[gb p2a];decide)];unfold Cz;simp only[q2];have y5:dH t _ 41=_:=(th (c:=41) p4 false).1;have y6:fK t _ 41 false=false:=(th (c:=41) p4 false).2;rw[y5,y6,<-hc];simp only[RS.mk.injEq,true_and,and_true,List.length_append,List.length_cons,List.length_nil];omega
  .obtain⟨hl,k0,k1⟩:=hf.2.2.1 (.inr e);have hc:=gM c 7 0 _ e (kX c h (by omega) (by omega)) (Ku c hl);have hd0:=sG bM zE c.M 0 (by omega);have hd1:=gU (c.M.getD 0 zE);obtain⟨g,rfl⟩:∃ g',g=g'+1:=⟨g - 1,by omega⟩;rw[hx.2.2.2.2.2.2.1 e] at ht ⊢;have p0:t.drop a=40::(bY (c.M.getD 0 zE)++([32]++(bY (c.M.getD 1 zE)++([41]++r)))):=by rw[ht];simp
   have p1:t.drop (a+1)=bY (c.M.getD 0 zE)++([32]++(bY (c.M.getD 1 zE)++([41]++r))):=cv (w:=[40]) p0;have q1:=Li 0 (by omega) k0 g rfl (a+1) _ (λ b l g=>by simp at g;rw[<-g.1];decide) p1;have p2:=cv p1;have p3:t.drop (a+1+(bY (c.M.getD 0 zE)).length+1)=bY (c.M.getD 1 zE)++([41]++r):=cv (w:=[32]) p2;have q2:=Li 1 (by omega) k1 g rfl _ _ (λ b l g=>by simp at g;rw[<-g.1];decide) p3;have p4:=cv p3;obtain⟨b1,l1,f1,f2⟩:=Wh _ k1.1;have hp:=gb p0;rw[cD.eq_def];dsimp only;rw[if_neg (by rw[hp];decide),if_neg (by rw[hp];decide),if_neg (by rw[hp];decide),if_neg (by rw[hp];decide),if_pos (by rw[hp];decide)];simp only[q1];unfold vZ;have y1:dH t (a+1+(bY (c.M.getD 0 zE)).length) 32=_:=(th (c:=32) p2 false).1;have y2:fK t (a+1+(bY (c.M.getD 0 zE)).length) 32 false=false:=(th (c:=32) p2 false).2;simp only[y1,y2];have b3A:¬ cm t (a+1+(bY (c.M.getD 0 zE)).length+1)=43:=by
    have p3':=p3;rw[f1] at p3';rw[gb p3'];intro hh;exact f2 (UInt8.toNat_inj.1 (by simpa using Int.ofNat_inj.1 hh))
   rw[if_neg b3A];unfold Cz;simp only[q2];have y5:dH t _ 41=_:=(th (c:=41) p4 false).1;have y6:fK t _ 41 false=false:=(th (c:=41) p4 false).2;rw[y5,y6,<-hc];simp only[RS.mk.injEq,true_and,and_true,List.length_append,List.length_cons,List.length_nil];omega
def a5X(x:J)(h:eh x=true)(h40:bM x<=40):dX (cD (bY x) 99) (bY x) 0 0 false=⟨x,(bY x).length,0,false⟩:=by
 obtain⟨m,n,c,e1,e2,e3,e4,e5,e6⟩:=XS _ _ (Nat.lt_succ_self _) h;have:=Zp (cD (bY x) 99) (bY x) 0 0 [] x c m n e1 e6 (by omega) (λ b l g=>by cases g) (by simp) (λ r' NI Ht=>NL _ n c (Nat.lt_succ_self _) e2 e3 (bY x) 99 0 (0+1) r' (by omega) (by omega) NI Ht);simpa using this
def Fp(gg:aW)(x:J)(hg:bP gg=true)(h:cE gg x=true):eh x=true/\bM x<=40/\(bY x).length<=1000:=by
 rw[yL] at h;rw[X4] at hg;rw[FK _ (by omega),FK _ (by omega)] at h;have ht:=JZ _ _ 9 9 (by omega) (by omega) x h.1;have:=Ab (cd x+1) x (b5C _) ht;exact⟨ht,h.2.2,by have:=h.2.1;omega⟩
def Yh(t:List UInt8):RI:=jv (dD t 41) t 0
def z8(t:List UInt8):RS:=dX (cD t 99) t 0 0 false
def fb(gg:aW)(t:List UInt8):Bool:=(Yh t).ok&&decide ((Yh t).a=t.length)&&cE gg (Yh t).e&&decide (bY (Yh t).e=t)
def pb(gg:aW)(t:List UInt8):J:=bif fb gg t then (Yh t).e else zX
def a8F(gg:aW)(t:List UInt8)(hg:bP gg=true):(!(z8 t).bad&&decide ((z8 t).a=t.length)&&cE gg (z8 t).e)=fb gg t/\(fb gg t=true->(z8 t).e=pb gg t):=by
 have up:fb gg t=true->z8 t=⟨(Yh t).e,t.length,0,false⟩:=by
  intro h;simp only[fb,b4S,b4N] at h;obtain⟨h1,h2,_⟩:=Fp gg _ hg h.1.2;have:=a5X _ h1 h2;rw[h.2] at this;exact this
 have down:(!(z8 t).bad&&decide ((z8 t).a=t.length)&&cE gg (z8 t).e)=true->fb gg t=true:=by
  intro h;simp only[Bool.and_eq_true,decide_eq_true_eq,Bool.not_eq_true'] at h;obtain⟨⟨h1,h2⟩,h3⟩:=h;obtain⟨g1,g2,_⟩:=Fp gg _ hg h3;obtain⟨_,W,w1,w2⟩:=(rN (cD t 99) t 0 0 false (λ _=>Fo t 99 0 1 rfl)).ex h1;have w1':t=W++t.drop (z8 t).a:=w1;rw[h2,List.drop_length,List.append_nil] at w1';have w3:t=bY (z8 t).e:=w1'.trans (w2 g1);have hi:=a5W _ g1 g2;rw[<-w3] at hi;have nU:Yh t=⟨(z8 t).e,true,t.length⟩:=hi;unfold fb;rw[nU];simp only[h3,<-w3,decide_true,Bool.and_self]
 refine⟨?_,λ h=>?_⟩
 .cases hb:fb gg t
  .cases hc:(!(z8 t).bad&&decide ((z8 t).a=t.length)&&cE gg (z8 t).e)
   .rfl
   .rw[down hc] at hb;cases hb
  .have hu:=up hb;have h3:=hb;simp only[fb,b4S] at h3;rw[hu];simp only[h3.1.2,b5D,b8k,b4R]
 .rw[up h];unfold pb;rw[h];rfl
def b2u(t:List UInt8)(a:Nat)(s:List UInt8):(decide (s.length<=(t.drop a).length)&&decide ((t.drop a).take s.length=s))=cO t a s:=rfl
def Yf(t:List UInt8)(a:Nat)(s:List UInt8)(h:cO t a s=true):s.length+a<=t.length\/s=[]:=by
 obtain⟨r,hr⟩:=(Ri t a s).1 h;have:=congrArg List.length hr;simp only[b6f,b5f] at this;cases s with
 | nil=>exact .inr rfl
 | cons b l=>left;simp only[b4Y] at this ⊢;omega
def pS(t:List UInt8)(a:Int)(p:List UInt8):Int:=bif cO t a.toNat p then a+(p.length:Int) else a
def Iv(t:List UInt8)(a:Int):Int:=bif jh t a.toNat then a+1 else a
def Py(t:List UInt8)(a:Int):Int:=bif jh t a.toNat then ((t.getD a.toNat 0).toNat:Int) - 48 else 0
def b1j:IntKind.u8.min=0:=rfl
def b1i:IntKind.u8.max=255:=rfl
def b1A(b:UInt8):0<=(b.toNat:Int)/\(b.toNat:Int)<=255:=by have:=b.toNat_lt;omega
def fP:fG:=⟨wU,[[.d .str, .d (.int .i64)]],[.b 0, .v .str],[[.str,(.int .i64)]],λ (p:List UInt8) (t:List UInt8) (a:Int)=>⟨(some (0<=a/\a<=(t.length:Int)/\t.length<=10000/\p.length<=10/\1<=p.length),[⟨.bool,cO t a.toNat p⟩],[[⟨.str,t⟩,⟨(.int .i64),pS t a p⟩]])⟩⟩
def Jj(p:List UInt8)(t:List UInt8)(a:Int):Nat->aA:=bJ
def pM:fG.Good fP:=by
 refine⟨ar tu,?_⟩;intro (p:List UInt8) (t:List UInt8) (a:Int) (hp:0<=a/\a<=(t.length:Int)/\t.length<=10000/\p.length<=10/\1<=p.length);refine gQ [tZ] [] [] [] [] [] [] [] ⟨Dv,ae⟩ trivial trivial trivial tu EV (Jj p t a) rfl rfl (let v1:=(t.take (Int.toNat ((t.length:Int)))).drop (Int.toNat a);let v0 := !(decide (p.length<=v1.length)&&decide (v1.take p.length=p));let v2:=(p.length:Int);((cB a ((t.length:Int)) t.length/\(t.length<=140737488355328->(O a->((v0=true->(false=(cO t a.toNat p)/\((t=t/\a=(pS t a p))/\True)))/\(v0=false->(O a->(O v2->(O (a+v2)/\(true=(cO t a.toNat p)/\((t=t/\(a+v2)=(pS t a p))/\True)))))))))))) ?_;obtain⟨h1,h2,h3,h4,h5⟩:=hp;have f0:pS t a p=bif cO t a.toNat p then a+(p.length:Int) else a:=rfl
 refine⟨?_,λ _ _=>⟨λ _=>⟨?_,⟨rfl,?_⟩,ae⟩,λ _ _ _=>⟨?_,?_,⟨rfl,?_⟩,ae⟩⟩⟩;all_goals try and_intros
 all_goals first|rfl|trivial|omega|((try simp only[b4T,b4R,b5a,b5k,b4N,b4M] at *)<;>(try simp only[b5e,b7j,b2u,ak,cB,O] at *)<;>first|with_reducible rfl|omega|(have h1:=Yf _ _ _ (by with_reducible assumption);have h2:p.length<=10:=by omega;omega)|(rw[by with_reducible assumption];done)|(rw[show cO t a.toNat p=_ from by with_reducible assumption];rfl)|simp_all)
def ll:fG:=⟨uh,[[.d .str, .d (.int .i64)]],[.b 0],[[.str,(.int .i64)]],λ (t:List UInt8) (a:Int)=>⟨(some (0<=a/\a<=(t.length:Int)/\t.length<=10000),[⟨(.int .i64),Py t a⟩,⟨.bool,jh t a.toNat⟩],[[⟨.str,t⟩,⟨(.int .i64),Iv t a⟩]])⟩⟩
def HF(t:List UInt8)(a:Int):Nat->aA:=bJ
abbrev pA(t:List UInt8)(a:Int):Prop:=(let v1:=a+(1:Int);let v0:=(((t.getD (Int.toNat (v1 - (1:Int))) 0).toNat:Int)) - (48:Int);(O a ->
 (O v1/\(O (v1 - (1:Int))/\(t.length<=140737488355328 ->
 (O v1 ->
 (ak (v1 - (1:Int)) t.length/\(bT .u8 v0/\(O v0/\((v0=(Py t a)/\true=(jh t a.toNat))/\((t=t/\v1=(Iv t a))/\True)))))))))))
abbrev pB(t:List UInt8)(a:Int):Prop:=(let v0:=decide ((((t.getD (Int.toNat a) 0).toNat:Int))<=(57:Int));(t.length<=140737488355328 ->
 (O a ->
 (ak a t.length/\((v0=true ->
 (pA t a))/\(v0=false ->
 (((0:Int)=(Py t a)/\false=(jh t a.toNat))/\((t=t/\a=(Iv t a))/\True))))))))
abbrev pC(t:List UInt8)(a:Int):Prop:=((false=true ->
 (pA t a))/\(false=false ->
 (((0:Int)=(Py t a)/\false=(jh t a.toNat))/\((t=t/\a=(Iv t a))/\True))))
def CA:fG.Good ll:=by
 refine⟨ar rr,?_⟩;intro (t:List UInt8) (a:Int) (hp:0<=a/\a<=(t.length:Int)/\t.length<=10000);refine gQ [] [] [] [] [] [] [] [] trivial trivial trivial trivial rr Db (HF t a) rfl rfl (let v0:=(t.length:Int);let v1:=decide ((48:Int)<=(((t.getD (Int.toNat a) 0).toNat:Int)));((((decide (a<v0))=true->(ak a t.length/\((v1=true->(O a->(t.length<=140737488355328->(O v0->(t.length<=140737488355328->(O a->(pB t a)))))))/\(v1=(!true)->(O a->(t.length<=140737488355328->(O v0->(t.length<=140737488355328->(O a->(pC t a))))))))))/\((decide (a<v0))=(!true)->((false=true->(O a->(t.length<=140737488355328->(O v0->(pB t a)))))/\(false=(!true)->(O a->(t.length<=140737488355328->(O v0->(pC t a)))))))))) ?_;obtain⟨h1,h2,h3⟩:=hp;have f1:=b1A (t.getD a.toNat 0);have f3:Iv t a=bif jh t a.toNat then a+1 else a:=rfl
 have f4:Py t a=bif jh t a.toNat then ((t.getD a.toNat 0).toNat:Int) - 48 else 0:=rfl
 have f2:jh t a.toNat=(decide (a.toNat<t.length)&&decide (48<=(t.getD a.toNat 0).toNat)&&decide ((t.getD a.toNat 0).toNat<=57)):=rfl;refine⟨λ _=>⟨?_,λ _ _ _ _ _ _ _ _=>⟨?_,λ _ _=>⟨?_,?_,λ _ _=>⟨?_,?_,?_,⟨?_,?_⟩,⟨rfl,?_⟩,ae⟩⟩,λ _=>⟨⟨?_,?_⟩,⟨rfl,?_⟩,ae⟩⟩,λ _ _ _ _ _ _=>⟨λ _ _=>⟨?_,?_,λ _ _=>⟨?_,?_,?_,⟨?_,?_⟩,⟨rfl,?_⟩,ae⟩⟩,λ _=>⟨⟨?_,?_⟩,⟨rfl,?_⟩,ae⟩⟩⟩,λ _=>⟨λ _ _ _ _ _ _=>⟨?_,λ _ _=>⟨?_,?_,λ _ _=>⟨?_,?_,?_,⟨?_,?_⟩,⟨rfl,?_⟩,ae⟩⟩,λ _=>⟨⟨?_,?_⟩,⟨rfl,?_⟩,ae⟩⟩,λ _ _ _ _=>⟨λ _ _=>⟨?_,?_,λ _ _=>⟨?_,?_,?_,⟨?_,?_⟩,⟨rfl,?_⟩,ae⟩⟩,λ _=>⟨⟨?_,?_⟩,⟨rfl,?_⟩,ae⟩⟩⟩⟩;all_goals try and_intros
 all_goals first|rfl|trivial|omega|(simp only[decide_eq_true_eq,decide_eq_false_iff_not,ak,O,b1j,b1i] at *;first|omega|grind [jh])|grind [jh,b1j,b1i]
def nE(t:List UInt8)(a:Int):Nat:=cJ 126 (t.drop a.toNat)
def rE(t:List UInt8)(d a:Int):RI:=dD t (d+1).toNat (a.toNat+nE t a)
def mE(t:List UInt8)(d a:Int):Nat:=cJ 42 (t.drop (rE t d a).a)
def xE(t:List UInt8)(d a:Int):RI:=jv (dD t (d+1).toNat) t a.toNat
def a4V(c:UInt8):∀ l:List UInt8,cJ c l<=l.length
 | []=>b5w _
 | b::l=>by
  have:=a4V c l;unfold cJ;split<;>simp<;>omega
def J7(c:UInt8)(t:List UInt8)(a:Nat)(h:a<=t.length):a+cJ c (t.drop a)<=t.length:=by
 have:=a4V c (t.drop a);simp only[b6f] at this;omega
def kG(t:List UInt8)(a:Nat)(c:UInt8)(s:List UInt8)(h:cO t a (c::s)=true):a+(c::s).length<=t.length:=by
 rcases Yf t a _ h with g|g
 .omega
 .cases g
def Zn(core:Nat->RI)(t:List UInt8)(hc:∀ a,a<=t.length->(core a).a<=t.length)(a:Nat)(h:a<=t.length):(jv core t a).a<=t.length:=by
 have h1:=J7 126 t a h;have h2:=hc _ h1;have h3:=J7 42 t _ h2;unfold jv;split
 .exact h1
 .split
  .show (core (a+cJ 126 (t.drop a))).a+42<=t.length;omega
  .exact h3
def ZK(k:Int)(t:List UInt8)(a:Nat)(h:a<=t.length):(sF k t a).a<=t.length:=by
 unfold sF;cases e:jh t a
 .exact h
 .simp only[jh,b4S,b4N] at e;show a+1<=t.length;omega
def ZV(k:Int)(t:List UInt8)(x y:RI)(h:y.a<=t.length):(qZ k t x y).a<=t.length:=by
 unfold qZ;cases e:x.ok&&y.ok&&cO t y.a [41]
 .exact h
 .simp only[Bool.and_eq_true] at e;have:=kG t _ 41 [] e.2;simpa using this
def RO(t:List UInt8):∀ (D a:Nat),a<=t.length->(dD t D a).a<=t.length
 | 0,a,h=>h
 | D+1,a,h=>by
  have hx:∀ a,a<=t.length->(jv (dD t D) t a).a<=t.length:=Zn (dD t D) t (RO t D);unfold dD;split
  .rename_i e;exact kG t a 48 [] e
  .split
   .rename_i e;exact kG t a 49 [] e
   .split
    .rename_i e;exact ZK 3 t _ (kG t a 116 [] e)
    .split
     .rename_i e;exact ZK 4 t _ (kG t a 97 [] e)
     .split
      .exact h
      .rename_i e;have e':cO t a [40]=true:=by simpa using e
       have h1:=hx _ (kG t a 40 [] e');split
       .rename_i e2;exact ZV 6 t _ _ (hx _ (kG t _ 32 [43,32] e2))
       .split
        .rename_i e2;exact ZV 7 t _ _ (hx _ (kG t _ 32 [] e2))
        .exact h1
def a4I(t:List UInt8)(d a:Int)(h0:0<=a)(h:a<=(t.length:Int)):((xE t d a).a:Int)<=(t.length:Int):=by
 have:=Zn (dD t (d+1).toNat) t (RO t _) a.toNat (by omega);unfold xE;omega
def a5J(t:List UInt8)(a:Int)(p:List UInt8)(h0:0<=a):0<=pS t a p:=by
 unfold pS;cases cO t a.toNat p<;>simp<;>omega
def a5K(t:List UInt8)(a:Int)(p:List UInt8)(h0:0<=a)(h:a<=(t.length:Int)):pS t a p<=(t.length:Int):=by
 unfold pS;cases e:cO t a.toNat p
 .exact h
 .rcases Yf t _ p e with g|g
  .simp only[b8g];omega
  .subst g;simpa using h
def Px(t:List UInt8)(a:Int)(h0:0<=a):0<=Iv t a:=by
 unfold Iv;cases jh t a.toNat<;>simp<;>omega
def Vi(t:List UInt8)(a:Int)(h0:0<=a)(h:a<=(t.length:Int)):Iv t a<=(t.length:Int):=by
 unfold Iv;cases e:jh t a.toNat
 .exact h
 .simp only[jh,b4S,b4N] at e;simp only[b8g];omega
def a3y(t:List UInt8)(d a:Int)(h:d<0)(ha:0<=a):(dD t (d+1).toNat a.toNat).e=zX/\(dD t (d+1).toNat a.toNat).ok=false/\((dD t (d+1).toNat a.toNat).a:Int)=a:=by
 rw[show (d+1).toNat=0 by omega];exact⟨rfl,rfl,by show ((a.toNat:Nat):Int)=a;omega⟩
def Dk(t:List UInt8)(d a:Int)(h:¬ d<0)(ha:0<=a):dD t (d+1).toNat a.toNat =
  if cO t a.toNat [48]=true then ⟨J.mk 1 0 [],true,a.toNat+1⟩ else if cO t a.toNat [49]=true then ⟨J.mk 2 0 [],true,a.toNat+1⟩ else
  if cO t a.toNat [116]=true then sF 3 t (a+1).toNat else if cO t a.toNat [97]=true then sF 4 t (a+1).toNat else if cO t a.toNat [40]=false then ⟨zX,false,a.toNat⟩ else
  if cO t (xE t (d - 1) (a+1)).a [32,43,32]=true then qZ 6 t (xE t (d - 1) (a+1)) (xE t (d - 1) (((xE t (d - 1) (a+1)).a:Int)+3)) else
  if cO t (xE t (d - 1) (a+1)).a [32]=true then qZ 7 t (xE t (d - 1) (a+1)) (xE t (d - 1) (((xE t (d - 1) (a+1)).a:Int)+1)) else
  ⟨zX,false,(xE t (d - 1) (a+1)).a⟩:=by
 obtain⟨D,hD⟩:∃ D:Nat,d=(D:Int):=⟨d.toNat,by omega⟩;subst hD;have e1:((D:Int)+1).toNat=D+1:=by omega
 have e2:((D:Int) - 1+1).toNat=D:=by omega
 have e3:(a+1).toNat=a.toNat+1:=by omega
 have e4:∀ n:Nat,((n:Int)+3).toNat=n+3:=λ n=>by omega
 have e5:∀ n:Nat,((n:Int)+1).toNat=n+1:=λ n=>by omega
 unfold xE;rw[e1,e2,e3];simp only[e4,e5];rw[dD]
def FR(t:List UInt8)(a:Int)(p:List UInt8)(h:cO t a.toNat p=false):pS t a p=a:=by unfold pS;rw[h];rfl
def xp(t:List UInt8)(a:Int)(c:UInt8)(h:cO t a.toNat [c]=true):pS t a [c]=a+1:=by unfold pS;rw[h];rfl
def b0i(t:List UInt8)(a:Int)(c d e:UInt8)(h:cO t a.toNat [c,d,e]=true):pS t a [c,d,e]=a+3:=by unfold pS;rw[h];rfl
def a6f(k:Int)(t:List UInt8)(a:Int)(h:0<=a):sF k t a.toNat=⟨J.mk k (Py t a) [],jh t a.toNat,(Iv t a).toNat⟩:=by
 unfold sF Py Iv;cases jh t a.toNat
 .rfl
 .simp only[b8g,RI.mk.injEq,b5M];omega
def a2B(k:Int)(t:List UInt8)(x y:RI):(qZ k t x y).e=J.mk k 0 [x.e,y.e]:=by unfold qZ;cases x.ok&&y.ok&&cO t y.a [41]<;>rfl
def ZW(k:Int)(t:List UInt8)(x y:RI):(qZ k t x y).ok=(x.ok&&y.ok&&cO t y.a [41]):=by unfold qZ;cases x.ok&&y.ok&&cO t y.a [41]<;>rfl
def a2A(k:Int)(t:List UInt8)(x y:RI):((qZ k t x y).a:Int)=bif x.ok&&y.ok then pS t (y.a:Int) [41] else (y.a:Int):=by
 unfold qZ pS;rw[Int.toNat_natCast];cases x.ok<;>cases y.ok<;>cases cO t y.a [41]<;>rfl
def a2e(k:Int)(t:List UInt8)(a:Int)(h:0<=a):(sF k t (a+1).toNat).e=J.mk k (Py t (a+1)) []/\(sF k t (a+1).toNat).ok=jh t (a+1).toNat/\((sF k t (a+1).toNat).a:Int)=Iv t (a+1):=by
 rw[a6f k t (a+1) (by omega)];have:=Px t (a+1) (by omega);exact⟨rfl,rfl,by show ((Iv t (a+1)).toNat:Int)=_;omega⟩
def Zh(c:UInt8):∀ (l:List UInt8) (k:Nat),k<=cJ c l->(k<cJ c l↔∃ r,l.drop k=c::r)
 | [],k,h=>by simp[cJ]
 | b::l,k,h=>by
  unfold cJ at h ⊢;split at h
  .rename_i e;rw[b5u e];cases k with
   | zero=>exact⟨λ _=>⟨l,by rw[e];rfl⟩,λ _=>by omega⟩
   | succ k =>
    have:=Zh c l k (by omega);rw[b7D,<-this];omega
  .rename_i e;rw[b4Z e];have hk:k=0:=by omega
   subst hk;refine⟨λ h=>by omega,λ ⟨r,hr⟩=>?_⟩;simp only[b7b,b4X] at hr;exact absurd hr.1 e
def a5L(t:List UInt8)(n k:Nat)(c:UInt8)(h:k<=cJ c (t.drop n)):cO t (n+k) [c]=decide (k<cJ c (t.drop n)):=by
 have h1:=Zh c (t.drop n) k h;rw[b6C] at h1;rw[b6O,b4N,h1,Ri];exact⟨λ ⟨r,hr⟩=>⟨r,hr⟩,λ ⟨r,hr⟩=>⟨r,hr⟩⟩
def b2w(t:List UInt8)(a:Int)(k:Nat)(ha:0<=a)(h:k<=nE t a):cO t (a+(k:Int)).toNat [126]=decide (k<nE t a):=by
 rw[show (a+(k:Int)).toNat=a.toNat+k by omega];exact a5L t a.toNat k 126 h
def b2v(t:List UInt8)(d a:Int)(k:Nat)(h:k<=mE t d a):cO t (((rE t d a).a:Int)+(k:Int)).toNat [42]=decide (k<mE t d a):=by
 rw[show (((rE t d a).a:Int)+(k:Int)).toNat=(rE t d a).a+k by omega];exact a5L t _ k 42 h
def a8p(t:List UInt8)(a:Int)(h0:0<=a)(h:a<=(t.length:Int)):a+(nE t a:Int)<=(t.length:Int):=by
 have:=J7 126 t a.toNat (by omega);unfold nE;omega
def b2l(t:List UInt8)(d a:Int)(h0:0<=a)(h:a<=(t.length:Int)):((rE t d a).a:Int)+(mE t d a:Int)<=(t.length:Int):=by
 have h1:=a8p t a h0 h;have h2:=RO t (d+1).toNat (a.toNat+nE t a) (by omega);have h3:=J7 42 t _ h2;have:(rE t d a).a+mE t d a<=t.length:=h3;omega
def a8E(t:List UInt8)(d a:Int)(ha:0<=a):dD t (d+1).toNat (a+(nE t a:Int)).toNat=rE t d a:=by
 rw[show (a+(nE t a:Int)).toNat=a.toNat+nE t a by omega];rfl
def a4H(t:List UInt8)(d a:Int):xE t d a=if 40<nE t a then ⟨zX,false,a.toNat+nE t a⟩ else if 41<mE t d a then ⟨zX,false,(rE t d a).a+42⟩ else
  ⟨cr 8 (mE t d a) (cr 5 (nE t a) (rE t d a).e),(rE t d a).ok,(rE t d a).a+mE t d a⟩:=rfl
def a9n(t:List UInt8)(d a:Int)(ha:0<=a)(h:40<nE t a):(xE t d a).e=zX/\(xE t d a).ok=false/\((xE t d a).a:Int)=a+(nE t a:Int):=by
 rw[a4H,b5u h];exact⟨rfl,rfl,by show ((a.toNat+nE t a:Nat):Int)=_;omega⟩
def a6O(t:List UInt8)(d a:Int)(h:¬ 40<nE t a)(h2:41<mE t d a):(xE t d a).e=zX/\(xE t d a).ok=false/\((xE t d a).a:Int)=((rE t d a).a:Int)+42:=by
 rw[a4H,b4Z h,b5u h2];exact⟨rfl,rfl,rfl⟩
def a9m(t:List UInt8)(d a:Int)(h:¬ 40<nE t a)(h2:¬ 41<mE t d a):(xE t d a).e=cr 8 (mE t d a) (cr 5 (nE t a) (rE t d a).e)/\(xE t d a).ok=(rE t d a).ok/\((xE t d a).a:Int)=((rE t d a).a:Int)+(mE t d a:Int):=by
 rw[a4H,b4Z h,b4Z h2];exact⟨rfl,rfl,rfl⟩
structure is3(r:RI)(e:J)(ok:Bool)(a:Int):Prop where
 e:r.e=e
 ok:r.ok=ok
 a:(r.a:Int)=a
def B3(t:List UInt8)(d a:Int):RI:=dD t (d+1).toNat a.toNat
def a9u(t:List UInt8)(d a:Int)(h:d<0)(ha:0<=a):is3 (B3 t d a) zX false a:=by
 obtain⟨h1,h2,h3⟩:=a3y t d a h ha;exact⟨h1,h2,h3⟩
def b2Y(t:List UInt8)(d a:Int)(h:¬ d<0)(ha:0<=a)(h1:cO t a.toNat [48]=true):is3 (B3 t d a) (J.mk 1 0 []) true (a+1):=by
 unfold B3;rw[Dk t d a h ha,if_pos h1];exact⟨rfl,rfl,by show ((a.toNat+1:Nat):Int)=_;omega⟩
def b2Z(t:List UInt8)(d a:Int)(h:¬ d<0)(ha:0<=a)(h1:cO t a.toNat [48]=false)(h2:cO t a.toNat [49]=true):is3 (B3 t d a) (J.mk 2 0 []) true (a+1):=by
 unfold B3;rw[Dk t d a h ha,if_neg (by rw[h1];decide),if_pos h2];exact⟨rfl,rfl,by show ((a.toNat+1:Nat):Int)=_;omega⟩
def b1D(t:List UInt8)(d a:Int)(h:¬ d<0)(ha:0<=a)(h1:cO t a.toNat [48]=false)(h2:cO t a.toNat [49]=false)(h3:cO t a.toNat [116]=true):is3 (B3 t d a) (J.mk 3 (Py t (a+1)) []) (jh t (a+1).toNat) (Iv t (a+1)):=by
 unfold B3;rw[Dk t d a h ha,if_neg (by rw[h1];decide),if_neg (by rw[h2];decide),if_pos h3];obtain⟨g1,g2,g3⟩:=a2e 3 t a ha;exact⟨g1,g2,g3⟩
def b3a(t:List UInt8)(d a:Int)(h:¬ d<0)(ha:0<=a)(h1:cO t a.toNat [48]=false)(h2:cO t a.toNat [49]=false)(h3:cO t a.toNat [116]=false)(h4:cO t a.toNat [97]=true):is3 (B3 t d a) (J.mk 4 (Py t (a+1)) []) (jh t (a+1).toNat) (Iv t (a+1)):=by
 unfold B3;rw[Dk t d a h ha,if_neg (by rw[h1];decide),if_neg (by rw[h2];decide),if_neg (by rw[h3];decide),if_pos h4];obtain⟨g1,g2,g3⟩:=a2e 4 t a ha;exact⟨g1,g2,g3⟩
def b3b(t:List UInt8)(d a:Int)(h:¬ d<0)(ha:0<=a)(h1:cO t a.toNat [48]=false)(h2:cO t a.toNat [49]=false)(h3:cO t a.toNat [116]=false)(h4:cO t a.toNat [97]=false)(h5:cO t a.toNat [40]=false):is3 (B3 t d a) zX false a:=by
 unfold B3;rw[Dk t d a h ha,if_neg (by rw[h1];decide),if_neg (by rw[h2];decide),if_neg (by rw[h3];decide),if_neg (by rw[h4];decide),if_pos h5];exact⟨rfl,rfl,by show ((a.toNat:Nat):Int)=_;omega⟩
def prP(t:List UInt8)(x y:RI):Int:=bif x.ok&&y.ok then pS t (y.a:Int) [41] else (y.a:Int)
def Vr(t:List UInt8)(x y:RI)(h:x.ok=false\/y.ok=false):prP t x y=(y.a:Int):=by unfold prP;rcases h with h|h<;>rw[h]<;>simp
def a5x(t:List UInt8)(x y:RI)(h:x.ok=true)(h':y.ok=true):prP t x y=pS t (y.a:Int) [41]:=by unfold prP;rw[h,h'];rfl
def b2X(t:List UInt8)(d a:Int)(h:¬ d<0)(ha:0<=a)(h1:cO t a.toNat [48]=false)(h2:cO t a.toNat [49]=false)(h3:cO t a.toNat [116]=false)(h4:cO t a.toNat [97]=false)(h5:cO t a.toNat [40]=true)(X:RI)(hX:X=xE t (d - 1) (a+1)) :
  (cO t X.a [32,43,32]=true->is3 (B3 t d a) (J.mk 6 0 [X.e,(xE t (d - 1) ((X.a:Int)+3)).e]) (X.ok&&(xE t (d - 1) ((X.a:Int)+3)).ok&&cO t (xE t (d - 1) ((X.a:Int)+3)).a [41]) (prP t X (xE t (d - 1) ((X.a:Int)+3)))) /\
  (cO t X.a [32,43,32]=false->cO t X.a [32]=true->is3 (B3 t d a) (J.mk 7 0 [X.e,(xE t (d - 1) ((X.a:Int)+1)).e]) (X.ok&&(xE t (d - 1) ((X.a:Int)+1)).ok&&cO t (xE t (d - 1) ((X.a:Int)+1)).a [41]) (prP t X (xE t (d - 1) ((X.a:Int)+1)))) /\
  (cO t X.a [32,43,32]=false->cO t X.a [32]=false->is3 (B3 t d a) zX false (X.a:Int)):=by
 unfold B3;rw[Dk t d a h ha,if_neg (by rw[h1];decide),if_neg (by rw[h2];decide),if_neg (by rw[h3];decide),if_neg (by rw[h4];decide),if_neg (by rw[h5];decide),<-hX];refine⟨λ e=>?_,λ e e'=>?_,λ e e'=>?_⟩
 .rw[b5u e];exact⟨a2B _ _ _ _,ZW _ _ _ _,a2A _ _ _ _⟩
 .rw[b4Z (by rw[e];decide),b5u e'];exact⟨a2B _ _ _ _,ZW _ _ _ _,a2A _ _ _ _⟩
 .rw[b4Z (by rw[e];decide),b4Z (by rw[e'];decide)];exact⟨rfl,rfl,rfl⟩
def hJ(n:Nat):fG:=⟨wT,[[.d .str, .d (.int .i64)]],[.b 0, .v (.int .i64)],[[.str,(.int .i64)]],λ (d:Int) (t:List UInt8) (a:Int)=>⟨(some (2 * (d+1).toNat<n/\0<=a/\a<=(t.length:Int)/\t.length<=10000 /\ -1<=d/\d<=40),[⟨(.st .expr),(B3 t d a).e⟩,⟨.bool,(B3 t d a).ok⟩],[[⟨.str,t⟩,⟨(.int .i64),((B3 t d a).a:Int)⟩]])⟩⟩
def hU(n:Nat):fG:=⟨nY,[[.d .str, .d (.int .i64)]],[.b 0, .v (.int .i64)],[[.str,(.int .i64)]],λ (d:Int) (t:List UInt8) (a:Int)=>⟨(some (2 * (d+1).toNat+1<n/\0<=a/\a<=(t.length:Int)/\t.length<=10000 /\ -1<=d/\d<=40),[⟨(.st .expr),(xE t d a).e⟩,⟨.bool,(xE t d a).ok⟩],[[⟨.str,t⟩,⟨(.int .i64),((xE t d a).a:Int)⟩]])⟩⟩
def ub:fG:=⟨nY,[[.d .str, .d (.int .i64)]],[.b 0, .v (.int .i64)],[[.str,(.int .i64)]],λ (d:Int) (t:List UInt8) (a:Int)=>⟨(some (0<=a/\a<=(t.length:Int)/\t.length<=10000 /\ -1<=d/\d<=40),[⟨(.st .expr),(xE t d a).e⟩,⟨.bool,(xE t d a).ok⟩],[[⟨.str,t⟩,⟨(.int .i64),((xE t d a).a:Int)⟩]])⟩⟩
def Jh(d:Int)(t:List UInt8)(a:Int):Nat->aA:=bJ
def HO(n:Nat)(hE:bC [])(hO:gn [Cn,od])(hM:iv [])(hS:gF [fP,ll,hU n]):fG.Good (hJ (n+1)):=by
 refine⟨ar lP,?_⟩;intro (d:Int) (t:List UInt8) (a:Int) (hp:2 * (d+1).toNat<n+1/\0<=a/\a<=(t.length:Int)/\t.length<=10000 /\ -1<=d/\d<=40);refine gQ [] [Cn,od] [] [fP,ll,hU n] [22,26,36,47,57,70,76,77] [] [] [] hE hO hM hS lP ET (Jh d t a) rfl rfl (let v5:=d - (1:Int);let v6:=B3 t d a;let va:=(t.length:Int);let vd:=(v6.a:Int);let vh:=pS t a ([48]);let vc:=pS t vh ([49]);let v2:=pS t vc ([116]);let v8:=pS t v2 ([97]);let vk:=[32,43,32];let vm:=pS t v8 ([40]);let v0:=xE t v5 vm;let vj:=(v0.a:Int);let v1:=pS t vj vk;let ve:=((xE t v5 v1).a:Int);let vf:=aI (J.mk (6:Int) 0 ([(aI (v0.e)),(aI ((xE t v5 v1).e))]));let vn:=pS t v1 ([32]);let v7:=xE t v5 vn;let vg:=aI (J.mk (7:Int) 0 ([(aI (v0.e)),(aI (v7.e))]));let vl:=(v7.a:Int);let vo:=v6.ok;let v3:=(0<=vl/\vl<=va/\t.length<=10000/\([41]).length<=10/\1<=([41]).length)/\((vg=(v6.e)/\(cO t vl.toNat ([41]))=vo)/\((t=t/\(pS t vl ([41]))=vd)/\True));let v4:=(0<=ve/\ve<=va/\t.length<=10000/\([41]).length<=10/\1<=([41]).length)/\((vf=(v6.e)/\(cO t ve.toNat ([41]))=vo)/\((t=t/\(pS t ve ([41]))=vd)/\True));let v9:=(vf=(v6.e)/\false=vo)/\((t=t/\ve=vd)/\True);let vb:=(vg=(v6.e)/\false=vo)/\((t=t/\vl=vd)/\True);let vi:=zE=(v6.e)/\false=vo;((((decide (d<(0:Int)))=true->(vi/\((t=t/\a=vd)/\True)))/\((decide (d<(0:Int)))=false->((0<=a/\a<=va/\t.length<=10000/\([48]).length<=10/\1<=([48]).length)/\(((cO t a.toNat ([48]))=true->(((aI (J.mk (1:Int) (0:Int) []))=(v6.e)/\true=vo)/\((t=t/\vh=vd)/\True)))/\((cO t a.toNat ([48]))=false->((0<=vh/\vh<=va/\t.length<=10000/\([49]).length<=10/\1<=([49]).length)/\(((cO t vh.toNat ([49]))=true->(((aI (J.mk (2:Int) (0:Int) []))=(v6.e)/\true=vo)/\((t=t/\vc=vd)/\True)))/\((cO t vh.toNat ([49]))=false->((0<=vc/\vc<=va/\t.length<=10000/\([116]).length<=10/\1<=([116]).length)/\(((cO t vc.toNat ([116]))=true->((0<=v2/\v2<=va/\t.length<=10000)/\(O (Py t v2)->(((aI (J.mk (3:Int) (Py t v2) []))=(v6.e)/\(jh t v2.toNat)=vo)/\((t=t/\(Iv t v2)=vd)/\True)))))/\((cO t vc.toNat ([116]))=false->((0<=v2/\v2<=va/\t.length<=10000/\([97]).length<=10/\1<=([97]).length)/\(((cO t v2.toNat ([97]))=true->((0<=v8/\v8<=va/\t.length<=10000)/\(O (Py t v8)->(((aI (J.mk (4:Int) (Py t v8) []))=(v6.e)/\(jh t v8.toNat)=vo)/\((t=t/\(Iv t v8)=vd)/\True)))))/\((cO t v2.toNat ([97]))=false->((0<=v8/\v8<=va/\t.length<=10000/\([40]).length<=10/\1<=([40]).length)/\(((!(cO t v8.toNat ([40])))=true->(vi/\((t=t/\vm=vd)/\True)))/\((!(cO t v8.toNat ([40])))=false->(O v5/\((2 * (v5+1).toNat+1<n/\0<=vm/\vm<=va/\t.length<=10000 /\ -1<=v5/\v5<=40)/\((0<=vj/\vj<=va/\t.length<=10000/\vk.length<=10/\1<=vk.length)/\(((cO t vj.toNat vk)=true->(O v5/\((2 * (v5+1).toNat+1<n/\0<=v1/\v1<=va/\t.length<=10000 /\ -1<=v5/\v5<=40)/\(((v0.ok)=true->((((xE t v5 v1).ok)=true->v4)/\(((xE t v5 v1).ok)=(!true)->v9)))/\((v0.ok)=(!true)->((false=true->v4)/\(false=(!true)->v9)))))))/\((cO t vj.toNat vk)=false->((0<=v1/\v1<=va/\t.length<=10000/\([32]).length<=10/\1<=([32]).length)/\(((!(cO t v1.toNat ([32])))=true->(vi/\((t=t/\vn=vd)/\True)))/\((!(cO t v1.toNat ([32])))=false->(O v5/\((2 * (v5+1).toNat+1<n/\0<=vn/\vn<=va/\t.length<=10000 /\ -1<=v5/\v5<=40)/\(((v0.ok)=true->(((v7.ok)=true->v3)/\((v7.ok)=(!true)->vb)))/\((v0.ok)=(!true)->((false=true->v3)/\(false=(!true)->vb))))))))))))))))))))))))))))))))) ?_;obtain⟨hm,h0,h1,h2,h3,h4⟩:=hp;by_cases hd:d<0
 .obtain⟨q1,q2,q3⟩:=a9u t d a hd h0;simp only[b5B hd,q1,q2,q3,b5D,b5y,b4T,b4R,b4V,b4U,b5l,b5m,b5v,b5z,b5d,b5M,b5e,O,aK];repeat' (first|intro _|apply And.intro)
  all_goals first|exact True.intro|omega|with_reducible rfl|decide
 .have Ht:=b5c hd;rcases b5P (cO t a.toNat [48]) with B4|B4
  .have k:=kG t a.toNat 48 [] B4;simp only[b4Y,b5j] at k;obtain⟨q1,q2,q3⟩:=b2Y t d a hd h0 B4;have b1:=Px t (a+1) (by omega);have b2:=Vi t (a+1) (by omega) (by omega);simp only[Ht,B4,xp t a 48 B4,q1,q2,q3,b5D,b5y,b4T,b4R,b4V,b4U,b5l,b5m,b5v,b5z,b5d,b5M,b5e,O,aK];repeat' (first|intro _|apply And.intro)
   all_goals first|exact True.intro|omega|with_reducible rfl|decide
  .have f48:=FR t a [48] B4;rcases b5P (cO t a.toNat [49]) with E5|E5
   .have k:=kG t a.toNat 49 [] E5;simp only[b4Y,b5j] at k;obtain⟨q1,q2,q3⟩:=b2Z t d a hd h0 B4 E5;have b1:=Px t (a+1) (by omega);have b2:=Vi t (a+1) (by omega) (by omega);simp only[Ht,B4,f48,E5,xp t a 49 E5,q1,q2,q3,b5D,b5y,b4T,b4R,b4V,b4U,b5l,b5m,b5v,b5z,b5d,b5M,b5e,O,aK];repeat' (first|intro _|apply And.intro)
    all_goals first|exact True.intro|omega|with_reducible rfl|decide
   .have f49:=FR t a [49] E5;rcases b5P (cO t a.toNat [116]) with wy|wy
    .have k:=kG t a.toNat 116 [] wy;simp only[b4Y,b5j] at k;obtain⟨q1,q2,q3⟩:=b1D t d a hd h0 B4 E5 wy;have b1:=Px t (a+1) (by omega);have b2:=Vi t (a+1) (by omega) (by omega);simp only[Ht,B4,f48,E5,f49,wy,xp t a 116 wy,q1,q2,q3,b5D,b5y,b4T,b4R,b4V,b4U,b5l,b5m,b5v,b5z,b5d,b5M,b5e,O,aK];repeat' (first|intro _|apply And.intro)
     all_goals first|exact True.intro|omega|with_reducible rfl|decide
    .have f116:=FR t a [116] wy;rcases b5P (cO t a.toNat [97]) with Pz|Pz
     .have k:=kG t a.toNat 97 [] Pz;simp only[b4Y,b5j] at k;obtain⟨q1,q2,q3⟩:=b3a t d a hd h0 B4 E5 wy Pz;have b1:=Px t (a+1) (by omega);have b2:=Vi t (a+1) (by omega) (by omega);simp only[Ht,B4,f48,E5,f49,wy,f116,Pz,xp t a 97 Pz,q1,q2,q3,b5D,b5y,b4T,b4R,b4V,b4U,b5l,b5m,b5v,b5z,b5d,b5M,b5e,O,aK];repeat' (first|intro _|apply And.intro)
      all_goals first|exact True.intro|omega|with_reducible rfl|decide
     .have f97:=FR t a [97] Pz;rcases b5P (cO t a.toNat [40]) with V9|V9
      .have k:=kG t a.toNat 40 [] V9;simp only[b4Y,b5j] at k;have g1:=xp t a 40 V9;have b1:=a4I t (d - 1) (a+1) (by omega) (by omega);obtain⟨p1,p2,p3⟩:=b2X t d a hd h0 B4 E5 wy Pz V9 _ rfl;simp only[Ht,B4,f48,E5,f49,wy,f116,Pz,f97,V9,g1,b5D,b5y,b4T,b4R,b4V,b4U,b5l,b5m,b5v,b5z,b5d,b5M,b5e,O,aK];generalize xE t (d - 1) (a+1)=X at *
       rcases b5P (cO t X.a [32,43,32]) with eS|eS
       .skip;have k2:=kG t _ 32 [43,32] eS;simp only[b4Y,b5j] at k2;have g2:=b0i t (X.a:Int) 32 43 32 (by rw[b5e];exact eS);obtain⟨q1,q2,q3⟩:=p1 eS;have b2:=a4I t (d - 1) ((X.a:Int)+3) (by omega) (by omega);simp only[eS,g2,q1,q2,q3,b5D,b5y,b4T,b4R,b4V,b4U,b5l,b5m,b5v,b5z,b5d,b5M,b5e,O,aK];generalize xE t (d - 1) ((X.a:Int)+3)=Y at *
        have b3:=a5J t (Y.a:Int) [41] (by omega);have b4:=a5K t (Y.a:Int) [41] (by omega) b2;rcases b5P X.ok with x1|x1
        .rcases b5P Y.ok with y1|y1
         .simp only[x1,y1,a5x t X Y x1 y1,b6B,b6e,b8k,b5D,b5y,b4T,b4R,b4V,b4U,b5l,b5m,b5v,b5z,b5d,b5M,b5e,O,aK];repeat' (first|intro _|apply And.intro)
          all_goals first|exact True.intro|omega|with_reducible rfl|decide
         .simp only[x1,y1,Vr t X Y (.inr y1),b6B,b6e,b6n,b6j,b5D,b5y,b4T,b4R,b4V,b4U,b5l,b5m,b5v,b5z,b5d,b5M,b5e,O,aK];repeat' (first|intro _|apply And.intro)
          all_goals first|exact True.intro|omega|with_reducible rfl|decide
        .simp only[x1,Vr t X Y (.inl x1),b6B,b6e,b6n,b6j,b5D,b5y,b4T,b4R,b4V,b4U,b5l,b5m,b5v,b5z,b5d,b5M,b5e,O,aK];repeat' (first|intro _|apply And.intro)
         all_goals first|exact True.intro|omega|with_reducible rfl|decide
       .have g3:=FR t (X.a:Int) [32,43,32] (by rw[b5e];exact eS);rcases b5P (cO t X.a [32]) with eD|eD
        .skip;have k2:=kG t _ 32 [] eD;simp only[b4Y,b5j] at k2;have g2:=xp t (X.a:Int) 32 (by rw[b5e];exact eD);obtain⟨q1,q2,q3⟩:=p2 eS eD;have b2:=a4I t (d - 1) ((X.a:Int)+1) (by omega) (by omega);simp only[eD,eS,g3,g2,q1,q2,q3,b5D,b5y,b4T,b4R,b4V,b4U,b5l,b5m,b5v,b5z,b5d,b5M,b5e,O,aK];generalize xE t (d - 1) ((X.a:Int)+1)=Y at *
         have b3:=a5J t (Y.a:Int) [41] (by omega);have b4:=a5K t (Y.a:Int) [41] (by omega) b2;rcases b5P X.ok with x1|x1
         .rcases b5P Y.ok with y1|y1
          .simp only[x1,y1,a5x t X Y x1 y1,b6B,b6e,b8k,b5D,b5y,b4T,b4R,b4V,b4U,b5l,b5m,b5v,b5z,b5d,b5M,b5e,O,aK];repeat' (first|intro _|apply And.intro)
           all_goals first|exact True.intro|omega|with_reducible rfl|decide
          .simp only[x1,y1,Vr t X Y (.inr y1),b6B,b6e,b6n,b6j,b5D,b5y,b4T,b4R,b4V,b4U,b5l,b5m,b5v,b5z,b5d,b5M,b5e,O,aK];repeat' (first|intro _|apply And.intro)
           all_goals first|exact True.intro|omega|with_reducible rfl|decide
         .simp only[x1,Vr t X Y (.inl x1),b6B,b6e,b6n,b6j,b5D,b5y,b4T,b4R,b4V,b4U,b5l,b5m,b5v,b5z,b5d,b5M,b5e,O,aK];repeat' (first|intro _|apply And.intro)
          all_goals first|exact True.intro|omega|with_reducible rfl|decide
        .have g4:=FR t (X.a:Int) [32] (by rw[b5e];exact eD);obtain⟨q1,q2,q3⟩:=p3 eS eD;simp only[eS,eD,g3,g4,q1,q2,q3,b5D,b5y,b4T,b4R,b4V,b4U,b5l,b5m,b5v,b5z,b5d,b5M,b5e,O,aK];repeat' (first|intro _|apply And.intro)
         all_goals first|exact True.intro|omega|with_reducible rfl|decide
      .have f40:=FR t a [40] V9;obtain⟨q1,q2,q3⟩:=b3b t d a hd h0 B4 E5 wy Pz V9;simp only[Ht,B4,f48,E5,f49,wy,f116,Pz,f97,V9,f40,q1,q2,q3,b5D,b5y,b4T,b4R,b4V,b4U,b5l,b5m,b5v,b5z,b5d,b5M,b5e,O,aK];repeat' (first|intro _|apply And.intro)
       all_goals first|exact True.intro|omega|with_reducible rfl|decide
def Ji(d:Int)(t:List UInt8)(a:Int):Nat->aA:=(cQ 0 (.a (Nat) (λ k=>k<=nE t a) (λ k=>nE t a - k) [5] (λ k=>[(6, .aH ⟨(.int .i64),((k:Int):Int)⟩)]) [4] (λ k=>[(400000, .box [.aH ⟨.str,(t:List UInt8)⟩, .aH ⟨(.int .i64),(a+(k:Int):Int)⟩])])) (cQ 2 (.a (Nat) (λ j=>j<=nE t a/\nE t a<=40) (λ j=>nE t a - j) [1,10,11,14,15,17,18,19,20,21,22] (λ j=>[(6, .aH ⟨(.int .i64),((nE t a:Int) - (j:Int):Int)⟩)]) [4,400000] (λ j=>[(7, .box [.aH ⟨(.int .i64),((cr 5 j (rE t d a).e).aq:Int)⟩, .aH ⟨(.int .i64),((cr 5 j (rE t d a).e).aS:Int)⟩, .av 7100]),(7100, .av (.st .expr) ((cr 5 j (rE t d a).e).M:List J))])) (cQ 4 (.a (Nat) (λ m=>m<=mE t d a/\m<=41/\nE t a<=40) (λ m=>mE t d a - m) [6,23,24] (λ m=>[(9, .aH ⟨(.int .i64),((m:Int):Int)⟩)]) [4] (λ m=>[(400000, .box [.aH ⟨.str,(t:List UInt8)⟩, .aH ⟨(.int .i64),(((rE t d a).a:Int)+(m:Int):Int)⟩]),(7, .box [.aH ⟨(.int .i64),((cr 8 m (cr 5 (nE t a) (rE t d a).e)).aq:Int)⟩, .aH ⟨(.int .i64),((cr 8 m (cr 5 (nE t a) (rE t d a).e)).aS:Int)⟩, .av 7200]),(7200, .av (.st .expr) ((cr 8 m (cr 5 (nE t a) (rE t d a).e)).M:List J))])) bJ)))
def HP(n:Nat)(hE:bC [])(hO:gn [od])(hM:iv [])(hS:gF [fP,hJ n]):fG.Good (hU (n+1)):=by
 refine⟨ar iA,?_⟩;intro (d:Int) (t:List UInt8) (a:Int) (hp:2 * (d+1).toNat+1<n+1/\0<=a/\a<=(t.length:Int)/\t.length<=10000 /\ -1<=d/\d<=40);refine gQ [] [od] [] [fP,hJ n] [20,28,29,38,39] [] [] [] hE hO hM hS iA EU (Ji d t a) rfl rfl (let v2:=rE t d a;let v0:=cr 5 (nE t a) v2.e;let v3:=[126];let v4:=(v2.a:Int);let v5:=xE t d a;let v6:=(nE t a:Int);let v7:=True/\True;let v8:=(0:Int);let v1:=(v8=v8/\(v8=v8/\v7))/\True;let v9:=zE=(v5.e)/\false=(v5.ok);let va:=(1:Int);(((∃ k1:Nat,(k1<=nE t a/\((True/\(d=d/\(True/\(v8=(k1:Int)/\True))))/\((t=t/\(a=(a+(k1:Int))/\True))/\v1))))/\(∀ k1:Nat,let vg:=(k1:Int);let vc:=a+vg;let ve:=pS t vc v3;let vb:=B3 t d ve;let vd:=(t=t/\(((vb.a:Int))=((vb.a:Int))/\True))/\v1;let vf:=True/\((vb.ok)=(vb.ok)/\True);(k1<=nE t a->((0<=vc/\vc<=(t.length:Int)/\t.length<=10000/\v3.length<=10/\1<=v3.length)/\(((cO t vc.toNat v3)=true->(O (vg+va)/\(∃ k2:Nat,(k2<=nE t a/\(nE t a - k2<nE t a - k1/\((True/\(d=d/\(True/\((vg+va)=(k2:Int)/\True))))/\((t=t/\(ve=(a+(k2:Int))/\True))/\v1)))))))/\((cO t vc.toNat v3)=false->(((decide ((40:Int)<vg))=true->(v9/\((t=t/\ve=(v5.a:Int))/\True)))/\((decide ((40:Int)<vg))=false->((2 * (d+1).toNat<n/\0<=ve/\ve<=(t.length:Int)/\t.length<=10000 /\ -1<=d/\d<=40)/\((∃ j2:Nat,let vh:=cr 5 j2 v2.e;((j2<=nE t a/\nE t a<=40)/\((True/\(True/\(vg=(v6 - (j2:Int))/\vf)))/\(((vb.e).aq=(vh.aq)/\((vb.e).aS=(vh.aS)/\v7))/\((vb.e).M=(vh.M)/\vd)))))/\(∀ j2:Nat,let vi:=cr 5 j2 v2.e;let vh:=J.mk (5:Int) 0 ([(J.mk (vi.aq) (vi.aS) (vi.M))]);let vj:=v6 - (j2:Int);((j2<=nE t a/\nE t a<=40)->(((decide (v8<vj))=true->(O (vj - va)/\(∃ j3:Nat,let vk:=cr 5 j3 v2.e;((j3<=nE t a/\nE t a<=40)/\(nE t a - j3<nE t a - j2/\((True/\(True/\((vj - va)=(v6 - (j3:Int))/\vf)))/\((vh.aq=(vk.aq)/\(vh.aS=(vk.aS)/\v7))/\(vh.M=(vk.M)/\vd))))))))/\((decide (v8<vj))=false->((∃ m3:Nat,((m3<=mE t d a/\m3<=41/\nE t a<=40)/\((True/\(True/\(True/\((vb.ok)=(vb.ok)/\(v8=(m3:Int)/\True)))))/\((t=t/\(((vb.a:Int))=(v4+(m3:Int))/\True))/\(((vi.aq)=((cr 8 m3 v0).aq)/\((vi.aS)=((cr 8 m3 v0).aS)/\v7))/\((vi.M)=((cr 8 m3 v0).M)/\v1))))))/\(∀ m3:Nat,let vk:=J.mk ((cr 8 m3 v0).aq) ((cr 8 m3 v0).aS) ((cr 8 m3 v0).M);let vl:=v4+(m3:Int);let vm:=(t=t/\(pS t vl ([42]))=(v5.a:Int))/\True;let vn:=J.mk (8:Int) 0 ([vk]);let vo:=decide ((40:Int)<(m3:Int));((m3<=mE t d a/\m3<=41/\nE t a<=40)->((0<=vl/\vl<=(t.length:Int)/\t.length<=10000/\([42]).length<=10/\1<=([42]).length)/\(((cO t vl.toNat ([42]))=true->((vo=true->(v9/\vm))/\(vo=false->(O ((m3:Int)+va)/\(∃ m4:Nat,((m4<=mE t d a/\m4<=41/\nE t a<=40)/\(mE t d a - m4<mE t d a - m3/\((True/\(True/\(True/\((vb.ok)=(vb.ok)/\(((m3:Int)+va)=(m4:Int)/\True)))))/\((t=t/\((pS t vl ([42]))=(v4+(m4:Int))/\True))/\((vn.aq=((cr 8 m4 v0).aq)/\(vn.aS=((cr 8 m4 v0).aS)/\v7))/\(vn.M=((cr 8 m4 v0).M)/\v1)))))))))))/\((cO t vl.toNat ([42]))=false->((vk=(v5.e)/\(vb.ok)=(v5.ok))/\vm))))))))))))))))))))))) ?_;obtain⟨hm,h0,h1,h2,h3,h4⟩:=hp;have n1:=a8p t a h0 h1;have n2:=b2l t d a h0 h1;have z1:=λ k h=>b2w t a k h0 h;have z2:=λ k h=>b2v t d a k h;have c1:B3 t d (a+(nE t a:Int))=rE t d a:=a8E t d a h0;simp only[b5D,b5y,b4T,b4R,b4V,b4U,b5l,b5m,b5v,b5z,b5d,b5M,b5e,O,aK];refine⟨⟨0,b5Y _,by omega⟩,λ k1 hk=>⟨?_,λ e1=>?_,λ e1=>?_⟩⟩
 .repeat' (first|intro _|apply And.intro)
  all_goals first|exact True.intro|omega|with_reducible rfl|decide
 .have g:=z1 k1 hk;rw[e1] at g;have g':=b5E g.symm;rw[xp t _ 126 e1];exact⟨by omega,k1+1,by omega,by omega,by omega,by omega⟩
 .have g:=z1 k1 hk;rw[e1] at g;have g':=b6L g.symm;have R2:k1=nE t a:=by omega
  subst R2;have f1:=FR t _ [126] e1;by_cases hn:40<nE t a
  .obtain⟨x1,x2,x3⟩:=a9n t d a h0 hn;simp only[f1,(b5B (by omega):decide ((40:Int)<(nE t a:Int))=true),x1,x2,x3,b5D,b5y,b4T,b4R,b4V,b4U,b5l,b5m,b5v,b5z,b5d,b5M,b5e,O,aK];repeat' (first|intro _|apply And.intro)
   all_goals first|exact True.intro|omega|with_reducible rfl|decide
  .simp only[f1,c1,(b5c (by omega):decide ((40:Int)<(nE t a:Int))=false),b5D,b5y,b4T,b4R,b4V,b4U,b5l,b5m,b5v,b5z,b5d,b5M,b5e,O,aK];refine⟨by omega,⟨0,⟨b5Y _,by omega⟩,by omega,⟨rfl,rfl⟩,rfl⟩,λ j2 hj=>⟨λ e2=>?_,λ e2=>?_⟩⟩
   .have e2':=b5E e2;exact⟨by omega,j2+1,⟨by omega,by omega⟩,by omega,by omega,⟨by rw[dP],by rw[dP]⟩,by rw[dP,J.eta]⟩
   .have e2':=b6L e2;have hj2:j2=nE t a:=by omega
    subst hj2;refine⟨⟨0,⟨b5Y _,by omega,by omega⟩,rfl,by omega,⟨rfl,rfl⟩,rfl⟩,λ m3 hm3=>⟨⟨by omega,by omega,by omega,by decide,by decide⟩,λ e3=>⟨λ e4=>?_,λ e4=>?_⟩,λ e3=>?_⟩⟩
    .have g3:=z2 m3 hm3.1;rw[e3] at g3;have g3':=b5E g3.symm;have e4':=b5E e4;obtain⟨x1,x2,x3⟩:=a6O t d a hn (by omega);rw[xp t _ 42 e3,x1,x2,x3];exact⟨⟨rfl,rfl⟩,by omega⟩
    .have g3:=z2 m3 hm3.1;rw[e3] at g3;have g3':=b5E g3.symm;have e4':=b6L e4;rw[xp t _ 42 e3];exact⟨by omega,m3+1,⟨by omega,by omega,by omega⟩,by omega,by omega,by omega,⟨by rw[dP],by rw[dP]⟩,by rw[dP,J.eta]⟩
    .have g3:=z2 m3 hm3.1;rw[e3] at g3;have g3':=b6L g3.symm;have hm:m3=mE t d a:=by omega
     subst hm;obtain⟨x1,x2,x3⟩:=a9m t d a hn (by omega);rw[FR t _ _ e3,x1,x2,x3,J.eta];exact⟨⟨rfl,rfl⟩,rfl⟩
def Y9:∀ n,gF [hJ n,hU n]
 | 0=>⟨⟨ar lP,λ _ _ _ h=>absurd h.1 (b5H _)⟩,⟨ar iA,λ _ _ _ h=>absurd h.1 (b5H _)⟩,ae⟩
 | n+1=>by
  have ih:=Y9 n;exact⟨HO n trivial ⟨SM,Ev,ae⟩ trivial ⟨pM,CA,ih.2.1,ae⟩,HP n trivial ⟨Ev,ae⟩ trivial ⟨pM,ih.1,ae⟩,ae⟩
def EB:fG.Good ub :=
 ⟨ar iA,λ d t a hp=>(Y9 (2 * (d+1).toNat+1+1)).2.1.2 d t a (⟨b5C _,hp⟩)⟩
def V5(c:UInt8):∀ l:List UInt8,cJ c l<=l.length
 | []=>b5w _
 | b::l=>by
  have:=V5 c l;unfold cJ;split<;>simp<;>omega
def V2:∀ l:List UInt8,n6 l<=l.length
 | []=>b5w _
 | b::l=>by
  have:=V2 l;unfold n6;split<;>simp<;>omega
def tf(t:List UInt8)(a:Nat)(h:¬ cm t a=0):a<t.length:=by
 unfold cm at h;split at h
 .assumption
 .exact absurd rfl h
def FQ(t:List UInt8)(a:Nat)(c:Int)(hc:¬ c=0)(h:a<=t.length):dH t a c<=t.length:=by
 unfold dH;split
 .rename_i e;have:=tf t a (by rw[e];exact hc);omega
 .exact h
def a6E(t:List UInt8)(r:RS)(h:r.a<=t.length):(CC t r).a<=t.length/\(CC t r).dp=r.dp - 1:=by
 have:=V5 42 (t.drop r.a);simp only[List.length_drop] at this;unfold CC;split
 .exact⟨h,rfl⟩
 .exact⟨by show r.a+cJ 42 (t.drop r.a)<=_;omega,rfl⟩
structure Bnd(t:List UInt8)(dp m:Nat)(r:RS):Prop where
 a:r.a<=t.length
 lo:dp<=r.dp
 hi:r.dp<=m
def Ka(inner:Nat->Nat->RS)(t:List UInt8)(a dp:Nat)(bad:Bool)(ha:a<=t.length)(hi:dp+1<=100->bad=false->Bnd t (dp+1) 102 (inner a (dp+1))):Bnd t dp (max 101 (dp+1)) (dX inner t a dp bad):=by
 unfold dX;split
 .exact⟨ha,b8U _,by show dp+1<=_;omega⟩
 .rename_i h;have hb:bad=false:=by cases bad<;>simp_all
  have g:=hi (by omega) hb;have s:=a6E t _ g.a;have:=g.lo;have:=g.hi;exact⟨s.1,by rw[s.2];omega,by rw[s.2];omega⟩
def XO(inner:Nat->Nat->RS)(t:List UInt8)(x:RS)(k:Int)(a dp:Nat)(bad:Bool)(hd:dp<=100)(ha:a<=t.length)(hx:Bnd t dp 101 x)(hb:bad=false->x.dp=dp)(hi:dp+1<=100->∀ a,a<=t.length->Bnd t (dp+1) 102 (inner a (dp+1))) :
  Bnd t dp 102 (Cz inner t x k a bad):=by
 have:=hx.lo;have:=hx.hi;have hy:=Ka inner t a x.dp bad ha (λ h1 h2=>by rw[hb h2] at h1 ⊢;exact hi h1 a ha);have:=hy.lo;have:=hy.hi;unfold Cz;exact⟨FQ t _ 41 (by decide) hy.a,by show dp<=(dX inner t a x.dp bad).dp;omega,by show (dX inner t a x.dp bad).dp<=102;omega⟩
def EC(t:List UInt8)(a:Nat)(c:Int)(bad:Bool)(h:fK t a c bad=false):bad=false:=by
 unfold fK at h;split at h
 .exact h
 .cases h
def ZX(inner:Nat->Nat->RS)(t:List UInt8)(x:RS)(dp:Nat)(hd:dp<=100)(hx:Bnd t dp 101 x)(hb:x.bad=false->x.dp=dp)(hi:dp+1<=100->∀ a,a<=t.length->Bnd t (dp+1) 102 (inner a (dp+1))) :
  Bnd t dp 102 (vZ inner t x):=by
 have h1:=FQ t x.a 32 (by decide) hx.a;unfold vZ;split
 .rename_i e;have h2:=tf t (dH t x.a 32) (by rw[e];decide);exact XO inner t x 6 _ dp _ hd (FQ t _ 32 (by decide) (by omega)) hx (λ h=>hb (EC t _ _ _ (EC t _ _ _ h))) hi
 .exact XO inner t x 7 _ dp _ hd h1 hx (λ h=>hb (EC t _ _ _ h)) hi
def iH(t:List UInt8)(g a dp:Nat):cD t g a dp=if cm t a=48 then ⟨J.mk 1 0 [],a+1,dp,false⟩ else if cm t a=49 then ⟨J.mk 2 0 [],a+1,dp,false⟩ else
  if cm t a=116\/cm t a=97 then o6 t a dp else
  if cm t a=126 then (match g with
   | 0=>⟨zX,a+1,dp+1,true⟩
   | g+1=>⟨J.mk 5 0 [(cD t g (a+1) (dp+1)).e],(cD t g (a+1) (dp+1)).a,(cD t g (a+1) (dp+1)).dp - 1,(cD t g (a+1) (dp+1)).bad⟩) else
  if cm t a=40 then (match g with
   | 0=>vZ (λ _ _=>⟨zX,0,0,true⟩) t (dX (λ _ _=>⟨zX,0,0,true⟩) t (a+1) dp false)
   | g+1=>vZ (cD t g) t (dX (cD t g) t (a+1) dp false)) else ⟨zX,a,dp,true⟩:=by
 exact cD.eq_def t g a dp
def yK(t:List UInt8):∀ (g a dp:Nat),g+dp=100->a<=t.length->Bnd t dp 102 (cD t g a dp)
 | g,a,dp,hg,ha=>by
  have lt:∀ c:Int,¬ c=0->cm t a=c->a+1<=t.length:=λ c hc h=>tf t a (by rw[h];exact hc);rw[iH];split
  .rename_i h;exact⟨lt _ (by decide) h,b5w _,by show dp<=102;omega⟩
  .split
   .rename_i h;exact⟨lt _ (by decide) h,b5w _,by show dp<=102;omega⟩
   .split
    .rename_i h;have h1:a+1<=t.length:=by rcases h with h|h<;>exact lt _ (by decide) h
     have:=V2 (t.drop (a+1));simp only[b6f] at this;exact⟨by show a+1+n6 (t.drop (a+1))<=_;omega,b5w _,by show dp<=102;omega⟩
    .split
     .rename_i h;have h1:=lt _ (by decide) h;cases g with
      | zero=>exact⟨h1,b8U _,by show dp+1<=102;omega⟩
      | succ g =>
       have ih:=yK t g (a+1) (dp+1) (by omega) h1;have:=ih.lo;have:=ih.hi;exact⟨ih.a,by show dp<=(cD t g (a+1) (dp+1)).dp - 1;omega,by show (cD t g (a+1) (dp+1)).dp - 1<=102;omega⟩
     .split
      .rename_i h;have h1:=lt _ (by decide) h;cases g with
       | zero =>
        have hx:=Ka (λ _ _=>⟨zX,0,0,true⟩) t (a+1) dp false h1 (λ h=>by omega);refine ZX _ t _ dp (by omega) ⟨hx.a,hx.lo,by have:=hx.hi;omega⟩ (λ hb=>?_) (λ h=>by omega);exact ((rN (λ _ _=>⟨zX,0,0,true⟩) t (a+1) dp false (λ h=>by omega)).ex hb).1
       | succ g =>
        have hx:=Ka (cD t g) t (a+1) dp false h1 (λ _ _=>yK t g (a+1) (dp+1) (by omega) h1);refine ZX _ t _ dp (by omega) ⟨hx.a,hx.lo,by have:=hx.hi;omega⟩ (λ hb=>?_) (λ _ a' ha'=>yK t g a' (dp+1) (by omega) ha');exact ((rN (cD t g) t (a+1) dp false (λ _=>Fo t g (a+1) (dp+1) (by omega))).ex hb).1
      .exact⟨ha,b5w _,by show dp<=102;omega⟩
def ez(t:List UInt8)(a dp:Int):RS:=cD t (100 - dp).toNat a.toNat dp.toNat
def ia(t:List UInt8)(a dp:Int)(bad:Bool):RS:=dX (cD t (99 - dp).toNat) t a.toNat dp.toNat bad
def sE(t:List UInt8)(r:RS):Nat:=if r.bad=true then 0 else cJ 42 (t.drop r.a)
def a8Y(t:List UInt8)(r:RS):CC t r=⟨cr 8 (sE t r) r.e,r.a+sE t r,r.dp - 1,r.bad⟩:=by
 unfold CC sE;cases r.bad<;>rfl
def Qm(t:List UInt8)(a dp:Int)(h0:0<=a)(h1:a<=(t.length:Int))(h2:0<=dp)(h3:dp<=100):((ez t a dp).a:Int)<=(t.length:Int)/\dp<=((ez t a dp).dp:Int)/\((ez t a dp).dp:Int)<=102:=by
 have g:=yK t (100 - dp).toNat a.toNat dp.toNat (by omega) (by omega);have:=g.a;have:=g.lo;have:=g.hi;unfold ez;omega
def Vj(t:List UInt8)(a dp:Int)(bad:Bool)(h0:0<=a)(h1:a<=(t.length:Int))(h2:0<=dp):((ia t a dp bad).a:Int)<=(t.length:Int)/\dp<=((ia t a dp bad).dp:Int)/\(((ia t a dp bad).dp:Int)<=101\/((ia t a dp bad).dp:Int)<=dp+1):=by
 have g:=Ka (cD t (99 - dp).toNat) t a.toNat dp.toNat bad (by omega) (λ h _=>yK t (99 - dp).toNat a.toNat (dp.toNat+1) (by omega) (by omega));have:=g.a;have:=g.lo;have:=g.hi;unfold ia;omega
def a1K(t:List UInt8)(a dp:Int)(bad:Bool)(h0:0<=a)(h2:0<=dp)(h:bad=true\/100<dp+1):(ia t a dp bad).e=zX/\((ia t a dp bad).a:Int)=a/\((ia t a dp bad).dp:Int)=dp+1/\(ia t a dp bad).bad=true:=by
 unfold ia dX;rw[if_pos (by rcases h with h|h;exact .inl h;exact .inr (by omega))];exact⟨rfl,by show ((a.toNat:Nat):Int)=a;omega,by show ((dp.toNat+1:Nat):Int)=dp+1;omega,rfl⟩
def b1E(t:List UInt8)(a dp:Int)(bad:Bool)(h0:0<=a)(h2:0<=dp)(h:bad=false)(h':¬ 100<dp+1):ia t a dp bad=CC t (ez t a (dp+1)):=by
 unfold ia dX ez;rw[if_neg (by rw[h];rintro (g|g);cases g;omega),show (100 - (dp+1)).toNat=(99 - dp).toNat by omega,show (dp+1).toNat=dp.toNat+1 by omega]
def a9x(t:List UInt8)(a dp:Int)(bad:Bool)(h0:0<=a)(h1:a<=(t.length:Int))(h2:0<=dp)(h:bad=false)(h':¬ 100<dp+1):(ia t a dp bad).e=cr 8 (sE t (ez t a (dp+1))) (ez t a (dp+1)).e/\((ia t a dp bad).a:Int)=((ez t a (dp+1)).a:Int)+(sE t (ez t a (dp+1)):Int) /\
  ((ia t a dp bad).dp:Int)=((ez t a (dp+1)).dp:Int) - 1/\(ia t a dp bad).bad=(ez t a (dp+1)).bad:=by
 have:=Qm t a (dp+1) h0 h1 (by omega) (by omega);rw[b1E t a dp bad h0 h2 h h',a8Y];refine⟨rfl,by simp,?_,rfl⟩;show (((ez t a (dp+1)).dp - 1:Nat):Int)=_;omega
def b2o(t:List UInt8)(a dp:Int)(h0:0<=a)(h1:a<=(t.length:Int))(h2:0<=dp)(h3:dp<=100):((ez t a dp).a:Int)+(sE t (ez t a dp):Int)<=(t.length:Int):=by
 have:=Qm t a dp h0 h1 h2 h3;have h:=V5 42 (t.drop (ez t a dp).a);simp only[List.length_drop] at h;unfold sE;split<;>omega
structure is4(r:RS)(e:J)(a dp:Int)(bad:Bool):Prop where
 e:r.e=e
 a:(r.a:Int)=a
 dp:(r.dp:Int)=dp
 bad:r.bad=bad
def b3J(t:List UInt8)(a dp:Int)(h0:0<=a)(h2:0<=dp)(h:cm t a.toNat=48):is4 (ez t a dp) (J.mk 1 0 []) (a+1) dp false:=by
 unfold ez;rw[iH,if_pos h];exact⟨rfl,by show ((a.toNat+1:Nat):Int)=_;omega,by show ((dp.toNat:Nat):Int)=_;omega,rfl⟩
def b3K(t:List UInt8)(a dp:Int)(h0:0<=a)(h2:0<=dp)(h:cm t a.toNat=49):is4 (ez t a dp) (J.mk 2 0 []) (a+1) dp false:=by
 unfold ez;rw[iH,if_neg (by rw[h];decide),if_pos h];exact⟨rfl,by show ((a.toNat+1:Nat):Int)=_;omega,by show ((dp.toNat:Nat):Int)=_;omega,rfl⟩
def a2b(t:List UInt8)(a dp:Int)(h:cm t a.toNat=116\/cm t a.toNat=97):ez t a dp=o6 t a.toNat dp.toNat:=by
 unfold ez;rw[iH,if_neg (by rcases h with h|h<;>rw[h]<;>decide),if_neg (by rcases h with h|h<;>rw[h]<;>decide),if_pos h]
def a9I(t:List UInt8)(a dp:Int)(h0:0<=a)(h1:a+1<=(t.length:Int))(h2:0<=dp)(h3:¬ 100<dp+1)(h:cm t a.toNat=126):is4 (ez t a dp) (J.mk 5 0 [(ez t (a+1) (dp+1)).e]) ((ez t (a+1) (dp+1)).a:Int) (((ez t (a+1) (dp+1)).dp:Int) - 1) (ez t (a+1) (dp+1)).bad:=by
 have hb:=Qm t (a+1) (dp+1) (by omega) (by omega) (by omega) (by omega);have e:ez t a dp=⟨J.mk 5 0 [(ez t (a+1) (dp+1)).e],(ez t (a+1) (dp+1)).a,(ez t (a+1) (dp+1)).dp - 1,(ez t (a+1) (dp+1)).bad⟩:=by
  unfold ez;obtain⟨g,hg⟩:∃ g,(100 - dp).toNat=g+1:=⟨(99 - dp).toNat,by omega⟩;rw[show (100 - (dp+1)).toNat=g by omega,show (a+1).toNat=a.toNat+1 by omega,show (dp+1).toNat=dp.toNat+1 by omega,hg];conv=>lhs;rw[iH]
  rw[b4Z (by rw[h];decide),b4Z (by rw[h];decide),b4Z (by rw[h];decide),b5u h]
 rw[e];exact⟨rfl,rfl,by show (((ez t (a+1) (dp+1)).dp - 1:Nat):Int)=_;omega,rfl⟩
def a7V(t:List UInt8)(a dp:Int)(h0:0<=a)(h2:0<=dp)(h3:100<dp+1)(h:cm t a.toNat=126):is4 (ez t a dp) zX (a+1) (dp+1) true:=by
 unfold ez;rw[show (100 - dp).toNat=0 by omega,iH,if_neg (by rw[h];decide),if_neg (by rw[h];decide),if_neg (by rw[h];decide),if_pos h];exact⟨rfl,by show ((a.toNat+1:Nat):Int)=_;omega,by show ((dp.toNat+1:Nat):Int)=_;omega,rfl⟩
def a7W(t:List UInt8)(a dp:Int)(h0:0<=a)(h2:0<=dp)(h:¬ cm t a.toNat=48/\¬ cm t a.toNat=49/\¬ cm t a.toNat=116/\¬ cm t a.toNat=97/\¬ cm t a.toNat=126/\¬ cm t a.toNat=40):is4 (ez t a dp) zX a dp true:=by
 unfold ez;rw[iH,if_neg h.1,if_neg h.2.1,if_neg (by rintro (g|g);exact h.2.2.1 g;exact h.2.2.2.1 g),if_neg h.2.2.2.2.1,if_neg h.2.2.2.2.2];exact⟨rfl,by show ((a.toNat:Nat):Int)=_;omega,by show ((dp.toNat:Nat):Int)=_;omega,rfl⟩
def yE(t:List UInt8)(x:RS)(a:Int)(bad:Bool):RS:=ia t a (x.dp:Int) bad
def ZU(inner:Nat->Nat->RS)(t:List UInt8)(x:RS)(k:Int)(a:Nat)(bad:Bool)(hi:dX inner t a x.dp bad=yE t x (a:Int) bad) :
  is4 (Cz inner t x k a bad) (J.mk k 0 [x.e,(yE t x (a:Int) bad).e]) ((dH t (yE t x (a:Int) bad).a 41:Nat):Int) ((yE t x (a:Int) bad).dp:Int) (fK t (yE t x (a:Int) bad).a 41 (yE t x (a:Int) bad).bad):=by
 unfold Cz;rw[hi];exact⟨rfl,rfl,rfl,rfl⟩
def a7X(t:List UInt8)(a dp:Int)(h0:0<=a)(h1:a+1<=(t.length:Int))(h2:0<=dp)(h3:dp<=100)(h:cm t a.toNat=40)(X:RS)(hX:X=ia t (a+1) dp false) :
  (cm t (dH t X.a 32)=43->is4 (ez t a dp) (J.mk 6 0 [X.e,(yE t X ((dH t (dH t X.a 32+1) 32:Nat):Int) (fK t (dH t X.a 32+1) 32 (fK t X.a 32 X.bad))).e]) ((dH t (yE t X ((dH t (dH t X.a 32+1) 32:Nat):Int) (fK t (dH t X.a 32+1) 32 (fK t X.a 32 X.bad))).a 41:Nat):Int)
   ((yE t X ((dH t (dH t X.a 32+1) 32:Nat):Int) (fK t (dH t X.a 32+1) 32 (fK t X.a 32 X.bad))).dp:Int) (fK t (yE t X ((dH t (dH t X.a 32+1) 32:Nat):Int) (fK t (dH t X.a 32+1) 32 (fK t X.a 32 X.bad))).a 41 (yE t X ((dH t (dH t X.a 32+1) 32:Nat):Int) (fK t (dH t X.a 32+1) 32 (fK t X.a 32 X.bad))).bad)) /\
  (¬ cm t (dH t X.a 32)=43->is4 (ez t a dp) (J.mk 7 0 [X.e,(yE t X ((dH t X.a 32:Nat):Int) (fK t X.a 32 X.bad)).e]) ((dH t (yE t X ((dH t X.a 32:Nat):Int) (fK t X.a 32 X.bad)).a 41:Nat):Int)
   ((yE t X ((dH t X.a 32:Nat):Int) (fK t X.a 32 X.bad)).dp:Int) (fK t (yE t X ((dH t X.a 32:Nat):Int) (fK t X.a 32 X.bad)).a 41 (yE t X ((dH t X.a 32:Nat):Int) (fK t X.a 32 X.bad)).bad)):=by
 have key:∃ inner:Nat->Nat->RS,ez t a dp=vZ inner t X/\∀ (a:Nat) (bad:Bool),(bad=false->X.bad=false)->dX inner t a X.dp bad=yE t X (a:Int) bad:=by
  have hXd:X.bad=false->X.dp=dp.toNat:=by
   intro hb;rw[hX] at hb ⊢;exact ((rN (cD t (99 - dp).toNat) t (a+1).toNat dp.toNat false (λ h=>Fo t _ _ _ (by omega))).ex hb).1
  by_cases hd:dp<100
  .obtain⟨g,hg⟩:∃ g,(100 - dp).toNat=g+1:=⟨(99 - dp).toNat,by omega⟩;refine⟨cD t g,?_,λ a' bad hb=>?_⟩
   .have eX:X=dX (cD t g) t (a.toNat+1) dp.toNat false:=by
     rw[hX,ia,show (99 - dp).toNat=g by omega,show (a+1).toNat=a.toNat+1 by omega]
    unfold ez;rw[hg];conv=>lhs;rw[iH]
    rw[b4Z (by rw[h];decide),b4Z (by rw[h];decide),b4Z (by rw[h];decide),b4Z (by rw[h];decide),b5u h,eX]
   .unfold yE ia;rw[Int.toNat_natCast,Int.toNat_natCast];cases bad with
    | true=>rfl
    | false=>rw[hXd (hb rfl),show (99 - (dp.toNat:Int)).toNat=g by omega]
  .have hz:(100 - dp).toNat=0:=by omega
   refine⟨λ _ _=>⟨zX,0,0,true⟩,?_,λ a' bad hb=>?_⟩
   .have eX:X=dX (λ _ _=>⟨zX,0,0,true⟩) t (a.toNat+1) dp.toNat false:=by
     rw[hX,ia,show (a+1).toNat=a.toNat+1 by omega];unfold dX;rw[if_pos (.inr (by omega)),if_pos (.inr (by omega))]
    unfold ez;rw[hz];conv=>lhs;rw[iH]
    rw[b4Z (by rw[h];decide),b4Z (by rw[h];decide),b4Z (by rw[h];decide),b4Z (by rw[h];decide),b5u h,eX]
   .have hlo:dp.toNat<=X.dp:=by
     have:=Vj t (a+1) dp false (by omega) (by omega) h2;rw[<-hX] at this;omega
    unfold yE ia;rw[Int.toNat_natCast,Int.toNat_natCast];unfold dX;rw[if_pos (.inr (by omega)),if_pos (.inr (by omega))]
 obtain⟨inner,k1,k2⟩:=key;rw[k1];unfold vZ;refine⟨λ hp=>?_,λ hp=>?_⟩
 .rw[b5u hp];exact ZU inner t X 6 _ _ (k2 _ _ λ hb=>EC t _ _ _ (EC t _ _ _ hb))
 .rw[b4Z hp];exact ZU inner t X 7 _ _ (k2 _ _ λ hb=>EC t _ _ _ hb)
def V3:∀ (l:List UInt8) (k:Nat),k<=n6 l->(k<n6 l↔∃ b r,l.drop k=b::r/\fB b=true)
 | [],k,h=>by simp[n6]
 | b::l,k,h=>by
  unfold n6 at h ⊢;split at h
  .rename_i e;rw[b5u e];cases k with
   | zero=>exact⟨λ _=>⟨b,l,rfl,e⟩,λ _=>by omega⟩
   | succ k =>
    have:=V3 l k (by omega);rw[b7D,<-this];omega
  .rename_i e;rw[b4Z e];have hk:k=0:=by omega
   subst hk;refine⟨λ h=>by omega,λ ⟨c,r,hr,hc⟩=>?_⟩;simp only[b7b,b4X] at hr;rw[hr.1] at e;exact absurd hc e
def a9X(t:List UInt8)(n k:Nat)(h:k<=n6 (t.drop n)):(48<=cm t (n+k)/\cm t (n+k)<=57)↔k<n6 (t.drop n):=by
 rw[V3 _ k h,b6C];constructor
 .intro hp;have hl:=tf t (n+k) (by omega);refine⟨t.getD (n+k) 0,t.drop (n+k+1),?_,?_⟩
  .rw[b6E hl,b5b,b5p hl];rfl
  .unfold cm at hp;rw[if_pos hl] at hp;unfold fB;rw[decide_eq_true (by omega),decide_eq_true (by omega)];rfl
 .rintro⟨b,r,h1,h2⟩;rw[gb h1];simp only[fB,b4S,b4N] at h2;omega
def nD(t:List UInt8)(a:Int):Nat:=n6 (t.drop (a+1).toNat)
def b2h(t:List UInt8)(a:Int)(k:Nat)(h0:0<=a)(h:k<=nD t a):(48<=cm t (a+1+(k:Int)).toNat/\cm t (a+1+(k:Int)).toNat<=57)↔k<nD t a:=by
 rw[show (a+1+(k:Int)).toNat=(a+1).toNat+k by omega];exact a9X t _ k h
def b2b(t:List UInt8)(a:Int)(h0:0<=a)(h1:a+1<=(t.length:Int)):a+1+(nD t a:Int)<=(t.length:Int):=by
 have:=V2 (t.drop (a+1).toNat);simp only[List.length_drop] at this;unfold nD;omega
def nmE(t:List UInt8)(a:Int):List UInt8:=(t.drop (a+1).toNat).take (nD t a)
def nmK(t:List UInt8)(a:Int):Int:=if cm t a.toNat=97 then 4 else 3
def b2f(t:List UInt8)(a:Int)(h:cm t a.toNat=97):nmK t a=4:=b5u h
def b2e(t:List UInt8)(a:Int)(h:¬ cm t a.toNat=97):nmK t a=3:=b4Z h
def Xw(t:List UInt8)(a dp:Int)(h0:0<=a)(h2:0<=dp):is4 (o6 t a.toNat dp.toNat) (J.mk (nmK t a) (kP 9 (nmE t a)) []) (a+1+(nD t a:Int)) dp (!nC 9 (nmE t a)):=by
 unfold o6 nmE XF nD;rw[show (a+1).toNat=a.toNat+1 by omega];exact⟨rfl,by show ((a.toNat+1+n6 (t.drop (a.toNat+1)):Nat):Int)=_;omega,by show ((dp.toNat:Nat):Int)=_;omega,rfl⟩
def Vq(t:List UInt8)(a:Int)(k:Nat)(h0:0<=a)(h:k=nD t a):(t.take (Int.toNat (a+1+(k:Int)))).drop (Int.toNat (a+1))=nmE t a:=by
 rw[List.drop_take];unfold nmE;congr 1;omega
def b0e(t:List UInt8)(r:RS)(h:r.bad=true):sE t r=0:=by unfold sE;rw[if_pos h]
def b2n(t:List UInt8)(r:RS)(m:Nat)(h:r.bad=false)(hm:m<=sE t r):cm t ((r.a:Int)+(m:Int)).toNat=42↔m<sE t r:=by
 have e:sE t r=cJ 42 (t.drop r.a):=by unfold sE;rw[h];rfl
 rw[e] at hm ⊢;rw[show ((r.a:Int)+(m:Int)).toNat=r.a+m by omega];have key:∀ (l:List UInt8) (k:Nat),k<=cJ 42 l->(k<cJ 42 l↔∃ r,l.drop k=42::r):=by
  intro l;induction l with
  | nil=>intro k h;simp[cJ]
  | cons b l ih =>
   intro k h;unfold cJ at h ⊢;split at h
   .rename_i e;rw[b5u e];cases k with
    | zero=>exact⟨λ _=>⟨l,by rw[e];rfl⟩,λ _=>by omega⟩
    | succ k =>
     have:=ih k (by omega);rw[b7D,<-this];omega
   .rename_i e;rw[b4Z e];have hk:k=0:=by omega
    subst hk;refine⟨λ h=>by omega,λ ⟨r,hr⟩=>?_⟩;simp only[b7b,b4X] at hr;exact absurd hr.1 e
 rw[key _ m hm,b6C];constructor
 .intro hp;exact um t _ 42 (by decide) hp
 .rintro⟨r,hr⟩;exact gb hr
def b4b(t:List UInt8)(a c:Int)(h0:0<=a)(h:cm t a.toNat=c):((dH t a.toNat c:Nat):Int)=a+1/\fK t a.toNat c false=false:=by
 unfold dH fK;rw[if_pos h,if_pos h];exact⟨by omega,rfl⟩
def cM:fG:=⟨qT,[[.d .str, .d (.int .i64), .d (.int .i64), .d .bool]],[.b 0],[[.str,(.int .i64),(.int .i64), .bool]],λ (t:List UInt8) (a:Int) (dp:Int) (bad:Bool)=>⟨(some (0<=a/\a<=(t.length:Int)/\t.length<=10000),[⟨(.int .u8),cm t a.toNat⟩],[[⟨.str,t⟩,⟨(.int .i64),a⟩,⟨(.int .i64),dp⟩,⟨.bool,bad⟩]])⟩⟩
def D7(t:List UInt8)(a:Int)(dp:Int)(bad:Bool):Nat->aA:=bJ
def dN:fG.Good cM:=by
 refine⟨ar pq,?_⟩;intro (t:List UInt8) (a:Int) (dp:Int) (bad:Bool) (hp:0<=a/\a<=(t.length:Int)/\t.length<=10000);refine gQ [] [] [] [] [] [] [] [] trivial trivial trivial trivial pq Ak (D7 t a dp bad) rfl rfl (let v0:=(t=t/\(a=a/\(dp=dp/\bad=bad)))/\True;let v1:=decide (a<((t.length:Int)));((O a->(t.length<=140737488355328->(O ((t.length:Int))->((v1=true->(t.length<=140737488355328->(O a->(ak a t.length/\((((t.getD (Int.toNat a) 0).toNat:Int))=(cm t a.toNat)/\v0)))))/\(v1=false->((0:Int)=(cm t a.toNat)/\v0)))))))) ?_;refine λ _ _ _=>⟨λ _ _ _=>⟨?_,?_,⟨rfl,rfl,rfl,rfl⟩,ae⟩,λ _=>⟨?_,⟨rfl,rfl,rfl,rfl⟩,ae⟩⟩;all_goals try and_intros
 all_goals first|rfl|trivial|omega|(simp only[decide_eq_true_eq,decide_eq_false_iff_not,ak,O] at *;first|omega|grind [cm,dH,fK])
def jE:fG:=⟨qU,[[.d .str, .d (.int .i64), .d (.int .i64), .d .bool]],[.b 0, .v (.int .u8)],[[.str,(.int .i64),(.int .i64), .bool]],λ (b:Int) (t:List UInt8) (a:Int) (dp:Int) (bad:Bool)=>⟨(some (0<=a/\a<=(t.length:Int)/\t.length<=10000),[],[[⟨.str,t⟩,⟨(.int .i64),((dH t a.toNat b:Nat):Int)⟩,⟨(.int .i64),dp⟩,⟨.bool,fK t a.toNat b bad⟩]])⟩⟩
def D8(b:Int)(t:List UInt8)(a:Int)(dp:Int)(bad:Bool):Nat->aA:=bJ
def zR:fG.Good jE:=by
 refine⟨ar pr,?_⟩;intro (b:Int) (t:List UInt8) (a:Int) (dp:Int) (bad:Bool) (hp:0<=a/\a<=(t.length:Int)/\t.length<=10000);refine gQ [] [] [] [cM] [] [] [] [] trivial trivial trivial ⟨dN,ae⟩ pr Al (D8 b t a dp bad) rfl rfl (let v0 := !(decide ((cm t a.toNat)=b));let v1:=((dH t a.toNat b:Nat):Int);(((0<=a/\a<=(t.length:Int)/\t.length<=10000)/\((v0=true->(True/\((t=t/\(a=v1/\(dp=dp/\true=(fK t a.toNat b bad))))/\True)))/\(v0=false->(O a->(O (a+(1:Int))/\(True/\((t=t/\((a+(1:Int))=v1/\(dp=dp/\bad=(fK t a.toNat b bad))))/\True))))))))) ?_;obtain⟨h0,h1,h2⟩:=hp;by_cases h:cm t a.toNat=b
 .have e1:((dH t a.toNat b:Nat):Int)=a+1:=by unfold dH;rw[if_pos h];omega
  have e2:fK t a.toNat b bad=bad:=by unfold fK;rw[if_pos h]
  simp only[e1,e2,h,b5D,b5y,b4T,b4R,b4V,b4U,b5l,b5m,b5v,b5z,O];repeat' (first|intro _|apply And.intro)
  all_goals first|trivial|omega
 .have e1:((dH t a.toNat b:Nat):Int)=a:=by unfold dH;rw[if_neg h];omega
  have e2:fK t a.toNat b bad=true:=by unfold fK;rw[if_neg h]
  simp only[e1,e2,h,b5D,b5y,b4T,b4R,b4V,b4U,b5l,b5m,b5v,b5z,O];repeat' (first|intro _|apply And.intro)
  all_goals first|trivial|omega
def jD:fG:=⟨qR,[[.d .str, .d (.int .i64), .d (.int .i64), .d .bool]],[.b 0],[[.str,(.int .i64),(.int .i64), .bool]],λ (t:List UInt8) (a:Int) (dp:Int) (bad:Bool)=>⟨(some (0<=a/\a<=(t.length:Int)/\t.length<=10000/\0<=dp/\(cm t a.toNat=116\/cm t a.toNat=97)/\bad=false),[⟨(.st .expr),(o6 t a.toNat dp.toNat).e⟩],[[⟨.str,t⟩,⟨(.int .i64),((o6 t a.toNat dp.toNat).a:Int)⟩,⟨(.int .i64),dp⟩,⟨.bool,(o6 t a.toNat dp.toNat).bad⟩]])⟩⟩
def D5(t:List UInt8)(a:Int)(dp:Int)(bad:Bool):Nat->aA:=(cQ 0 (.a (Nat) (λ k=>k<=nD t a) (λ k=>nD t a - k) [7,8,9,10,11,12,13,14,15,16,17,18,19,20,21,22] (λ k=>[(4, .aH ⟨(.int .i64),(a+1:Int)⟩)]) [2] (λ k=>[(400000, .box [.aH ⟨.str,(t:List UInt8)⟩, .aH ⟨(.int .i64),(a+1+(k:Int):Int)⟩, .aH ⟨(.int .i64),(dp:Int)⟩, .aH ⟨.bool,(bad:Bool)⟩]),(3, .box [.aH ⟨(.int .i64),(nmK t a:Int)⟩, .aH ⟨(.int .i64),((0:Int):Int)⟩, .nil])])) bJ)
def zP:fG.Good jD:=by
 refine⟨ar po,?_⟩;intro (t:List UInt8) (a:Int) (dp:Int) (bad:Bool) (hp:0<=a/\a<=(t.length:Int)/\t.length<=10000/\0<=dp/\(cm t a.toNat=116\/cm t a.toNat=97)/\bad=false);refine gQ [Bp] [] [] [cM] [] [] [] [] ⟨II,ae⟩ trivial trivial ⟨dN,ae⟩ po Ai (D5 t a dp bad) rfl rfl (let v0:=o6 t a.toNat dp.toNat;let v2:=Int.toNat (a+1);let v3:=(0:Int)=(0:Int)/\(True/\True);let v4:=True/\(True/\(True/\((a+1)=(a+1)/\True)));let v5:=dp=dp/\(bad=bad/\True);let v6:=(1:Int);let v7:=dp=dp/\true=(v0.bad);let v8:=((0:Int)=(0:Int)/\v3)/\True;let v9:=nmK t a;let v1:=(v9=v9/\v3)/\v8;let va:=(v0.a:Int);let vc:=(t.length:Int);let vd:=decide ((cm t a.toNat)=(97:Int));let ve:=a+v6;let vb:=True/\(True/\(True/\(ve=(a+1)/\True)));(((0<=a/\a<=vc/\t.length<=10000)/\((vd=true->(O a->(O ve/\(O ve->((∃ k1:Nat,(k1<=nD t a/\(vb/\((t=t/\(ve=(a+1+(k1:Int))/\v5))/\(((4:Int)=v9/\v3)/\v8)))))/\(∀ k1:Nat,let vf:=a+1+(k1:Int);let vg:=(t.take (Int.toNat vf)).drop v2;let vh:=(J.mk v9 (kP 9 vg) [])=(v0.e)/\((t=t/\(vf=va/\(dp=dp/\(!(nC 9 vg))=(v0.bad))))/\True);let vi:=(J.mk v9 (kP 9 vg) [])=(v0.e)/\((t=t/\(vf=va/\v7))/\True);let vj:=0<=vf/\vf<=vc/\t.length<=10000;let vk:=decide ((48:Int)<=(cm t vf.toNat));let vl:=decide ((cm t vf.toNat)<=(57:Int));(k1<=nD t a->(vj/\((vk=true->(vj/\((vl=true->(O vf->(O (vf+v6)/\(∃ k2:Nat,(k2<=nD t a/\(nD t a - k2<nD t a - k1/\(v4/\((t=t/\((vf+v6)=(a+1+(k2:Int))/\v5))/\v1))))))))/\(vl=false->(cB (a+1) vf t.length/\(t.length<=140737488355328->(O vf->(O (kP 9 vg)->((bad=false->vh)/\(bad=(!false)->vi))))))))))/\(vk=(!true)->((false=true->(O vf->(O (vf+v6)/\(∃ k2:Nat,(k2<=nD t a/\(nD t a - k2<nD t a - k1/\(v4/\((t=t/\((vf+v6)=(a+1+(k2:Int))/\v5))/\v1))))))))/\(false=false->(cB (a+1) vf t.length/\(t.length<=140737488355328->(O vf->(O (kP 9 vg)->((bad=false->vh)/\(bad=(!false)->vi))))))))))))))))))/\(vd=false->(O a->(O ve/\(O ve->((∃ k1:Nat,(k1<=nD t a/\(vb/\((t=t/\(ve=(a+1+(k1:Int))/\v5))/\(((3:Int)=v9/\v3)/\v8)))))/\(∀ k1:Nat,let vf:=a+1+(k1:Int);let vg:=(t.take (Int.toNat vf)).drop v2;let vh:=(J.mk v9 (kP 9 vg) [])=(v0.e)/\((t=t/\(vf=va/\(dp=dp/\(!(nC 9 vg))=(v0.bad))))/\True);let vi:=(J.mk v9 (kP 9 vg) [])=(v0.e)/\((t=t/\(vf=va/\v7))/\True);let vj:=0<=vf/\vf<=vc/\t.length<=10000;let vk:=decide ((48:Int)<=(cm t vf.toNat));let vl:=decide ((cm t vf.toNat)<=(57:Int));(k1<=nD t a->(vj/\((vk=true->(vj/\((vl=true->(O vf->(O (vf+v6)/\(∃ k2:Nat,(k2<=nD t a/\(nD t a - k2<nD t a - k1/\(v4/\((t=t/\((vf+v6)=(a+1+(k2:Int))/\v5))/\v1))))))))/\(vl=false->(cB (a+1) vf t.length/\(t.length<=140737488355328->(O vf->(O (kP 9 vg)->((bad=false->vh)/\(bad=(!false)->vi))))))))))/\(vk=(!true)->((false=true->(O vf->(O (vf+v6)/\(∃ k2:Nat,(k2<=nD t a/\(nD t a - k2<nD t a - k1/\(v4/\((t=t/\((vf+v6)=(a+1+(k2:Int))/\v5))/\v1))))))))/\(false=false->(cB (a+1) vf t.length/\(t.length<=140737488355328->(O vf->(O (kP 9 vg)->((bad=false->vh)/\(bad=(!false)->vi)))))))))))))))))))))) ?_;obtain⟨h0,h1,h2,h3,h4,h5⟩:=hp;subst h5;have l0:=tf t a.toNat (by omega);obtain⟨q1,q2,q3,q4⟩:=Xw t a dp h0 h3;have z:=λ k h=>b2h t a k h0 h;have b:=b2b t a h0 (by omega);simp only[q1,q2,q4,cB,b5D,b5y,b4T,b4R,b4V,b4U,b5l,b5m,b5v,b5z,b5d,b5M,b5e,O,aK];repeat' (first|intro _|apply And.intro)
 all_goals (try simp only[b4N,b4M] at *)
 all_goals first|exact True.intro|omega|with_reducible rfl|exact⟨0,b5Y _,by omega,(b2f t a (by omega)).symm⟩|exact⟨0,b5Y _,by omega,(b2e t a (by omega)).symm⟩|(rename_i k1 _ _ _ _;have g:=z k1 (by assumption);first|omega|exact⟨k1+1,by omega,by omega,by omega⟩|rw[Vq t a k1 h0 (by omega)])|(rename_i k1 _ _ _ _ _;have g:=z k1 (by assumption);first|omega|exact⟨k1+1,by omega,by omega,by omega⟩|rw[Vq t a k1 h0 (by omega)])|(rename_i k1 _ _ _ _ _ _;have g:=z k1 (by assumption);first|omega|exact⟨k1+1,by omega,by omega,by omega⟩|rw[Vq t a k1 h0 (by omega)])|(rename_i k1 _ _ _ _ _ _ _;have g:=z k1 (by assumption);first|omega|exact⟨k1+1,by omega,by omega,by omega⟩|rw[Vq t a k1 h0 (by omega)])
def dv(n:Nat):fG:=⟨pI,[[.d .str, .d (.int .i64), .d (.int .i64), .d .bool]],[.b 0],[[.str,(.int .i64),(.int .i64), .bool]],λ (t:List UInt8) (a:Int) (dp:Int) (bad:Bool)=>⟨(some (3 * (101 - dp).toNat+2<n/\0<=a/\a<=(t.length:Int)/\t.length<=10000/\0<=dp/\dp<=100/\bad=false),[⟨(.st .expr),(ez t a dp).e⟩],[[⟨.str,t⟩,⟨(.int .i64),((ez t a dp).a:Int)⟩,⟨(.int .i64),((ez t a dp).dp:Int)⟩,⟨.bool,(ez t a dp).bad⟩]])⟩⟩
def fI(n:Nat):fG:=⟨qS,[[.d .str, .d (.int .i64), .d (.int .i64), .d .bool]],[.b 0],[[.str,(.int .i64),(.int .i64), .bool]],λ (t:List UInt8) (a:Int) (dp:Int) (bad:Bool)=>⟨(some (3 * (101 - dp).toNat+1<n/\0<=a/\a<=(t.length:Int)/\t.length<=10000/\0<=dp/\dp<=100/\bad=false/\cm t a.toNat=40),[⟨(.st .expr),(ez t a dp).e⟩],[[⟨.str,t⟩,⟨(.int .i64),((ez t a dp).a:Int)⟩,⟨(.int .i64),((ez t a dp).dp:Int)⟩,⟨.bool,(ez t a dp).bad⟩]])⟩⟩
def fH(n:Nat):fG:=⟨kx,[[.d .str, .d (.int .i64), .d (.int .i64), .d .bool]],[.b 0],[[.str,(.int .i64),(.int .i64), .bool]],λ (t:List UInt8) (a:Int) (dp:Int) (bad:Bool)=>⟨(some (3 * (101 - dp).toNat<n/\0<=a/\a<=(t.length:Int)/\t.length<=10000/\0<=dp/\dp<=1000),[⟨(.st .expr),(ia t a dp bad).e⟩],[[⟨.str,t⟩,⟨(.int .i64),((ia t a dp bad).a:Int)⟩,⟨(.int .i64),((ia t a dp bad).dp:Int)⟩,⟨.bool,(ia t a dp bad).bad⟩]])⟩⟩
def pD:fG:=⟨kx,[[.d .str, .d (.int .i64), .d (.int .i64), .d .bool]],[.b 0],[[.str,(.int .i64),(.int .i64), .bool]],λ (t:List UInt8) (a:Int) (dp:Int) (bad:Bool)=>⟨(some (0<=a/\a<=(t.length:Int)/\t.length<=10000/\0<=dp/\dp<=1000),[⟨(.st .expr),(ia t a dp bad).e⟩],[[⟨.str,t⟩,⟨(.int .i64),((ia t a dp bad).a:Int)⟩,⟨(.int .i64),((ia t a dp bad).dp:Int)⟩,⟨.bool,(ia t a dp bad).bad⟩]])⟩⟩
def Cr(t:List UInt8)(a:Int)(dp:Int)(bad:Bool):Nat->aA:=bJ
def At(n:Nat)(hE:bC [])(hO:gn [])(hM:iv [])(hS:gF [cM,jD,fI n,dv n]):fG.Good (dv (n+1)):=by
 refine⟨ar iU,?_⟩;intro (t:List UInt8) (a:Int) (dp:Int) (bad:Bool) (hp:3 * (101 - dp).toNat+2<n+1/\0<=a/\a<=(t.length:Int)/\t.length<=10000/\0<=dp/\dp<=100/\bad=false);refine gQ [] [] [] [cM,jD,fI n,dv n] [30,57,66,71] [] [] [] hE hO hM hS iU xX (Cr t a dp bad) rfl rfl (let v0:=ez t a dp;let v3:=dp+(1:Int);let v4:=a+(1:Int);let v6:=cm t a.toNat;let vb:=decide (v6=(116:Int));let vc:=decide (v6=(126:Int));let vd:=decide ((100:Int)<v3);let vf:=decide (v6=(40:Int));let vg:=(v0.dp:Int);let vh:=(v0.a:Int);let vi:=(t.length:Int);let v7:=3 * (101 - v3).toNat+2<n/\0<=v4/\v4<=vi/\t.length<=10000/\0<=v3/\v3<=100/\bad=false;let vj:=o6 t a.toNat dp.toNat;let vk:=ez t v4 v3;let ve:=(vk.dp:Int);let vl:=v0.bad;let v1:=O (ve - (1:Int))/\((J.mk (5:Int) (0:Int) ([(aI (vk.e))]))=(v0.e)/\((t=t/\(((vk.a:Int))=vh/\((ve - (1:Int))=vg/\(vk.bad)=vl)))/\True));let v2:=(3 * (101 - dp).toNat+1<n/\0<=a/\a<=vi/\t.length<=10000/\0<=dp/\dp<=100/\bad=false/\cm t a.toNat=40)/\((aI (v0.e))=(v0.e)/\((t=t/\((vh)=vh/\((vg)=vg/\vl=vl)))/\True));let v5:=(aI (vj.e))=(v0.e)/\((t=t/\(((vj.a:Int))=vh/\(dp=vg/\(vj.bad)=vl)))/\True);let v8:=zE=(v0.e)/\((t=t/\(v4=vh/\(v3=vg/\true=vl)))/\True);let v9:=zE=(v0.e)/\((t=t/\(a=vh/\(dp=vg/\true=vl)))/\True);let va:=(t=t/\(v4=vh/\(dp=vg/\bad=vl)))/\True;(((0<=a/\a<=vi/\t.length<=10000)/\(((decide (v6=(48:Int)))=true->(O a->(O v4/\((J.mk (1:Int) (0:Int) [])=(v0.e)/\va))))/\((decide (v6=(48:Int)))=false->(((decide (v6=(49:Int)))=true->(O a->(O v4/\((J.mk (2:Int) (0:Int) [])=(v0.e)/\va))))/\((decide (v6=(49:Int)))=false->((vb=true->((vb=true->((0<=a/\a<=vi/\t.length<=10000/\0<=dp/\(cm t a.toNat=116\/cm t a.toNat=97)/\bad=false)/\v5))/\(vb=false->((vc=true->(O a->(O v4/\(O dp->(O v3/\(O v3->((vd=true->v8)/\(vd=false->(v7/\(O ve->v1))))))))))/\(vc=false->((vf=true->v2)/\(vf=false->v9)))))))/\(vb=false->(((decide (v6=(97:Int)))=true->((0<=a/\a<=vi/\t.length<=10000/\0<=dp/\(cm t a.toNat=116\/cm t a.toNat=97)/\bad=false)/\v5))/\((decide (v6=(97:Int)))=false->((vc=true->(O a->(O v4/\(O dp->(O v3/\(O v3->((vd=true->v8)/\(vd=false->(v7/\(O ve->v1))))))))))/\(vc=false->((vf=true->v2)/\(vf=false->v9))))))))))))))) ?_;obtain⟨hm,h0,h1,h2,h3,h4,h5⟩:=hp;subst h5;by_cases B4:cm t a.toNat=48
 .have l0:=tf t a.toNat (by rw[B4];decide);obtain⟨q1,q2,q3,q4⟩:=b3J t a dp h0 h3 B4;simp only[b5B B4,(b5c (by omega):decide (cm t a.toNat=(49:Int))=false),(b5c (by omega):decide (cm t a.toNat=(116:Int))=false),(b5c (by omega):decide (cm t a.toNat=(97:Int))=false),(b5c (by omega):decide (cm t a.toNat=(126:Int))=false),(b5c (by omega):decide (cm t a.toNat=(40:Int))=false),q1,q2,q3,q4,b5D,b5y,b4T,b4R,b4V,b4U,b5l,b5m,b5v,b5z,b5d,b5M,b5e,O,aK];repeat' (first|intro _|apply And.intro)
  all_goals first|exact True.intro|omega|with_reducible rfl
 .by_cases E5:cm t a.toNat=49
  .have l0:=tf t a.toNat (by rw[E5];decide);obtain⟨q1,q2,q3,q4⟩:=b3K t a dp h0 h3 E5;simp only[(b5c (by omega):decide (cm t a.toNat=(48:Int))=false),b5B E5,(b5c (by omega):decide (cm t a.toNat=(116:Int))=false),(b5c (by omega):decide (cm t a.toNat=(97:Int))=false),(b5c (by omega):decide (cm t a.toNat=(126:Int))=false),(b5c (by omega):decide (cm t a.toNat=(40:Int))=false),q1,q2,q3,q4,b5D,b5y,b4T,b4R,b4V,b4U,b5l,b5m,b5v,b5z,b5d,b5M,b5e,O,aK];repeat' (first|intro _|apply And.intro)
   all_goals first|exact True.intro|omega|with_reducible rfl
  .by_cases wy:cm t a.toNat=116
   .obtain⟨q1,q2,q3,q4⟩:=Xw t a dp h0 h3;simp only[a2b t a dp (.inl wy),(b5c (by omega):decide (cm t a.toNat=(48:Int))=false),(b5c (by omega):decide (cm t a.toNat=(49:Int))=false),b5B wy,(b5c (by omega):decide (cm t a.toNat=(97:Int))=false),(b5c (by omega):decide (cm t a.toNat=(126:Int))=false),(b5c (by omega):decide (cm t a.toNat=(40:Int))=false),q3,b5D,b5y,b4T,b4R,b4V,b4U,b5l,b5m,b5v,b5z,b5d,b5M,b5e,O,aK];repeat' (first|intro _|apply And.intro)
    all_goals first|exact True.intro|omega|with_reducible rfl
   .by_cases Pz:cm t a.toNat=97
    .obtain⟨q1,q2,q3,q4⟩:=Xw t a dp h0 h3;simp only[a2b t a dp (.inr Pz),(b5c (by omega):decide (cm t a.toNat=(48:Int))=false),(b5c (by omega):decide (cm t a.toNat=(49:Int))=false),(b5c (by omega):decide (cm t a.toNat=(116:Int))=false),b5B Pz,(b5c (by omega):decide (cm t a.toNat=(126:Int))=false),(b5c (by omega):decide (cm t a.toNat=(40:Int))=false),q3,b5D,b5y,b4T,b4R,b4V,b4U,b5l,b5m,b5v,b5z,b5d,b5M,b5e,O,aK];repeat' (first|intro _|apply And.intro)
     all_goals first|exact True.intro|omega|with_reducible rfl
    .by_cases Zl:cm t a.toNat=126
     .have l0:=tf t a.toNat (by rw[Zl];decide);by_cases hd:100<dp+1
      .obtain⟨q1,q2,q3,q4⟩:=a7V t a dp h0 h3 hd Zl;simp only[hd,(b5c (by omega):decide (cm t a.toNat=(48:Int))=false),(b5c (by omega):decide (cm t a.toNat=(49:Int))=false),(b5c (by omega):decide (cm t a.toNat=(116:Int))=false),(b5c (by omega):decide (cm t a.toNat=(97:Int))=false),b5B Zl,(b5c (by omega):decide (cm t a.toNat=(40:Int))=false),q1,q2,q3,q4,b5D,b5y,b4T,b4R,b4V,b4U,b5l,b5m,b5v,b5z,b5d,b5M,b5e,O,aK];repeat' (first|intro _|apply And.intro)
       all_goals first|exact True.intro|omega|with_reducible rfl
      .obtain⟨q1,q2,q3,q4⟩:=a9I t a dp h0 (by omega) h3 hd Zl;have b1:=Qm t (a+1) (dp+1) (by omega) (by omega) (by omega) (by omega);simp only[hd,(b5c (by omega):decide (cm t a.toNat=(48:Int))=false),(b5c (by omega):decide (cm t a.toNat=(49:Int))=false),(b5c (by omega):decide (cm t a.toNat=(116:Int))=false),(b5c (by omega):decide (cm t a.toNat=(97:Int))=false),b5B Zl,(b5c (by omega):decide (cm t a.toNat=(40:Int))=false),q1,q2,q3,q4,b5D,b5y,b4T,b4R,b4V,b4U,b5l,b5m,b5v,b5z,b5d,b5M,b5e,O,aK];repeat' (first|intro _|apply And.intro)
       all_goals first|exact True.intro|omega|with_reducible rfl
     .by_cases V9:cm t a.toNat=40
      .simp only[(b5c (by omega):decide (cm t a.toNat=(48:Int))=false),(b5c (by omega):decide (cm t a.toNat=(49:Int))=false),(b5c (by omega):decide (cm t a.toNat=(116:Int))=false),(b5c (by omega):decide (cm t a.toNat=(97:Int))=false),(b5c (by omega):decide (cm t a.toNat=(126:Int))=false),b5B V9,b5D,b5y,b4T,b4R,b4V,b4U,b5l,b5m,b5v,b5z,b5d,b5M,b5e,O,aK];repeat' (first|intro _|apply And.intro)
       all_goals first|exact True.intro|omega|with_reducible rfl
      .obtain⟨q1,q2,q3,q4⟩:=a7W t a dp h0 h3 ⟨B4,E5,wy,Pz,Zl,V9⟩;simp only[(b5c (by omega):decide (cm t a.toNat=(48:Int))=false),(b5c (by omega):decide (cm t a.toNat=(49:Int))=false),(b5c (by omega):decide (cm t a.toNat=(116:Int))=false),(b5c (by omega):decide (cm t a.toNat=(97:Int))=false),(b5c (by omega):decide (cm t a.toNat=(126:Int))=false),(b5c (by omega):decide (cm t a.toNat=(40:Int))=false),q1,q2,q3,q4,b5D,b5y,b4T,b4R,b4V,b4U,b5l,b5m,b5v,b5z,b5d,b5M,b5e,O,aK];repeat' (first|intro _|apply And.intro)
       all_goals first|exact True.intro|omega|with_reducible rfl
def D6(t:List UInt8)(a:Int)(dp:Int)(bad:Bool):Nat->aA:=bJ
def Cy(n:Nat)(hE:bC [])(hO:gn [])(hM:iv [])(hS:gF [cM,jE,fH n]):fG.Good (fI (n+1)):=by
 refine⟨ar jr,?_⟩;intro (t:List UInt8) (a:Int) (dp:Int) (bad:Bool) (hp:3 * (101 - dp).toNat+1<n+1/\0<=a/\a<=(t.length:Int)/\t.length<=10000/\0<=dp/\dp<=100/\bad=false/\cm t a.toNat=40);refine gQ [] [] [] [cM,jE,fH n] [9,27,32] [] [] [] hE hO hM hS jr Aj (D6 t a dp bad) rfl rfl (let v5:=(t.length:Int);let v7:=((dH t a.toNat (40:Int):Nat):Int);let v0:=ia t v7 dp (fK t a.toNat (40:Int) bad);let v6:=(v0.dp:Int);let v8:=ez t a dp;let vc:=(v0.a:Int);let v1:=((dH t vc.toNat (32:Int):Nat):Int);let v9:=v1+(1:Int);let v4:=((dH t v9.toNat (32:Int):Nat):Int);let va:=fK t vc.toNat (32:Int) (v0.bad);let v2:=ia t v4 v6 (fK t v9.toNat (32:Int) va);let v3:=ia t v1 v6 va;let vb:=decide ((cm t v1.toNat)=(43:Int));let vd:=(v2.a:Int);let ve:=(v3.a:Int);(((0<=a/\a<=v5/\t.length<=10000)/\((3 * (101 - dp).toNat<n/\0<=v7/\v7<=v5/\t.length<=10000/\0<=dp/\dp<=1000)/\((0<=vc/\vc<=v5/\t.length<=10000)/\((0<=v1/\v1<=v5/\t.length<=10000)/\((vb=true->(O v1->(O v9/\((0<=v9/\v9<=v5/\t.length<=10000)/\((3 * (101 - v6).toNat<n/\0<=v4/\v4<=v5/\t.length<=10000/\0<=v6/\v6<=1000)/\((0<=vd/\vd<=v5/\t.length<=10000)/\((J.mk (6:Int) (0:Int) ([(aI (v0.e)),(aI (v2.e))]))=(v8.e)/\((t=t/\((((dH t vd.toNat (41:Int):Nat):Int))=(v8.a:Int)/\(((v2.dp:Int))=(v8.dp:Int)/\(fK t vd.toNat (41:Int) (v2.bad))=(v8.bad))))/\True))))))))/\(vb=false->((3 * (101 - v6).toNat<n/\0<=v1/\v1<=v5/\t.length<=10000/\0<=v6/\v6<=1000)/\((0<=ve/\ve<=v5/\t.length<=10000)/\((J.mk (7:Int) (0:Int) ([(aI (v0.e)),(aI (v3.e))]))=(v8.e)/\((t=t/\((((dH t ve.toNat (41:Int):Nat):Int))=(v8.a:Int)/\(((v3.dp:Int))=(v8.dp:Int)/\(fK t ve.toNat (41:Int) (v3.bad))=(v8.bad))))/\True)))))))))))) ?_;obtain⟨hm,h0,h1,h2,h3,h4,h5,h6⟩:=hp;subst h5;have l0:=tf t a.toNat (by rw[h6];decide);obtain⟨g1,g2⟩:=b4b t a 40 h0 h6;have b1:=Vj t (a+1) dp false (by omega) (by omega) h3;obtain⟨p1,p2⟩:=a7X t a dp h0 (by omega) h3 h4 h6 _ rfl;simp only[yE] at p1 p2;simp only[g1,g2,b5e];generalize ia t (a+1) dp false=X at *
 have c1:=FQ t X.a 32 (by decide) (by omega);by_cases hs:cm t (dH t X.a 32)=43
 .obtain⟨q1,q2,q3,q4⟩:=p1 hs;have l1:=tf t (dH t X.a 32) (by rw[hs];decide);have e1:(((dH t X.a 32:Nat):Int)+1).toNat=dH t X.a 32+1:=by omega
  have c2:=FQ t (dH t X.a 32+1) 32 (by decide) (by omega);have b2:=Vj t ((dH t (dH t X.a 32+1) 32:Nat):Int) (X.dp:Int) (fK t (dH t X.a 32+1) 32 (fK t X.a 32 X.bad)) (by omega) (by omega) (by omega);simp only[hs,e1,q1,q2,q3,q4,b5D,b5y,b4T,b4R,b4V,b4U,b5l,b5m,b5v,b5z,b5d,b5M,b5e,O,aK];generalize ia t ((dH t (dH t X.a 32+1) 32:Nat):Int) (X.dp:Int) (fK t (dH t X.a 32+1) 32 (fK t X.a 32 X.bad))=Y at *
  have c3:=FQ t Y.a 41 (by decide) (by omega);repeat' (first|intro _|apply And.intro)
  all_goals first|exact True.intro|omega|with_reducible rfl
 .obtain⟨q1,q2,q3,q4⟩:=p2 hs;have b2:=Vj t ((dH t X.a 32:Nat):Int) (X.dp:Int) (fK t X.a 32 X.bad) (by omega) (by omega) (by omega);simp only[hs,q1,q2,q3,q4,b5D,b5y,b4T,b4R,b4V,b4U,b5l,b5m,b5v,b5z,b5d,b5M,b5e,O,aK];generalize ia t ((dH t X.a 32:Nat):Int) (X.dp:Int) (fK t X.a 32 X.bad)=Y at *
  have c3:=FQ t Y.a 41 (by decide) (by omega);repeat' (first|intro _|apply And.intro)
  all_goals first|exact True.intro|omega|with_reducible rfl
def D4(t:List UInt8)(a:Int)(dp:Int)(bad:Bool):Nat->aA:=(cQ 0 (.a (Nat) (λ m=>m<=sE t (ez t a (dp+1))) (λ m=>sE t (ez t a (dp+1)) - m) [4,5,6,7,8,9,10,11,12,13,14,15,16,17,18,19,20,21,26,27] (λ m=>[]) [2] (λ m=>[(400000, .box [.aH ⟨.str,(t:List UInt8)⟩, .aH ⟨(.int .i64),(((ez t a (dp+1)).a:Int)+(m:Int):Int)⟩, .aH ⟨(.int .i64),(((ez t a (dp+1)).dp:Int):Int)⟩, .aH ⟨.bool,((ez t a (dp+1)).bad:Bool)⟩]),(3, .box [.aH ⟨(.int .i64),((cr 8 m (ez t a (dp+1)).e).aq:Int)⟩, .aH ⟨(.int .i64),((cr 8 m (ez t a (dp+1)).e).aS:Int)⟩, .av 7100]),(7100, .av (.st .expr) ((cr 8 m (ez t a (dp+1)).e).M:List J))])) bJ)
def Cx(n:Nat)(hE:bC [])(hO:gn [])(hM:iv [])(hS:gF [cM,dv n]):fG.Good (fH (n+1)):=by
 refine⟨ar fW,?_⟩;intro (t:List UInt8) (a:Int) (dp:Int) (bad:Bool) (hp:3 * (101 - dp).toNat<n+1/\0<=a/\a<=(t.length:Int)/\t.length<=10000/\0<=dp/\dp<=1000);refine gQ [] [] [] [cM,dv n] [27,46] [] [] [] hE hO hM hS fW Ah (D4 t a dp bad) rfl rfl (let v0:=ez t a (dp+1);let v3:=ia t a dp bad;let v4:=(v0.a:Int);let v5:=(v0.dp:Int);let vc:=True/\True;let v6:=True/\(True/\vc);let vd:=(1:Int);let v2:=dp+vd;let v8:=3 * (101 - v2).toNat+2<n/\0<=a/\a<=(t.length:Int)/\t.length<=10000/\0<=v2/\v2<=100/\bad=false;let vb:=ez t a v2;let vf:=(0:Int);let v1:=(vf=vf/\(vf=vf/\vc))/\True;let vg:=(v3.a:Int);let va:=zE=(v3.e)/\((t=t/\(a=vg/\(v2=(v3.dp:Int)/\true=(v3.bad))))/\True);let vh:=v0.bad;let v7:=(v5 - vd)=(v3.dp:Int)/\vh=(v3.bad);let v9:=v5=v5/\(vh=vh/\True);let ve:=((vb.dp:Int))=v5/\((vb.bad)=vh/\True);((O dp->(O v2/\((bad=false->(O v2->(((decide ((100:Int)<v2))=true->va)/\((decide ((100:Int)<v2))=false->(v8/\((∃ m1:Nat,let vi:=cr 8 m1 v0.e;(m1<=sE t v0/\(v6/\((t=t/\(((vb.a:Int))=(v4+(m1:Int))/\ve))/\(((vb.e).aq=(vi.aq)/\((vb.e).aS=(vi.aS)/\vc))/\((vb.e).M=(vi.M)/\v1))))))/\(∀ m1:Nat,let vj:=v4+(m1:Int);let vl:=decide ((cm t vj.toNat)=(42:Int));let vm:=cr 8 m1 v0.e;let vi:=J.mk (vm.aq) (vm.aS) (vm.M);let vk:=O (v5 - vd)/\(vi=(v3.e)/\((t=t/\(vj=vg/\v7))/\True));(m1<=sE t v0->(((!vh)=true->((0<=vj/\vj<=(t.length:Int)/\t.length<=10000)/\((vl=true->(O vj->(O (vj+vd)/\(∃ m2:Nat,let vn:=cr 8 m2 v0.e;(m2<=sE t v0/\(sE t v0 - m2<sE t v0 - m1/\(v6/\((t=t/\((vj+vd)=(v4+(m2:Int))/\v9))/\(((8:Int)=(vn.aq)/\(vf=(vn.aS)/\vc))/\(([vi])=(vn.M)/\v1))))))))))/\(vl=false->(O v5->vk)))))/\((!vh)=(!true)->((false=true->(O vj->(O (vj+vd)/\(∃ m2:Nat,let vn:=cr 8 m2 v0.e;(m2<=sE t v0/\(sE t v0 - m2<sE t v0 - m1/\(v6/\((t=t/\((vj+vd)=(v4+(m2:Int))/\v9))/\(((8:Int)=(vn.aq)/\(vf=(vn.aS)/\vc))/\(([vi])=(vn.M)/\v1))))))))))/\(false=false->(O v5->vk)))))))))))))/\(bad=(!false)->((true=true->va)/\(true=false->(v8/\((∃ m1:Nat,let vi:=cr 8 m1 v0.e;(m1<=sE t v0/\(v6/\((t=t/\(((vb.a:Int))=(v4+(m1:Int))/\ve))/\(((vb.e).aq=(vi.aq)/\((vb.e).aS=(vi.aS)/\vc))/\((vb.e).M=(vi.M)/\v1))))))/\(∀ m1:Nat,let vj:=v4+(m1:Int);let vl:=decide ((cm t vj.toNat)=(42:Int));let vm:=cr 8 m1 v0.e;let vi:=J.mk (vm.aq) (vm.aS) (vm.M);let vk:=O (v5 - vd)/\(vi=(v3.e)/\((t=t/\(vj=vg/\v7))/\True));(m1<=sE t v0->(((!vh)=true->((0<=vj/\vj<=(t.length:Int)/\t.length<=10000)/\((vl=true->(O vj->(O (vj+vd)/\(∃ m2:Nat,let vn:=cr 8 m2 v0.e;(m2<=sE t v0/\(sE t v0 - m2<sE t v0 - m1/\(v6/\((t=t/\((vj+vd)=(v4+(m2:Int))/\v9))/\(((8:Int)=(vn.aq)/\(vf=(vn.aS)/\vc))/\(([vi])=(vn.M)/\v1))))))))))/\(vl=false->(O v5->vk)))))/\((!vh)=(!true)->((false=true->(O vj->(O (vj+vd)/\(∃ m2:Nat,let vn:=cr 8 m2 v0.e;(m2<=sE t v0/\(sE t v0 - m2<sE t v0 - m1/\(v6/\((t=t/\((vj+vd)=(v4+(m2:Int))/\v9))/\(((8:Int)=(vn.aq)/\(vf=(vn.aS)/\vc))/\(([vi])=(vn.M)/\v1))))))))))/\(false=false->(O v5->vk))))))))))))))))) ?_;obtain⟨hm,h0,h1,h2,h3,h4⟩:=hp;cases bad with
 | true =>
  obtain⟨q1,q2,q3,q4⟩:=a1K t a dp true h0 h3 (.inl rfl);simp only[q1,q2,q3,q4,b5D,b5y,b4T,b4R,b4V,b4U,b5l,b5m,b5v,b5z,b5d,b5M,b5e,O,aK];repeat' (first|intro _|apply And.intro)
  all_goals first|exact True.intro|omega|with_reducible rfl
 | false =>
  by_cases hd:100<dp+1
  .obtain⟨q1,q2,q3,q4⟩:=a1K t a dp false h0 h3 (.inr hd);simp only[hd,q1,q2,q3,q4,b5D,b5y,b4T,b4R,b4V,b4U,b5l,b5m,b5v,b5z,b5d,b5M,b5e,O,aK];repeat' (first|intro _|apply And.intro)
   all_goals first|exact True.intro|omega|with_reducible rfl
  .obtain⟨q1,q2,q3,q4⟩:=a9x t a dp false h0 h1 h3 rfl hd;have b1:=Qm t a (dp+1) h0 h1 (by omega) (by omega);have b2:=b2o t a (dp+1) h0 h1 (by omega) (by omega);simp only[hd,q1,q2,q3,q4,b5D,b5y,b4T,b4R,b4V,b4U,b5l,b5m,b5v,b5z,b5d,b5M,b5e,O,aK];generalize ez t a (dp+1)=R at *
   cases hB:R.bad with
   | true =>
    have z:=b0e t R hB;simp only[hB,z,b5D,b5y,b4T,b4R,b4V,b4U,b5l,b5m,b5v,b5z,b5d,b5M,b5e,O,aK];repeat' (first|intro _|apply And.intro)
    all_goals first|exact True.intro|omega|with_reducible rfl|exact⟨0,b5Y _,by omega,⟨rfl,rfl⟩,rfl⟩|(simp only[J.eta];congr 1;omega)
   | false =>
    have z:=λ m h=>b2n t R m hB h;simp only[hB,b5D,b5y,b4T,b4R,b4V,b4U,b5l,b5m,b5v,b5z,b5d,b5M,b5e,O,aK];repeat' (first|intro _|apply And.intro)
    all_goals (try simp only[b4N,b4M] at *)
    all_goals first|exact True.intro|omega|with_reducible rfl|exact⟨0,b5Y _,by omega,⟨rfl,rfl⟩,rfl⟩|(rename_i m1 _ _ _;have g:=z m1 (by assumption);first|omega|(simp only[J.eta];congr 1;omega)|exact⟨m1+1,by omega,by omega,by omega,⟨by rw[dP],by rw[dP]⟩,by rw[dP,J.eta]⟩)
def Za:∀ n,gF [dv n,fI n,fH n]
 | 0=>⟨⟨ar iU,λ _ _ _ _ h=>absurd h.1 (b5H _)⟩,⟨ar jr,λ _ _ _ _ h=>absurd h.1 (b5H _)⟩,⟨ar fW,λ _ _ _ _ h=>absurd h.1 (b5H _)⟩,ae⟩
 | n+1=>by
  have ih:=Za n;exact⟨At n trivial trivial trivial ⟨dN,zP,ih.2.1,ih.1,ae⟩,Cy n trivial trivial trivial ⟨dN,zR,ih.2.2.1,ae⟩,Cx n trivial trivial trivial ⟨dN,ih.1,ae⟩,ae⟩
def zO:fG.Good pD :=
 ⟨ar fW,λ t a dp bad hp=>(Za (3 * (101 - dp).toNat+1)).2.2.1.2 t a dp bad (⟨b5C _,hp⟩)⟩
def Q6(gg:aW)(t:List UInt8):J:=bif bP gg&&decide (t.length<=4000) then pb gg t else zX
def U8(gg:aW)(t:List UInt8):Int:=bif bP gg then (bif decide (t.length<=4000) then (bif fb gg t then 0 else 5) else 2) else 1
def a7w(t:List UInt8):ia t 0 0 false=z8 t:=rfl
def Br:aN:=⟨Eg,[.v (.st .sig), .v .str],λ (gg:aW) (t:List UInt8)=>⟨(some (bP gg=true/\t.length<=8000),[⟨(.st .expr),pb gg t⟩,⟨.bool,fb gg t⟩])⟩⟩
def QC(gg:aW)(t:List UInt8):Nat->aA:=bJ
def JG:aN.cZ Br:=by
 refine⟨ar AH,?_⟩;intro (gg:aW) (t:List UInt8) (hp:bP gg=true/\t.length<=8000);refine cp [mj,I2] [] [] [ub] [12] [] [] [2] ⟨lE,PU,ae⟩ trivial trivial ⟨EB,ae⟩ AH KE (QC gg t) (let v1:=zE=(pb gg t)/\false=(fb gg t);let v5:=xE t (40:Int) (0:Int);let v0:=aI (v5.e);let v2:=v0=(pb gg t)/\true=(fb gg t);let v3 := !decide ((bY v0)=t);let v4:=eh v0=true/\(bY v0).length<=1000000;let v6 := !(decide (((v5.a:Int))=((t.length:Int))));let v7 := !(cE gg v0);let v8 := !false;(((0<=(0:Int)/\(0:Int)<=(t.length:Int)/\t.length<=10000 /\ -1<=(40:Int)/\(40:Int)<=40)/\(((!(v5.ok))=false->(O ((v5.a:Int))->(O ((t.length:Int))->((v6=false->((v7=false->(v4/\((bY v0).length<=140737488355328->((v3=true->v1)/\(v3=false->v2)))))/\(v7=v8->((true=true->v1)/\(true=false->v2)))))/\(v6=v8->((true=false->(v4/\((bY v0).length<=140737488355328->((v3=true->v1)/\(v3=false->v2)))))/\(true=v8->((true=true->v1)/\(true=false->v2)))))))))/\((!(v5.ok))=v8->((true=false->((v7=false->(v4/\((bY v0).length<=140737488355328->((v3=true->v1)/\(v3=false->v2)))))/\(v7=v8->((true=true->v1)/\(true=false->v2)))))/\(true=v8->((true=false->(v4/\((bY v0).length<=140737488355328->((v3=true->v1)/\(v3=false->v2)))))/\(true=v8->((true=true->v1)/\(true=false->v2))))))))))) ?_;obtain⟨hg,hl⟩:=hp;have r1:fb gg t=((xE t 40 0).ok&&decide ((xE t 40 0).a=t.length)&&cE gg (xE t 40 0).e&&decide (bY (xE t 40 0).e=t)):=rfl;have r2:pb gg t=bif fb gg t then (xE t 40 0).e else zX:=rfl
 have r3:=Fp gg (xE t 40 0).e hg;rcases b5P (xE t 40 0).ok with h1|h1
 .by_cases h2:(xE t 40 0).a=t.length
  .have d2:decide (((xE t 40 0).a:Int)=(t.length:Int))=true:=b5B (by omega);rcases b5P (cE gg (xE t 40 0).e) with h3|h3
   .obtain⟨g1,g2,g3⟩:=r3 h3;by_cases h4:bY (xE t 40 0).e=t
    .have k1:fb gg t=true:=by rw[r1,h1,b5B h2,h3,b5B h4];rfl
     have k2:pb gg t=(xE t 40 0).e:=by rw[r2,k1];rfl
     simp only[h1,d2,h3,b5B h4,g1,k1,k2,b5D,b5y,b4T,b4R,b4V,b4U,b5l,b5m,b5v,b5z,b5d,b5M,b5e,O,aK];repeat' (first|intro _|apply And.intro)
     all_goals first|exact True.intro|omega|with_reducible rfl
    .have k1:fb gg t=false:=by rw[r1,b5c h4];simp
     have k2:pb gg t=zX:=by rw[r2,k1];rfl
     simp only[h1,d2,h3,b5c h4,g1,k1,k2,b5D,b5y,b4T,b4R,b4V,b4U,b5l,b5m,b5v,b5z,b5d,b5M,b5e,O,aK];repeat' (first|intro _|apply And.intro)
     all_goals first|exact True.intro|omega|with_reducible rfl
   .have k1:fb gg t=false:=by rw[r1,h3];simp
    have k2:pb gg t=zX:=by rw[r2,k1];rfl
    simp only[h1,d2,h3,k1,k2,b5D,b5y,b4T,b4R,b4V,b4U,b5l,b5m,b5v,b5z,b5d,b5M,b5e,O,aK];repeat' (first|intro _|apply And.intro)
    all_goals first|exact True.intro|omega|with_reducible rfl
  .have d2:decide (((xE t 40 0).a:Int)=(t.length:Int))=false:=b5c (by omega);have k1:fb gg t=false:=by rw[r1,b5c h2];simp
   have k2:pb gg t=zX:=by rw[r2,k1];rfl
   simp only[h1,d2,k1,k2,b5D,b5y,b4T,b4R,b4V,b4U,b5l,b5m,b5v,b5z,b5d,b5M,b5e,O,aK];repeat' (first|intro _|apply And.intro)
   all_goals first|exact True.intro|omega|with_reducible rfl
 .have k1:fb gg t=false:=by rw[r1,h1];rfl
  have k2:pb gg t=zX:=by rw[r2,k1];rfl
  simp only[h1,k1,k2,b5D,b5y,b4T,b4R,b4V,b4U,b5l,b5m,b5v,b5z,b5d,b5M,b5e,O,aK];repeat' (first|intro _|apply And.intro)
  all_goals first|exact True.intro|omega|with_reducible rfl
def Bv:aN:=⟨Em,[.v (.st .sig), .v .str],λ (gg:aW) (t:List UInt8)=>⟨(none,[⟨(.st .expr),Q6 gg t⟩,⟨(.int .i64),U8 gg t⟩])⟩⟩
def QG(gg:aW)(t:List UInt8):Nat->aA:=bJ
def JK:aN.cZ Bv:=by
 refine⟨ar AN,?_⟩;intro (gg:aW) (t:List UInt8) _;refine cp [qH,s5] [] [] [pD] [20] [] [] [2] ⟨qo,mQ,ae⟩ trivial trivial ⟨zO,ae⟩ AN KL (QG gg t) (let v2:=zE=(Q6 gg t)/\(5:Int)=(U8 gg t);let v3:=(t.length:Int);let v5:=(0:Int);let v0:=ia t v5 v5 false;let v1:=(aI (v0.e))=(Q6 gg t)/\v5=(U8 gg t);let v4 := !(As gg (aI (v0.e)));let v6 := !(decide (((v0.a:Int))=(v3)));((((!(bP gg))=true->(zE=(Q6 gg t)/\(1:Int)=(U8 gg t)))/\((!(bP gg))=false->(O (v3)->(((decide ((4000:Int)<(v3)))=true->(zE=(Q6 gg t)/\(2:Int)=(U8 gg t)))/\((decide ((4000:Int)<(v3)))=false->((0<=v5/\v5<=v3/\t.length<=10000/\0<=v5/\v5<=1000)/\(((v0.bad)=false->(O ((v0.a:Int))->(O (v3)->((v6=false->((v4=true->v2)/\(v4=false->v1)))/\(v6=(!false)->((true=true->v2)/\(true=false->v1)))))))/\((v0.bad)=(!false)->((true=false->((v4=true->v2)/\(v4=false->v1)))/\(true=(!false)->((true=true->v2)/\(true=false->v1)))))))))))))) ?_;have r1:Q6 gg t=bif bP gg&&decide (t.length<=4000) then pb gg t else zX:=rfl
 have r2:U8 gg t=bif bP gg then (bif decide (t.length<=4000) then (bif fb gg t then 0 else 5) else 2) else 1:=rfl
 have r3:fb gg t=false->pb gg t=zX:=λ h=>by unfold pb;rw[h];rfl
 rcases b5P (bP gg) with hg|hg
 .by_cases hl:t.length<=4000
  .have d1:decide ((4000:Int)<((t.length:Int)))=false:=decide_eq_false (by omega);have s0:=a8F gg t hg;rw[<-a7w] at s0;obtain⟨s1,s2⟩:=s0;have s3:As gg (ia t 0 0 false).e=cE gg (ia t 0 0 false).e:=by unfold As;rw[hg];rfl
   simp only[r1,r2,hg,d1,b5B hl,s3,b8k,b8g,b5D,b5y,b4T,b4R,b4V,b4U,b5l,b5m,b5v,b5z,b5d,b5M,b5e,O,aK];rcases b5P (ia t 0 0 false).bad with h1|h1
   .have k:fb gg t=false:=by rw[<-s1,h1];rfl
    simp only[h1,k,r3 k,b8s,b5D,b5y,b4T,b4R,b4V,b4U,b5l,b5m,b5v,b5z,b5d,b5M,b5e,O,aK];repeat' (first|intro _|apply And.intro)
    all_goals first|exact True.intro|omega|with_reducible rfl|with_reducible assumption
   .by_cases h2:(ia t 0 0 false).a=t.length
    .have d2:decide (((ia t 0 0 false).a:Int)=(t.length:Int))=true:=b5B (by omega);rcases b5P (cE gg (ia t 0 0 false).e) with h3|h3
     .have k:fb gg t=true:=by rw[<-s1,h1,b5B h2,h3];rfl
      have k2:=s2 k;simp only[h1,d2,h3,k,b8g,b5D,b5y,b4T,b4R,b4V,b4U,b5l,b5m,b5v,b5z,b5d,b5M,b5e,O,aK];repeat' (first|intro _|apply And.intro)
      all_goals first|exact True.intro|omega|with_reducible rfl|with_reducible assumption
     .have k:fb gg t=false:=by rw[<-s1,h3];simp
      simp only[h1,d2,h3,k,r3 k,b8s,b5D,b5y,b4T,b4R,b4V,b4U,b5l,b5m,b5v,b5z,b5d,b5M,b5e,O,aK];repeat' (first|intro _|apply And.intro)
      all_goals first|exact True.intro|omega|with_reducible rfl|with_reducible assumption
    .have d2:decide (((ia t 0 0 false).a:Int)=(t.length:Int))=false:=b5c (by omega);have k:fb gg t=false:=by rw[<-s1,b5c h2];simp
     simp only[h1,d2,k,r3 k,b8s,b5D,b5y,b4T,b4R,b4V,b4U,b5l,b5m,b5v,b5z,b5d,b5M,b5e,O,aK];repeat' (first|intro _|apply And.intro)
     all_goals first|exact True.intro|omega|with_reducible rfl|with_reducible assumption
  .have d1:decide ((4000:Int)<((t.length:Int)))=true:=b5B (by omega);simp only[r1,r2,hg,d1,b5c hl,b6n,b8g,b8s,b5D,b5y,b4T,b4R,b4V,b4U,b5l,b5m,b5v,b5z,b5d,b5M,b5e,O,aK];repeat' (first|intro _|apply And.intro)
   all_goals first|exact True.intro|omega|with_reducible rfl|with_reducible assumption
 .simp only[r1,r2,hg,b6j,b8s,b5D,b5y,b4T,b4R,b4V,b4U,b5l,b5m,b5v,b5z,b5d,b5M,b5e,O,aK];repeat' (first|intro _|apply And.intro)
  all_goals first|exact True.intro|omega|with_reducible rfl|with_reducible assumption
def eqL(t:List UInt8):List UInt8:=pw t [32,61,32]
def eqR(t:List UInt8):List UInt8:=kK t [32,61,32]
def eqC(t:List UInt8):Bool:=tB t [32,61,32]
def zQ:au:=au.mk zE zE
def uo(gg:aW)(t:List UInt8):Bool:=eqC t&&fb gg (eqL t)&&fb gg (eqR t)
def Oo(gg:aW)(t:List UInt8):au:=bif uo gg t then au.mk (pb gg (eqL t)) (pb gg (eqR t)) else zQ
def S6(gg:aW)(t:List UInt8):au:=bif eqC t then au.mk (Q6 gg (eqL t)) (Q6 gg (eqR t)) else zQ
def a6w(gg:aW)(t:List UInt8)(hg:bP gg=true)(h:fb gg t=true):t.length<=1000:=by
 simp only[fb,b4S,b4N] at h;obtain⟨⟨_,h2⟩,h3⟩:=h;have:=Fp gg _ hg h2;have e:=congrArg List.length h3;omega
def a0Y(gg:aW)(t:List UInt8)(hg:bP gg=true):(decide (U8 gg t=0)=fb gg t)/\(fb gg t=true->Q6 gg t=pb gg t):=by
 unfold U8 Q6;rw[hg];rcases Bool.eq_false_or_eq_true (fb gg t) with h|h
 .have:=a6w gg t hg h;rw[h,b5B (show t.length<=4000 by omega)];exact⟨rfl,λ _=>rfl⟩
 .rw[h];refine⟨?_,λ q=>by cases q⟩;cases decide (t.length<=4000)<;>rfl
def b0d(gg:aW)(t:List UInt8)(hg:bP gg=true)(h:uo gg t=true):S6 gg t=Oo gg t:=by
 unfold S6 Oo;rw[h];simp only[uo,Bool.and_eq_true] at h;rw[h.1.1,(a0Y gg _ hg).2 h.1.2,(a0Y gg _ hg).2 h.2]
def Z3(gg:aW)(t:List UInt8):uo gg t=(tB t [32,61,32]&&fb gg (pw t [32,61,32])&&fb gg (kK t [32,61,32])) /\
  (uo gg t=true->Oo gg t=au.mk (pb gg (pw t [32,61,32])) (pb gg (kK t [32,61,32])))/\(uo gg t=false->Oo gg t=au.mk zE zE):=by
 refine⟨rfl,λ h=>?_,λ h=>?_⟩<;>· unfold Oo;rw[h];rfl
def a4y(gg:aW)(t:List UInt8):(tB t [32,61,32]=true->Dl t [32,61,32]=pw t [32,61,32]/\S6 gg t=au.mk (Q6 gg (pw t [32,61,32])) (Q6 gg (kK t [32,61,32]))) /\
  (tB t [32,61,32]=false->S6 gg t=au.mk zE zE):=by
 refine⟨λ h=>⟨?_,?_⟩,λ h=>?_⟩
 .unfold Dl;rw[h];rfl
 .unfold S6 eqC;rw[h];rfl
 .unfold S6 eqC;rw[h];rfl
def rG:aN:=⟨ug,[.v (.st .sig), .v .str],λ (gg:aW) (t:List UInt8)=>⟨(some (bP gg=true/\t.length<=8000),[⟨(.st .equation),Oo gg t⟩,⟨.bool,uo gg t⟩])⟩⟩
def HD(gg:aW)(t:List UInt8):Nat->aA:=bJ
abbrev py(gg:aW)(t:List UInt8):Prop:=(let v0:=kK t ([32,61,32]);(((!(fb gg v0))=true ->
 ((au.mk zE zE)=(Oo gg t)/\false=(uo gg t)))/\((!(fb gg v0))=false ->
 ((au.mk (aI (pb gg (pw t ([32,61,32])))) (aI (pb gg v0)))=(Oo gg t)/\true=(uo gg t)))))
abbrev pz(gg:aW)(t:List UInt8):Prop:=((true=true ->
 ((au.mk zE zE)=(Oo gg t)/\false=(uo gg t)))/\(true=false ->
 ((au.mk (aI (pb gg (pw t ([32,61,32])))) (aI (pb gg (kK t ([32,61,32])))))=(Oo gg t)/\true=(uo gg t))))
def Cv:aN.cZ rG:=by
 refine⟨ar rp,?_⟩;intro (gg:aW) (t:List UInt8) (hp:bP gg=true/\t.length<=8000);refine cp [I8] [Br] [] [] [22,28] [] [] [2] ⟨P1,ae⟩ ⟨JG,ae⟩ trivial trivial rp Da (HD gg t) (let v0:=[32,61,32];((t.length<=1048576/\((pw t v0).length<=140737488355328->((kK t v0).length<=140737488355328->((bP gg=true/\(pw t v0).length<=8000)/\((bP gg=true/\(kK t v0).length<=8000)/\(((!(tB t v0))=false->(((!(fb gg (pw t v0)))=false->(py gg t))/\((!(fb gg (pw t v0)))=(!false)->(pz gg t))))/\((!(tB t v0))=(!false)->((true=false->(py gg t))/\(true=(!false)->(pz gg t)))))))))))) ?_;obtain⟨f2,f3,f4⟩:=Z3 gg t;have f0:(pw t [32,61,32]).length<=t.length/\(kK t [32,61,32]).length<=t.length:=Zk t _;refine⟨?_,λ _ _=>⟨?_,?_,λ _=>⟨λ _=>⟨λ _=>⟨?_,?_⟩,λ _=>⟨?_,?_⟩⟩,λ _=>⟨λ _=>⟨?_,?_⟩,λ _=>⟨?_,?_⟩⟩⟩,λ _=>⟨λ _=>⟨λ _=>⟨?_,?_⟩,λ _=>⟨?_,?_⟩⟩,λ _=>⟨λ _=>⟨?_,?_⟩,λ _=>⟨?_,?_⟩⟩⟩⟩⟩;all_goals try and_intros
 all_goals try (first|with_reducible rfl|with_reducible assumption)
 all_goals try simp only[J.eta,ag.eta,au.eta,aK,br,bL] at *
 all_goals first|rfl|trivial|omega|(simp only[b4N,b4M,b5a,b5k,b4R,b4T,ak,O,b4Y,b5j] at *;first|omega|grind)|grind
def sD:aN:=⟨GZ,[.v (.st .sig), .v .str],λ (gg:aW) (t:List UInt8)=>⟨(some (bP gg=true/\t.length<=8000),[⟨(.st .equation),S6 gg t⟩,⟨.bool,uo gg t⟩])⟩⟩
def SE(gg:aW)(t:List UInt8):Nat->aA:=bJ
def Lw:aN.cZ sD:=by
 refine⟨ar C4,?_⟩;intro (gg:aW) (t:List UInt8) (hp:bP gg=true/\t.length<=8000);refine cp [I7] [Bv] [] [] [25,31] [] [] [2] ⟨PZ,ae⟩ ⟨JK,ae⟩ trivial trivial C4 MO (SE gg t) (let v0:=[32,61,32];let v1:=au.mk (aI (Q6 gg (Dl t v0))) (aI (Q6 gg (kK t v0)));let v2:=decide ((U8 gg (Dl t v0))=(0:Int));(((t.length<=1048576/\1<=v0.length/\v0.length<=100)/\((Dl t v0).length<=140737488355328->((kK t v0).length<=140737488355328->(((!(tB t v0))=true->((au.mk zE zE)=(S6 gg t)/\false=(uo gg t)))/\((!(tB t v0))=false->(O (U8 gg (Dl t v0))->(O (U8 gg (kK t v0))->((v2=true->(v1=(S6 gg t)/\(decide ((U8 gg (kK t v0))=(0:Int)))=(uo gg t)))/\(v2=(!true)->(v1=(S6 gg t)/\false=(uo gg t))))))))))))) ?_;obtain⟨f3,f4⟩:=a4y gg t;have f5:=(Z3 gg t).1;have f1:=(a0Y gg (pw t [32,61,32]) hp.1).1;have f2:=(a0Y gg (kK t [32,61,32]) hp.1).1;refine⟨?_,λ _ _=>⟨λ _=>⟨?_,?_⟩,λ _ _ _=>⟨λ _=>⟨?_,?_⟩,λ _=>⟨?_,?_⟩⟩⟩⟩;all_goals try and_intros
 all_goals try (first|with_reducible rfl|with_reducible assumption)
 all_goals try simp only[J.eta,ag.eta,au.eta,aK,br,bL] at *
 all_goals first|rfl|trivial|omega|(simp only[b4N,b4M,b5a,b5k,b4R,b4T,ak,O,b4Y,b5j] at *;first|omega|grind)|grind
def gP:aW:=aW.mk (3:Int) (4:Int)
def oI:List (List UInt8):=[[40,97,48,32,43,32,40,97,49,32,43,32,97,50,41,41,32,61,32,40,40,97,48,32,43,32,97,49,41,32,43,32,97,50,41],[40,97,48,32,43,32,97,49,41,32,61,32,40,97,49,32,43,32,97,48,41],[40,97,48,32,43,32,48,41,32,61,32,97,48],[40,97,48,32,43,32,97,48,41,32,61,32,97,48],[40,97,48,32,40,97,49,32,97,50,41,41,32,61,32,40,40,97,48,32,97,49,41,32,97,50,41],[40,49,32,97,48,41,32,61,32,97,48],[40,97,48,32,49,41,32,61,32,97,48],[40,97,48,32,40,97,49,32,43,32,97,50,41,41,32,61,32,40,40,97,48,32,97,49,41,32,43,32,40,97,48,32,97,50,41,41],[40,40,97,48,32,43,32,97,49,41,32,97,50,41,32,61,32,40,40,97,48,32,97,50,41,32,43,32,40,97,49,32,97,50,41,41],[40,48,32,97,48,41,32,61,32,48],[40,97,48,32,48,41,32,61,32,48],[40,49,32,43,32,40,97,48,32,97,48,42,41,41,32,61,32,97,48,42],[40,49,32,43,32,40,97,48,42,32,97,48,41,41,32,61,32,97,48,42],[40,116,48,32,116,48,41,32,61,32,116,48],[40,116,48,32,116,49,41,32,61,32,40,116,49,32,116,48,41],[40,116,48,32,43,32,126,116,48,41,32,61,32,49],[40,116,48,32,126,116,48,41,32,61,32,48],[126,126,116,48,32,61,32,116,48],[126,40,116,48,32,43,32,116,49,41,32,61,32,40,126,116,48,32,126,116,49,41],[126,40,116,48,32,116,49,41,32,61,32,40,126,116,48,32,43,32,126,116,49,41],[126,48,32,61,32,49],[126,49,32,61,32,48],[40,116,48,32,43,32,49,41,32,61,32,49],[40,40,116,48,32,43,32,116,49,41,32,40,116,48,32,43,32,116,50,41,41,32,61,32,40,116,48,32,43,32,40,116,49,32,116,50,41,41]]
def Hc:List au:=oI.map (Oo gP)
def n0:oI.length=24:=rfl
def b1r:oI.all (λ t=>uo gP t&&decide (t.length<=100))=true:=by kernel_rfl
def a3l(i:Nat)(h:i<24):uo gP (oI.getD i [])=true/\(oI.getD i []).length<=100/\S6 gP (oI.getD i [])=Oo gP (oI.getD i []):=by
 have hm:oI.getD i []∈oI:=by
  rw[b5b,b5p (by rw[n0];exact h)];exact b6h _
 have:=b5F.1 b1r _ hm;rw[b4S,b4N] at this;exact⟨this.1,this.2,b0d gP _ (by decide) this.1⟩
def O4(i:Nat):List au:=(oI.take i).map (Oo gP)
def a5O(i:Nat)(h:i<24):O4 (i+1)=O4 i++[Oo gP (oI.getD i [])]:=by
 unfold O4;rw[cC [] oI i (by rw[n0];exact h)];simp
def a7g(i:Nat)(h:24<=i):O4 i=Hc:=by
 unfold O4 Hc;rw[List.take_of_length_le (by rw[n0];exact h)]
def a7h(i:Nat)(h:i<=24):(O4 i).length=i:=by
 unfold O4;rw[List.length_map,List.length_take,n0];omega
def y9:aN:=⟨zu,[],⟨(none,[⟨(.st .sig),gP⟩])⟩⟩
def NO :Nat->aA:=bJ
def Hp:aN.Good y9:=by
 refine⟨ar wg,?_⟩;intro  _;refine aX [] [] [] [] trivial wg He (NO ) ((aW.mk (3:Int) (4:Int))=gP) ?_;refine ?_;all_goals try and_intros
 all_goals first|rfl|trivial|omega|(simp only[b4N,b4M,ak,O,bT,cB,bG,bc] at *;omega)|(simp[ak,O] at *;omega)|grind
def GD:aN:=⟨G8,[],⟨(none,[⟨(.st .sig),gP⟩])⟩⟩
def UQ :Nat->aA:=bJ
def Nw:aN.Good GD:=by
 refine⟨ar C8,?_⟩;intro  _;refine aX [] [] [] [] trivial C8 MS (UQ ) ((aW.mk (3:Int) (4:Int))=gP) ?_;refine ?_;all_goals try and_intros
 all_goals first|rfl|trivial|omega|(simp only[b4N,b4M,ak,O,bT,cB,bG,bc] at *;omega)|(simp[ak,O] at *;omega)|grind
def lj:aN:=⟨rK,[],⟨(none,[⟨(.slice .str),oI⟩])⟩⟩
def HA :Nat->aA:=bJ
def n7:aN.Good lj:=by
 refine⟨ar pY,?_⟩;intro  _;refine aX [] [] [] [] trivial pY BY (HA ) (([([40,97,48,32,43,32,40,97,49,32,43,32,97,50,41,41,32,61,32,40,40,97,48,32,43,32,97,49,41,32,43,32,97,50,41]),([40,97,48,32,43,32,97,49,41,32,61,32,40,97,49,32,43,32,97,48,41]),([40,97,48,32,43,32,48,41,32,61,32,97,48]),([40,97,48,32,43,32,97,48,41,32,61,32,97,48]),([40,97,48,32,40,97,49,32,97,50,41,41,32,61,32,40,40,97,48,32,97,49,41,32,97,50,41]),([40,49,32,97,48,41,32,61,32,97,48]),([40,97,48,32,49,41,32,61,32,97,48]),([40,97,48,32,40,97,49,32,43,32,97,50,41,41,32,61,32,40,40,97,48,32,97,49,41,32,43,32,40,97,48,32,97,50,41,41]),([40,40,97,48,32,43,32,97,49,41,32,97,50,41,32,61,32,40,40,97,48,32,97,50,41,32,43,32,40,97,49,32,97,50,41,41]),([40,48,32,97,48,41,32,61,32,48]),([40,97,48,32,48,41,32,61,32,48]),([40,49,32,43,32,40,97,48,32,97,48,42,41,41,32,61,32,97,48,42]),([40,49,32,43,32,40,97,48,42,32,97,48,41,41,32,61,32,97,48,42]),([40,116,48,32,116,48,41,32,61,32,116,48]),([40,116,48,32,116,49,41,32,61,32,40,116,49,32,116,48,41]),([40,116,48,32,43,32,126,116,48,41,32,61,32,49]),([40,116,48,32,126,116,48,41,32,61,32,48]),([126,126,116,48,32,61,32,116,48]),([126,40,116,48,32,43,32,116,49,41,32,61,32,40,126,116,48,32,126,116,49,41]),([126,40,116,48,32,116,49,41,32,61,32,40,126,116,48,32,43,32,126,116,49,41]),([126,48,32,61,32,49]),([126,49,32,61,32,48]),([40,116,48,32,43,32,49,41,32,61,32,49]),([40,40,116,48,32,43,32,116,49,41,32,40,116,48,32,43,32,116,50,41,41,32,61,32,40,116,48,32,43,32,40,116,49,32,116,50,41,41])])=oI) ?_;refine ?_;all_goals try and_intros
 all_goals first|rfl|trivial|omega|(simp only[b4N,b4M,ak,O,bT,cB,bG,bc] at *;omega)|(simp[ak,O] at *;omega)|grind
def vM:aN:=⟨Jl,[],⟨(none,[⟨(.slice (.st .equation)),Hc⟩])⟩⟩
def UT :Nat->aA:=(cQ 0 (.mk (Nat) (λ i=>i<=24) (λ i=>24 - i) [7] [0,6] (λ i=>[(9, .aH ⟨(.int .i64),((i:Int):Int)⟩),(8, .aH ⟨(.int .i64),((24:Int):Int)⟩),(7, .aH ⟨(.slice .str),(oI:List (List UInt8))⟩),(1, .av 2300)]) [] (λ i=>[(2300, .av (.st .equation) (O4 i:List au))]) [] [] (λ i=>bJ)) bJ)
def N9:aN.cZ vM:=by
 refine⟨ar FW,?_⟩;intro  _;refine cp [y9] [rG] [] [] [6,16,21,22] [] [] [] ⟨Hp,ae⟩ ⟨Cv,ae⟩ trivial trivial FW O5 (UT ) (let v0:=[([40,97,48,32,43,32,40,97,49,32,43,32,97,50,41,41,32,61,32,40,40,97,48,32,43,32,97,49,41,32,43,32,97,50,41]),([40,97,48,32,43,32,97,49,41,32,61,32,40,97,49,32,43,32,97,48,41]),([40,97,48,32,43,32,48,41,32,61,32,97,48]),([40,97,48,32,43,32,97,48,41,32,61,32,97,48]),([40,97,48,32,40,97,49,32,97,50,41,41,32,61,32,40,40,97,48,32,97,49,41,32,97,50,41]),([40,49,32,97,48,41,32,61,32,97,48]),([40,97,48,32,49,41,32,61,32,97,48]),([40,97,48,32,40,97,49,32,43,32,97,50,41,41,32,61,32,40,40,97,48,32,97,49,41,32,43,32,40,97,48,32,97,50,41,41]),([40,40,97,48,32,43,32,97,49,41,32,97,50,41,32,61,32,40,40,97,48,32,97,50,41,32,43,32,40,97,49,32,97,50,41,41]),([40,48,32,97,48,41,32,61,32,48]),([40,97,48,32,48,41,32,61,32,48]),([40,49,32,43,32,40,97,48,32,97,48,42,41,41,32,61,32,97,48,42]),([40,49,32,43,32,40,97,48,42,32,97,48,41,41,32,61,32,97,48,42]),([40,116,48,32,116,48,41,32,61,32,116,48]),([40,116,48,32,116,49,41,32,61,32,40,116,49,32,116,48,41]),([40,116,48,32,43,32,126,116,48,41,32,61,32,49]),([40,116,48,32,126,116,48,41,32,61,32,48]),([126,126,116,48,32,61,32,116,48]),([126,40,116,48,32,43,32,116,49,41,32,61,32,40,126,116,48,32,126,116,49,41]),([126,40,116,48,32,116,49,41,32,61,32,40,126,116,48,32,43,32,126,116,49,41]),([126,48,32,61,32,49]),([126,49,32,61,32,48]),([40,116,48,32,43,32,49,41,32,61,32,49]),([40,40,116,48,32,43,32,116,49,41,32,40,116,48,32,43,32,116,50,41,41,32,61,32,40,116,48,32,43,32,40,116,49,32,116,50,41,41])];((O ((v0.length:Int))->((∃ i1:Nat,(i1<=24/\((True/\(v0=oI/\(((v0.length:Int))=(24:Int)/\((0:Int)=(i1:Int)/\True))))/\([]=(O4 i1)/\True))))/\(∀ i1:Nat,let v1:=[(lR (Oo (gP) (oI.getD i1 [])))];let v2:=decide ((i1:Int)<(24:Int));(i1<=24->((v2=true->(ak (i1:Int) oI.length/\((oI.getD i1 []).length<=140737488355328->((bP (gP)=true/\(oI.getD i1 []).length<=8000)/\(bc ((O4 i1).length+v1.length) 80/\(O ((i1:Int)+(1:Int))/\(∃ i2:Nat,(i2<=24/\(24 - i2<24 - i1/\((True/\(oI=oI/\((24:Int)=(24:Int)/\(((i1:Int)+(1:Int))=(i2:Int)/\True))))/\(((O4 i1)++v1)=(O4 i2)/\True)))))))))))/\(v2=false->(O4 i1)=Hc)))))))) ?_;have f0:=n0;have f1:bP gP=true:=by decide
 have f2:O4 0=[]:=rfl;refine λ _=>⟨⟨0,?_,⟨ae,?_,?_,?_,ae⟩,?_,ae⟩,λ i1 _=>have H3:=a3l i1;have H4:=a5O i1;have H5:=a7g i1;have VV:=a7h i1;⟨λ _=>⟨?_,λ _=>⟨?_,?_,?_,i1+1,?_,?_,⟨ae,rfl,rfl,?_,ae⟩,?_,ae⟩⟩,λ _=>?_⟩⟩;all_goals try and_intros
 all_goals try (first|with_reducible rfl|with_reducible assumption)
 all_goals try simp only[J.eta,ag.eta,au.eta,aK,br,bL] at *
 all_goals first|rfl|trivial|omega|(simp only[b4N,b4M,bc,ak,O,b4Y,b5j] at *;first|omega|grind)|grind
end
end Go.Proofs.YtmjfpcajohhbeaaGreatDoor

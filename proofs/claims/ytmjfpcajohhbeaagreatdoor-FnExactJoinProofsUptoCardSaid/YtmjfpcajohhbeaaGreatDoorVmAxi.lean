/- VmPf1, VmSame2, VmShelf3, VmCut, VmWe, VmText, VmWord2, VmRExpr, VmRExpr2, VmRdm, VmRds, VmRdx, VmEqn, VmAxi. -/
import Derived.Test.YtmjfpcajohhbeaaGreatDoorVmWord
import Derived.Shelf.Strings.Builder1
import Derived.Shelf.Strconv.Itoa0
import Derived.Shelf.Strconv.Itoa1
import Derived.Shelf.LaysM
import Derived.Shelf.Strconv.Itoa2
import Derived.Shelf.Strconv.Itoa3
import Derived.Shelf.Strings.Search1
import Derived.Shelf.Strings.Search2
import Derived.Shelf.Strings.Cut
import Derived.Shelf.Strings.Shaped
import Derived.Shelf.Strings.Prefix
import Derived.Test.YtmjfpcajohhbeaaGreatDoorProg
set_option linter.all false
set_option maxRecDepth 4000
set_option maxHeartbeats 4000000
namespace Go.Proofs.YtmjfpcajohhbeaaGreatDoor
def b3D:=@Bool.true_eq_false
def b7z:=@Go.Lib.size_eq
def b7A:=@Nat.le_succ
def b6J:=@UInt8.toNat_ofNat'
def b6k:=@List.drop_succ_cons
def b6O:=@Bool.and_self
def b6K:=@cond_true
def b4f:=@decide_false
def b3V:=@not_true_eq_false
def b3W:=@not_false_eq_true
def b4b:=@false_implies
def b4g:=@true_implies
def b4w:=@Bool.eq_false_or_eq_true
def b5f:=@Bool.and_true
def b6X:=@cond_false
noncomputable section
def Jj(x:J)(ps:List Int):J:=bif eC x ps then dN x ps else J.mk (0:Int) (0:Int) []
def Fk(x:J)(ps:List Int):Bool:=eC x ps&&oS x ps
def Cq.no{x:J}{ks:List Int}{k:Nat}(h:Cq x ks k)(hk:k<ks.length)(hb:¬ (0<=ks.getD k 0/\ks.getD k 0<=((dN x (ks.take k)).M.length:Int) - 1)):Jj x ks=J.mk (0:Int) (0:Int) []/\Fk x ks=false/\eC x ks=false:=by
 have:=h.bad hk hb;unfold Jj Fk;rw[this];exact⟨rfl,rfl,rfl⟩
def Cq.yes{x:J}{ks:List Int}{k:Nat}(h:Cq x ks k)(hk:ks.length<=k):Jj x ks=dN x (ks.take k)/\Fk x ks=oS x (ks.take k)/\eC x ks=true:=by
 have:=h.done hk;have e:=a0u x ks k hk;unfold Jj Fk;rw[this,e.2.1,e.2.2];exact⟨rfl,rfl,rfl⟩
def yJ:aL:=⟨I9,[.v (.st .expr), .v (.slice (.int .i64))],λ (x:J) (ps:List Int)=>⟨(none,[⟨(.st .expr),Jj x ps⟩,⟨.bool,Fk x ps⟩,⟨.bool,eC x ps⟩])⟩⟩
def Ws(x:J)(ps:List Int):Nat->az:=(cP 0 (.a (Nat) (λ k=>Cq x ps k) (λ k=>ps.length - k) [0,1] (λ k=>[(11, .aF ⟨(.int .i64),((k:Int):Int)⟩),(5, .aF ⟨.bool,(oS x (ps.take k):Bool)⟩)]) [4] (λ k=>[(2, .box [.aF ⟨(.int .i64),((dN x (ps.take k)).aq:Int)⟩, .aF ⟨(.int .i64),((dN x (ps.take k)).aN:Int)⟩, .aF ⟨(.slice (.st .expr)),((dN x (ps.take k)).M:List J)⟩])])) bI)
abbrev Dt(x:J)(ps:List Int)(k1:Nat)(k2:Nat):Prop:=(let v0:=((dN x (ps.take k1)).M).getD (Int.toNat (ps.getD k1 (0:Int))) zE;let v1:=dN x (ps.take k2);((v0.aq=(v1.aq)/\(v0.aN=(v1.aN)/\(v0.M=(v1.M)/\True)))/\(((0:Int)=(0:Int)/\((0:Int)=(0:Int)/\(True/\True)))/\True)))
def AD:aL.Good yJ:=by
 refine⟨ar FJ,?_⟩;intro (x:J) (ps:List Int) _;refine aV [fO] [] [] [] ⟨fW,ae⟩ FJ OB (Ws x ps) (let v0:=(ps.length:Int);let v1:=(0:Int);let v2:=(1:Int);((O v0->((∃ k1:Nat,let v3:=dN x (ps.take k1);(Cq x ps k1/\((True/\(True/\(false=(oS x (ps.take k1))/\(ps=ps/\(v0=v0/\(v1=(k1:Int)/\True))))))/\((x.aq=(v3.aq)/\(x.aN=(v3.aN)/\(x.M=(v3.M)/\True)))/\((v1=v1/\(v1=v1/\(True/\True)))/\True)))))/\(∀ k1:Nat,let v3:=dN x (ps.take k1);let v5:=ps.getD k1 v1;let v6:=v3.M;let v7:=(k1:Int)+v2;let v8:=oS x (ps.take k1);let v9:=(v6.length:Int);let v4 := !(decide (v1<=v5/\v5<=(v9 - v2)));(Cq x ps k1->(((decide ((k1:Int)<v0))=true->(ak (k1:Int) ps.length/\(O v5->(v6.length<=140737488355328->(O v9->(O (v9 - v2)/\(((v4=true)->(zE=(Jj x ps)/\(false=(Fk x ps)/\false=(eC x ps))))/\((v4=false)->((v8=false->(O (v3.aq)->(v6.length<=140737488355328->(ak v5 v6.length/\(O v7/\(∃ k2:Nat,(Cq x ps k2/\(ps.length - k2<ps.length - k1/\((True/\(True/\((decide ((v3.aq)=(5:Int)))=(oS x (ps.take k2))/\(ps=ps/\(v0=v0/\(v7=(k2:Int)/\True))))))/\(Dt x ps k1 k2))))))))))/\(v8=(!false)->(v6.length<=140737488355328->(ak v5 v6.length/\(O v7/\(∃ k2:Nat,(Cq x ps k2/\(ps.length - k2<ps.length - k1/\((True/\(True/\(true=(oS x (ps.take k2))/\(ps=ps/\(v0=v0/\(v7=(k2:Int)/\True))))))/\(Dt x ps k1 k2))))))))))))))))))/\((decide ((k1:Int)<v0))=false->((J.mk (v3.aq) (v3.aN) v6)=(Jj x ps)/\(v8=(Fk x ps)/\true=(eC x ps))))))))))) ?_;have f0:dN x (ps.take 0)=x:=by rw[b4z];rfl
 have f1:oS x (ps.take 0)=false:=by rw[b4z];rfl
 refine λ _=>⟨⟨0,?_,⟨ae,ae,?_,rfl,rfl,?_,ae⟩,⟨?_,?_,?_,ae⟩,⟨rfl,rfl,ae,ae⟩,ae⟩,λ k1 _=>⟨λ _=>⟨?_,λ _ _ _=>⟨?_,λ _=>⟨?_,?_,?_⟩,λ _=>⟨λ _ _ _=>⟨?_,?_,k1+1,?_,?_,⟨ae,ae,?_,rfl,rfl,?_,ae⟩,⟨?_,?_,?_,ae⟩,⟨rfl,rfl,ae,ae⟩,ae⟩,λ _ _=>⟨?_,?_,k1+1,?_,?_,⟨ae,ae,?_,rfl,rfl,?_,ae⟩,⟨?_,?_,?_,ae⟩,⟨rfl,rfl,ae,ae⟩,ae⟩⟩⟩⟩,λ _=>⟨?_,?_,?_⟩⟩⟩;all_goals try and_intros
 all_goals first|with_reducible rfl|with_reducible assumption|exact True.intro|((try simp only[b3Y,J.eta,b3v,b3u,b3B,b3z,b3I,b3Q,ak,O,aY,b3J,b3G,b3T,b3M,b3R] at *);first|exact True.intro|omega|exact Cq.zero _ _|(rw[f0];done)|(rw[f1];done)|(have h:Cq x ps k1:=(by with_reducible assumption);first|exact (h.no (by omega) (by with_reducible assumption)).1|exact ((h.no (by omega) (by with_reducible assumption)).1).symm|exact (h.no (by omega) (by with_reducible assumption)).2.1|exact ((h.no (by omega) (by with_reducible assumption)).2.1).symm|exact (h.no (by omega) (by with_reducible assumption)).2.2|exact ((h.no (by omega) (by with_reducible assumption)).2.2).symm|exact h.next (by omega) (by with_reducible assumption)|exact (h.yes (by omega)).1|exact ((h.yes (by omega)).1).symm|exact (h.yes (by omega)).2.1|exact ((h.yes (by omega)).2.1).symm|exact (h.yes (by omega)).2.2|exact ((h.yes (by omega)).2.2).symm|(rw[(zk x ps k1 (by omega)).2.1];done)|(rw[(zk x ps k1 (by omega)).2.2];simp only[isN, *,Bool.true_or,b7r];done)|(rw[(zk x ps k1 (by omega)).2.2];simp only[isN, *,Bool.true_or,b7r];simp[*];done)))
def sD{t a:Int}{x:J}(h:bg t a x=true)(i:Nat)(hi:i<x.M.length):bg t a (x.M.getD i zE)=true:=by
 rw[il,b3A] at h;have hm:x.M.getD i zE∈x.M:=by
  rw[b3N,b3Z hi];exact b4Q _
 have:∀ xs:List J,bp (bg t a) xs=true->∀ y∈xs,bg t a y=true:=by
  intro xs;induction xs with
  | nil=>intro _ y hy;cases hy
  | cons z zs ih =>
   intro h y hy;simp only[bp,b3A] at h;rcases b3S.1 hy with rfl|hy
   .exact h.1
   .exact ih h.2 y hy
 exact this _ h.2 _ hm
def XD{t a:Int}{x:J}(h:bg t a x=true):x.M.length<=2:=by
 rw[il,Bool.and_eq_true] at h;have h1:=h.1;unfold oJ at h1;simp only[Bool.and_eq_true,decide_eq_true_eq] at h1;have h2:=h1.1.1;unfold cV at h2;split at h2
 .omega
 .split at h2
  .omega
  .split at h2<;>omega
def kO{x:J}(h:bg 62 62 x=true)(hk:x.aq=3\/x.aq=4):0<=x.aN/\x.aN<=62:=by
 rw[il,Bool.and_eq_true] at h;have h1:=h.1;unfold oJ at h1;rcases hk with hk|hk<;>simp[hk] at h1<;>omega
def Te:∀ (xs:List J) (y:J),cu (xs++[y])=(max (cu xs).1 (dm y).1,max (cu xs).2 (dm y).2)
 | [],y=>by
  rw[b3Y];simp only[cu];rw[Int.max_comm,Int.max_comm (dm y).2]
 | x::xs,y=>by
  rw[b4M,cu,Te xs y,cu];simp only[Int.max_assoc]
def Tf(x:J)(i:Nat)(hi:i<x.M.length):cu (x.M.take (i+1))=(max (cu (x.M.take i)).1 (dm (x.M.getD i zE)).1,max (cu (x.M.take i)).2 (dm (x.M.getD i zE)).2):=by
 rw[cj zE x.M i hi,Te]
def a8e(x:J)(h:x.aq=3):dm x=(x.aN+1,0):=by rw[Em,b4d h]
def a8f(x:J)(h3:¬ x.aq=3)(h:x.aq=4):dm x=(0,x.aN+1):=by rw[Em,b3H h3,b4d h]
def a3W(x:J)(h3:¬ x.aq=3)(h:¬ x.aq=4)(i:Nat)(hi:x.M.length<=i):dm x=cu (x.M.take i):=by rw[Em,b3H h3,b3H h,b3U hi]
def b1N{ts as_:List J}{x:J}(h:x.aq=3):dr ts as_ x=ts.getD x.aN.toNat zE:=by rw[Z1,b4d h]
def b1O{ts as_:List J}{x:J}(h3:¬ x.aq=3)(h:x.aq=4):dr ts as_ x=as_.getD x.aN.toNat zE:=by rw[Z1,b3H h3,b4d h]
def b1P{ts as_:List J}{x:J}(h3:¬ x.aq=3)(h:¬ x.aq=4)(i:Nat)(hi:x.M.length<=i):dr ts as_ x=J.mk x.aq x.aN ((x.M.take i).map (dr ts as_)):=by rw[Z1,b3H h3,b3H h,b3U hi]
def a1q(ts as_:List J)(x:J)(i:Nat)(hi:i<x.M.length):(x.M.take (i+1)).map (dr ts as_)=(x.M.take i).map (dr ts as_)++[dr ts as_ (x.M.getD i zE)]:=by
 rw[cj zE x.M i hi];simp
def YP{ts as_:List J}{x:J}(h:gb ts as_ x)(h3:¬ x.aq=3)(h4:¬ x.aq=4)(i:Nat)(hi:i<x.M.length):gb ts as_ (x.M.getD i zE) :=
 YQ (a2V h h3 h4) _ (by
  rw[b3N,b3Z hi];exact b4Q _)
structure N8(ts as_:List J):Prop where
 t:∀ y∈ts,aB y<=1048576
 a:∀ y∈as_,aB y<=1048576
def N8.gt{ts as_:List J}(h:N8 ts as_){n:Int}(h0:0<=n)(h1:n<(ts.length:Int)):aB (ts.getD n.toNat zE)<=1048576:=h.t _ (by
 rw[b3N,b3Z (by omega)];exact b4Q _)
def N8.ga{ts as_:List J}(h:N8 ts as_){n:Int}(h0:0<=n)(h1:n<(as_.length:Int)):aB (as_.getD n.toNat zE)<=1048576:=h.a _ (by
 rw[b3N,b3Z (by omega)];exact b4Q _)
def E9:aL:=⟨Fj,[.v (.int .i64), .v (.slice (.st .expr))],λ (k:Int) (ks:List J)=>⟨(none,[⟨(.st .expr),J.mk k 0 ks⟩])⟩⟩
def a0l(k:Int)(ks:List J):Nat->az:=bI
def FW:aL.Good E9:=by
 refine⟨ar sH,?_⟩;intro (k:Int) (ks:List J) _;refine aV [] [] [] [] trivial sH FT (a0l k ks) ((J.mk k (0:Int) ks)=(J.mk k 0 ks)) ?_;refine ?_;all_goals try and_intros
 all_goals first|rfl|trivial|omega|(simp only[b3v,b3u,ak,O,bS,cB,bJ,aY] at *;omega)|(simp[ak,O] at *;omega)|grind
mutual
def QG:∀ x:J,bg 62 62 x=true->(0<=(dm x).1/\(dm x).1<=63)/\0<=(dm x).2/\(dm x).2<=63
 | ⟨k,n,ks⟩=>λ h=>by
  have h1:=kO h;rw[bg,Bool.and_eq_true] at h;have h2:=N7 ks h.2;rw[dm];dsimp only at h1;by_cases h3:k=3
  .have:=h1 (.inl h3);rw[if_pos h3];dsimp only;omega
  .by_cases h4:k=4
   .have:=h1 (.inr h4);rw[if_neg h3,if_pos h4];dsimp only;omega
   .rw[b3H h3,b3H h4];exact h2
def N7:∀ xs:List J,na 62 62 xs=true->(0<=(cu xs).1/\(cu xs).1<=63)/\0<=(cu xs).2/\(cu xs).2<=63
 | []=>λ _=>by rw[cu];dsimp only;omega
 | x::xs=>λ h=>by
  rw[na,Bool.and_eq_true] at h;have h1:=QG x h.1;have h2:=N7 xs h.2;rw[cu];dsimp only;omega
end
def QI{t a:Int}:∀ (xs:List J) (i:Nat),na t a xs=true->na t a (xs.take i)=true
 | _,0,_=>by rw[b4z];rfl
 | [],i+1,_=>by rw[List.take_nil];rfl
 | x::xs,i+1,h=>by
  rw[na,b3A] at h;rw[b6A,na,h.1,QI xs i h.2];rfl
def Sl(x:J)(h:bg 62 62 x=true)(i:Nat):(0<=(cu (x.M.take i)).1/\(cu (x.M.take i)).1<=63)/\0<=(cu (x.M.take i)).2/\(cu (x.M.take i)).2<=63:=by
 cases x with
 | mk k n ks =>
  rw[bg,b3A] at h;exact N7 _ (QI ks i h.2)
def sL(n:Nat):aL:=⟨Fi,[.v (.st .expr)],λ (x:J)=>⟨(some (cb x<n/\bg 62 62 x=true),[⟨(.int .i64),(dm x).1⟩,⟨(.int .i64),(dm x).2⟩])⟩⟩
def PS:aL:=⟨Fi,[.v (.st .expr)],λ (x:J)=>⟨(some (bg 62 62 x=true),[⟨(.int .i64),(dm x).1⟩,⟨(.int .i64),(dm x).2⟩])⟩⟩
def a0k(x:J):Nat->az:=(cP 1 (.b (Nat) (λ i=>i<=x.M.length) (λ i=>x.M.length - i) [0,1,2,3,10,11,12,13,17,18,22] (λ i=>[(25, .aF ⟨(.int .i64),((i:Int):Int)⟩),(4, .aF ⟨(.int .i64),((cu (x.M.take i)).1:Int)⟩),(5, .aF ⟨(.int .i64),((cu (x.M.take i)).2:Int)⟩)])) bI)
def Ye(n:Nat)(hE:bD [sL n]):aL.Good (sL (n+1)):=by
 refine⟨ar sG,?_⟩;intro (x:J) (hp:cb x<n+1/\bg 62 62 x=true);refine aV [sL n] [] [] [1] hE sG Tn (a0k x) (let v0:=(x.M.length:Int);let v1:=x.aN+(1:Int);((O x.aq->(((decide (x.aq=(3:Int)))=true->(O x.aN->(O v1/\(v1=((dm x).1)/\(0:Int)=((dm x).2)))))/\((decide (x.aq=(3:Int)))=false->(((decide (x.aq=(4:Int)))=true->(O v1/\(O x.aN->((0:Int)=((dm x).1)/\v1=((dm x).2)))))/\((decide (x.aq=(4:Int)))=false->(x.M.length<=140737488355328->(O v0->((∃ i1:Nat,(i1<=x.M.length/\(((0:Int)=((cu (x.M.take i1)).1)/\((0:Int)=((cu (x.M.take i1)).2)/\(x.M=x.M/\(v0=v0/\((0:Int)=(i1:Int)/\True)))))/\True)))/\(∀ i1:Nat,let v2:=aI (x.M.getD i1 zE);let v3:=cu (x.M.take i1);let v4:=dm v2;(i1<=x.M.length->(((decide ((i1:Int)<v0))=true->(ak (i1:Int) x.M.length/\((cb v2<n/\bg 62 62 v2=true)/\(O (v4.1)->(O (v4.2)->(O (max (v3.1) (v4.1))->(O (max (v3.2) (v4.2))->(O ((i1:Int)+(1:Int))/\(∃ i2:Nat,(i2<=x.M.length/\(x.M.length - i2<x.M.length - i1/\(((max (v3.1) (v4.1))=((cu (x.M.take i2)).1)/\((max (v3.2) (v4.2))=((cu (x.M.take i2)).2)/\(x.M=x.M/\(v0=v0/\(((i1:Int)+(1:Int))=(i2:Int)/\True)))))/\True))))))))))))/\((decide ((i1:Int)<v0))=false->((v3.1)=((dm x).1)/\(v3.2)=((dm x).2)))))))))))))))) ?_;have f0:=λ i (h:i<x.M.length)=>b9 zE x.M i h;have f1:=dj x;have f2:cu (x.M.take 0)=(0,0):=by rw[b4z];rfl
 refine λ _=>⟨λ _ _=>⟨?_,?_,?_⟩,λ _=>⟨λ _=>⟨?_,λ _=>⟨?_,?_⟩⟩,λ _ _ _=>⟨⟨0,?_,⟨?_,?_,rfl,rfl,?_,ae⟩,ae⟩,λ i1 _=>⟨λ _=>⟨?_,?_,λ _ _ _ _=>⟨?_,i1+1,?_,?_,⟨?_,?_,rfl,rfl,?_,ae⟩,ae⟩⟩,λ _=>⟨?_,?_⟩⟩⟩⟩⟩;all_goals try and_intros
 all_goals try (first|with_reducible rfl|with_reducible assumption)
 all_goals try simp only[J.eta,ag.eta,au.eta,aJ,bm,bH] at *
 all_goals first|with_reducible rfl|with_reducible assumption|exact True.intro|(simp only[b3D,b3C,b3B,b3z] at *;done)|((try simp only[b3Y,J.eta,b3v,b3u,b3B,b3z,b3I,b3Q,ak,O,aY,b3J,b3G,b3T,b3M,b3R] at *);first|exact True.intro|omega|(rw[f2];done)|(rw[a8e x (by with_reducible assumption)];done)|(rw[a8f x (by with_reducible assumption) (by with_reducible assumption)];done)|(have h1:=kO hp.2 (.inl (by with_reducible assumption));omega)|(have h1:=kO hp.2 (.inr (by with_reducible assumption));omega)|(rw[a3W x (by with_reducible assumption) (by with_reducible assumption) i1 (by omega)];done)|exact sD hp.2 _ (by omega)|(have h1:=f0 i1 (by omega);omega)|(rw[Tf x i1 (by omega)];done)|(have h1:=QG _ (sD hp.2 i1 (by omega));have h2:=Sl x hp.2 i1;omega))
def UW :∀ n,bD [sL n]
 | 0=>⟨⟨ar sG,λ _ h=>absurd h.1 (b4q _)⟩,ae⟩
 | n+1=>by
  have ih:=UW  n;exact⟨Ye n ⟨ih.1,ae⟩,ae⟩
def Tr :aL.Good PS :=
 ⟨ar sG,λ x hp=>(UW  (cb x+1)).1.2 x (⟨b4m _,hp⟩)⟩
def mR(n:Nat):aL:=⟨yW,[.v (.st .expr), .v (.slice (.st .expr)), .v (.slice (.st .expr))],λ (x:J) (ts:List J) (as_:List J)=>⟨(some (cb x<n/\gb ts as_ x/\bg 62 62 x=true/\N8 ts as_),[⟨(.st .expr),dr ts as_ x⟩])⟩⟩
def Gq:aL:=⟨yW,[.v (.st .expr), .v (.slice (.st .expr)), .v (.slice (.st .expr))],λ (x:J) (ts:List J) (as_:List J)=>⟨(some (gb ts as_ x/\bg 62 62 x=true/\N8 ts as_),[⟨(.st .expr),dr ts as_ x⟩])⟩⟩
def Uc(x:J)(ts:List J)(as_:List J):Nat->az:=(cP 1 (.a (Nat) (λ i=>i<=x.M.length) (λ i=>x.M.length - i) [0,3,10,11,12,13,14,15,16,17,24,25,26,27,28,29,30,31,38,39,40,41,42,43] (λ i=>[(46, .aF ⟨(.int .i64),((i:Int):Int)⟩)]) [6] (λ i=>[(7, .box [.aF ⟨(.int .i64),(x.aq:Int)⟩, .aF ⟨(.int .i64),(x.aN:Int)⟩, .aw 5800]),(5800, .aw (.st .expr) ((x.M.take i).map (dr ts as_):List J))])) bI)
abbrev AX(x:J)(ts:List J)(as_:List J):Prop:=(let v0:=ts.getD (Int.toNat x.aN) zE;(O x.aN ->
 (ak x.aN ts.length/\(aB v0<=1048576/\(aI v0)=(dr ts as_ x)))))
abbrev AY(x:J)(ts:List J)(as_:List J):Prop:=(let v0:=as_.getD (Int.toNat x.aN) zE;(O x.aN ->
 (ak x.aN as_.length/\(aB v0<=1048576/\(aI v0)=(dr ts as_ x)))))
abbrev AZ(n:Nat)(x:J)(ts:List J)(as_:List J):Prop:=(let v0:=(x.M.length:Int);let v1:=((0:Int)=(0:Int)/\((0:Int)=(0:Int)/\(True/\True)))/\True;let v2:=(7:Nat)=7/\(2:Nat)=2;let v3:=x.aq=x.aq/\(x.aN=x.aN/\(True/\True));let v4:=dr ts as_;(O x.aq ->
 (O x.aN ->
 (x.M.length<=140737488355328 ->
 (O v0 ->
 ((∃ i1:Nat,(i1<=x.M.length/\((ts=ts/\(as_=as_/\(True/\(True/\(x.M=x.M/\(v0=v0/\((0:Int)=(i1:Int)/\True)))))))/\(v3/\(((x.M.take i1).map v4)=[]/\v1)))))/\(∀ i1:Nat,let v5:=x.M.getD i1 zE;let v6:=(x.M.take i1).map v4;let v7:=[(aI (dr ts as_ (aI v5)))];(i1<=x.M.length ->
 (((decide ((i1:Int)<v0))=true ->
 (ak (i1:Int) x.M.length/\(ts.length<=140737488355328 ->
 (as_.length<=140737488355328 ->
 (v2/\((5800:Nat)=5800/\((v5.aq=v5.aq/\(v5.aN=v5.aN/\(v5.M=v5.M/\True)))/\(ts=ts/\(as_=as_/\((cb (aI v5)<n/\gb ts as_ (aI v5)/\bg 62 62 (aI v5)=true/\N8 ts as_)/\(v2/\((5800:Nat)=5800/\(v2/\((5800:Nat)=5800/\(aY (v6.length+v7.length) 40/\(O ((i1:Int)+(1:Int))/\(∃ i2:Nat,(i2<=x.M.length/\(x.M.length - i2<x.M.length - i1/\((ts=ts/\(as_=as_/\(True/\(True/\(x.M=x.M/\(v0=v0/\(((i1:Int)+(1:Int))=(i2:Int)/\True)))))))/\(v3/\((v6++v7)=((x.M.take i2).map v4)/\v1))))))))))))))))))))))/\((decide ((i1:Int)<v0))=false ->
 (J.mk x.aq x.aN v6)=(dr ts as_ x)))))))))))
abbrev A0(n:Nat)(x:J)(ts:List J)(as_:List J):Prop:=(O x.aq ->
 (((decide (x.aq=(4:Int)))=true ->
 (1<=as_.length/\((true=true ->
 (AY x ts as_))/\(true=false ->
 (AZ n x ts as_)))))/\((decide (x.aq=(4:Int)))=(!true) ->
 ((false=true ->
 (AY x ts as_))/\(false=false ->
 (AZ n x ts as_))))))
def Sc(n:Nat)(hE:bD [])(hO:hJ [mR n,eU])(hM:jF [])(hS:im []):aL.cS (mR (n+1)):=by
 refine⟨ar nY,?_⟩;intro (x:J) (ts:List J) (as_:List J) (hp:cb x<n+1/\gb ts as_ x/\bg 62 62 x=true/\N8 ts as_);refine bX [] [mR n,eU] [] [] [23,37,55,56,57] [] [] [3] hE hO hM hS nY Ov (Uc x ts as_) ((O x.aq->(((decide (x.aq=(3:Int)))=true->(1<=ts.length/\((true=true->(AX x ts as_))/\(true=false->(A0 n x ts as_)))))/\((decide (x.aq=(3:Int)))=(!true)->((false=true->(AX x ts as_))/\(false=false->(A0 n x ts as_))))))) ?_;obtain⟨hm,g0,g1,g2⟩:=hp;have f0:=λ i (h:i<x.M.length)=>b9 zE x.M i h;have f1:=dj x;have f2:(x.M.take 0).map (dr ts as_)=[]:=by simp
 have f3:=XD g1;refine λ _=>⟨λ _=>⟨?_,λ _ _=>⟨?_,?_,?_⟩,λ _ _=>⟨λ _=>⟨?_,λ _ _=>⟨?_,?_,?_⟩,λ _ _ _ _ _=>⟨⟨0,?_,⟨rfl,rfl,ae,ae,rfl,rfl,?_,ae⟩,⟨rfl,rfl,ae,ae⟩,?_,⟨rfl,rfl,ae,ae⟩,ae⟩,λ i1 _=>⟨λ _=>⟨?_,λ _ _=>⟨⟨?_,?_⟩,?_,⟨rfl,rfl,rfl,?_⟩,rfl,rfl,?_,⟨?_,?_⟩,?_,⟨?_,?_⟩,?_,?_,?_,i1+1,?_,?_,⟨rfl,rfl,ae,ae,rfl,rfl,?_,ae⟩,⟨rfl,rfl,ae,ae⟩,?_,⟨rfl,rfl,ae,ae⟩,ae⟩⟩,λ _=>?_⟩⟩⟩,λ _=>⟨λ _ _=>⟨?_,?_,?_⟩,λ _ _ _ _ _=>⟨⟨0,?_,⟨rfl,rfl,ae,ae,rfl,rfl,?_,ae⟩,⟨rfl,rfl,ae,ae⟩,?_,⟨rfl,rfl,ae,ae⟩,ae⟩,λ i1 _=>⟨λ _=>⟨?_,λ _ _=>⟨⟨?_,?_⟩,?_,⟨rfl,rfl,rfl,?_⟩,rfl,rfl,?_,⟨?_,?_⟩,?_,⟨?_,?_⟩,?_,?_,?_,i1+1,?_,?_,⟨rfl,rfl,ae,ae,rfl,rfl,?_,ae⟩,⟨rfl,rfl,ae,ae⟩,?_,⟨rfl,rfl,ae,ae⟩,ae⟩⟩,λ _=>?_⟩⟩⟩⟩⟩,λ _=>⟨λ _ _=>⟨?_,?_,?_⟩,λ _ _=>⟨λ _=>⟨?_,λ _ _=>⟨?_,?_,?_⟩,λ _ _ _ _ _=>⟨⟨0,?_,⟨rfl,rfl,ae,ae,rfl,rfl,?_,ae⟩,⟨rfl,rfl,ae,ae⟩,?_,⟨rfl,rfl,ae,ae⟩,ae⟩,λ i1 _=>⟨λ _=>⟨?_,λ _ _=>⟨⟨?_,?_⟩,?_,⟨rfl,rfl,rfl,?_⟩,rfl,rfl,?_,⟨?_,?_⟩,?_,⟨?_,?_⟩,?_,?_,?_,i1+1,?_,?_,⟨rfl,rfl,ae,ae,rfl,rfl,?_,ae⟩,⟨rfl,rfl,ae,ae⟩,?_,⟨rfl,rfl,ae,ae⟩,ae⟩⟩,λ _=>?_⟩⟩⟩,λ _=>⟨λ _ _=>⟨?_,?_,?_⟩,λ _ _ _ _ _=>⟨⟨0,?_,⟨rfl,rfl,ae,ae,rfl,rfl,?_,ae⟩,⟨rfl,rfl,ae,ae⟩,?_,⟨rfl,rfl,ae,ae⟩,ae⟩,λ i1 _=>⟨λ _=>⟨?_,λ _ _=>⟨⟨?_,?_⟩,?_,⟨rfl,rfl,rfl,?_⟩,rfl,rfl,?_,⟨?_,?_⟩,?_,⟨?_,?_⟩,?_,?_,?_,i1+1,?_,?_,⟨rfl,rfl,ae,ae,rfl,rfl,?_,ae⟩,⟨rfl,rfl,ae,ae⟩,?_,⟨rfl,rfl,ae,ae⟩,ae⟩⟩,λ _=>?_⟩⟩⟩⟩⟩⟩;all_goals try and_intros
 all_goals try (first|with_reducible rfl|with_reducible assumption)
 all_goals try simp only[J.eta,ag.eta,au.eta,aJ,bm,bH] at *
 all_goals first|with_reducible rfl|with_reducible assumption|exact True.intro|(simp only[b3D,b3C,b3B,b3z] at *;done)|((try simp only[b3Y,J.eta,b3v,b3u,b3B,b3z,b3I,b3Q,ak,O,aY,b3J,b3G,b3T,b3M,b3R] at *);first|exact True.intro|omega|(rw[f2];done)|(rw[b1N (by with_reducible assumption)];done)|(rw[b1O (by with_reducible assumption) (by with_reducible assumption)];done)|(have h1:=kO g1 (.inl (by with_reducible assumption));have h2:=a4o g0 (by with_reducible assumption);first|omega|exact g2.gt h1.1 h2)|(have h1:=kO g1 (.inr (by with_reducible assumption));have h2:=a4n g0 (by with_reducible assumption);first|omega|exact g2.ga h1.1 h2)|(rw[b1P (by with_reducible assumption) (by with_reducible assumption) i1 (by omega)];done)|exact sD g1 _ (by omega)|(have h1:=f0 i1 (by omega);omega)|exact YP g0 (by with_reducible assumption) (by with_reducible assumption) i1 (by omega)|exact a1q _ _ _ _ (by omega)|exact (a1q _ _ _ _ (by omega)).symm)
def Su:∀ n,hJ [mR n]
 | 0=>⟨⟨ar nY,λ _ _ _ h=>absurd h.1 (b4q _)⟩,ae⟩
 | n+1=>by
  have ih:=Su n;exact⟨Sc n trivial ⟨ih.1,iM,ae⟩ trivial trivial,ae⟩
def NB:aL.cS Gq :=
 ⟨ar nY,λ x ts as_ hp=>(Su (cb x+1)).1.2 x ts as_ (⟨b4m _,hp⟩)⟩
def a5Z{l r:J}(h1:bg 62 62 l=true)(h2:bg 62 62 r=true):bg 62 62 (J.mk 6 0 [l,r])=true:=by
 rw[il];simp only[bp,h1,h2,oJ,cV];simp
def a8g(l r:J):dm (J.mk 6 0 [l,r])=cu [l,r]:=by rw[dm];simp
def wj(gg:aU)(x:J)(ts as_:List J):J:=bif cD gg (dr ts as_ x) then dr ts as_ x else J.mk (0:Int) (0:Int) []
def qb(gg:aU)(x:J)(ts as_:List J):Int:=bif cD gg (dr ts as_ x) then 0 else 3
def a0j{gg:aU}{x:J}{ts as_:List J}(h:cD gg (dr ts as_ x)=true):wj gg x ts as_=dr ts as_ x/\qb gg x ts as_=0:=by unfold wj qb;rw[h];exact⟨rfl,rfl⟩
def a3k{gg:aU}{x:J}{ts as_:List J}(h:cD gg (dr ts as_ x)=false):wj gg x ts as_=J.mk (0:Int) (0:Int) []/\qb gg x ts as_=3:=by unfold wj qb;rw[h];exact⟨rfl,rfl⟩
def rpK(y x:J)(ps:List Int):List J:=(fU y x ps).M
def b2D(y x:J)(ps:List Int)(h:ps.length=0):fU y x ps=y:=by rw[b4C h];rfl
def a7N(y x:J)(ps:List Int)(h:¬ ps.length=0):rpK y x ps=x.M.set (ps.getD 0 0).toNat (fU y (x.M.getD (ps.getD 0 0).toNat zE) (ps.drop 1))/\fU y x ps=J.mk x.aq x.aN (rpK y x ps):=by
 match ps,h with
 | k::ks,_=>exact⟨rfl,rfl⟩
def a2j(y x:J)(ps:List Int)(h:¬ ps.length=0):(rpK y x ps).length=x.M.length:=by rw[(a7N y x ps h).1,b4Y]
def a4X(y x:J)(ps:List Int)(h:¬ ps.length=0)(i:Nat)(hi:i<x.M.length)(h0:0<=ps.getD 0 0):(rpK y x ps).take (i+1)=(rpK y x ps).take i++[if (i:Int)=ps.getD 0 0 then fU y (x.M.getD i zE) (ps.drop 1) else x.M.getD i zE]:=by
 rw[cj zE _ i (by rw[a2j y x ps h];exact hi)];congr 2;rw[(a7N y x ps h).1,b3N,b6r];by_cases e:(i:Int)=ps.getD 0 0
 .rw[b4d e];have e2:(ps.getD 0 0).toNat=i:=by omega
  rw[b4d e2,e2,b4d hi];rfl
 .rw[b3H e,b3H (by omega),b3N]
def a2i(y x:J)(ps:List Int)(h:¬ ps.length=0)(i:Nat)(hi:x.M.length<=i):fU y x ps=J.mk x.aq x.aN ((rpK y x ps).take i):=by
 rw[b3U (by rw[a2j y x ps h];exact hi)];exact (a7N y x ps h).2
def a3u{x:J}{ps:List Int}(h:¬ ps.length=0)(ho:eC x ps=true):(0<=ps.getD 0 0/\ps.getD 0 0<=(x.M.length:Int) - 1)/\eC (x.M.getD (ps.getD 0 0).toNat zE) (ps.drop 1)=true:=by
 match ps,h with
 | k::ks,_ =>
  simp only[eC,b3A,Ro,b3v] at ho;exact ho
def z8(gg:aU)(x:J)(ps:List Int)(y:J):J:=bif eC x ps && !(oS x ps && !bq y)&&cD gg (fU y x ps) then fU y x ps else J.mk (0:Int) (0:Int) []
def pD(gg:aU)(x:J)(ps:List Int)(y:J):Int:=bif eC x ps then (bif oS x ps && !bq y then 4 else (bif cD gg (fU y x ps) then 0 else 3)) else 2
def a7M{gg:aU}{x y:J}{ps:List Int}(h:eC x ps=false):z8 gg x ps y=J.mk (0:Int) (0:Int) []/\pD gg x ps y=2:=by unfold z8 pD;rw[h];exact⟨rfl,rfl⟩
def a3N{gg:aU}{x y:J}{ps:List Int}(h:eC x ps=true)(h2:Fk x ps=true)(h3:bq y=false):z8 gg x ps y=J.mk (0:Int) (0:Int) []/\pD gg x ps y=4:=by
 unfold Fk at h2;rw[h,Bool.true_and] at h2;unfold z8 pD;rw[h,h2,h3];exact⟨rfl,rfl⟩
def JC{gg:aU}{x y:J}{ps:List Int}(h:eC x ps=true)(h2:Fk x ps=false\/bq y=true)(b:Bool)(h3:cD gg (fU y x ps)=b):z8 gg x ps y=(bif b then fU y x ps else J.mk (0:Int) (0:Int) [])/\pD gg x ps y=bif b then 0 else 3:=by
 have e:(oS x ps && !bq y)=false:=by
  unfold Fk at h2;rw[h,Bool.true_and] at h2;rcases h2 with g|g<;>rw[g]<;>simp
 unfold z8 pD;rw[h,e,h3];exact⟨rfl,rfl⟩
def IE:aL:=⟨I5,[.v (.st .equation)],λ (q:au)=>⟨(some (bg 62 62 q.left=true/\bg 62 62 q.right=true),[⟨(.int .i64),(cu [q.left,q.right]).1⟩,⟨(.int .i64),(cu [q.left,q.right]).2⟩])⟩⟩
def Wn(q:au):Nat->az:=bI
def Pa:aL.Good IE:=by
 refine⟨ar FF,?_⟩;intro (q:au) (hp:bg 62 62 q.left=true/\bg 62 62 q.right=true);refine aV [PS,E9] [] [] [1] ⟨Tr,FW,ae⟩ FF Ox (Wn q) (let v0:=J.mk (6:Int) 0 ([q.left,q.right]);((bg 62 62 v0=true/\(O ((dm v0).1)->(O ((dm v0).2)->(((dm v0).1)=((cu [q.left,q.right]).1)/\((dm v0).2)=((cu [q.left,q.right]).2))))))) ?_;have f0:=a5Z hp.1 hp.2;have f1:=a8g q.left q.right;refine⟨?_,λ _ _=>⟨?_,?_⟩⟩;all_goals try and_intros
 all_goals first|with_reducible rfl|trivial|exact f0|omega|(rw[f1];done)|(simp only[b3Y,J.eta,b3v,b3u,b3B,b3z,b3I,b3Q,ak,O,aY,b3J,b3G,b3T,b3M,b3R] at *;omega)
def qn:aL:=⟨D1,[.v (.st .sig), .v (.st .expr), .v (.slice (.st .expr)), .v (.slice (.st .expr))],λ (gg:aU) (x:J) (ts:List J) (as_:List J)=>⟨(some (gb ts as_ x/\bg 62 62 x=true/\N8 ts as_/\ts.length<=1000/\as_.length<=1000),[⟨(.st .expr),wj gg x ts as_⟩,⟨(.int .i64),qb gg x ts as_⟩])⟩⟩
def P2(gg:aU)(x:J)(ts:List J)(as_:List J):Nat->az:=bI
abbrev KW(gg:aU)(x:J)(ts:List J)(as_:List J):Prop:=(let v0:=aI (dr ([]++ts) ([]++as_) x);(x=x/\(as_=as_/\(aY ((@List.nil J).length+as_.length) 40/\(x=x/\((gb ([]++ts) ([]++as_) x/\bg 62 62 x=true/\N8 ([]++ts) ([]++as_))/\(((!(cD gg v0))=true ->
 (zE=(wj gg x ts as_)/\(3:Int)=(qb gg x ts as_)))/\((!(cD gg v0))=false ->
 (v0=(wj gg x ts as_)/\(0:Int)=(qb gg x ts as_))))))))))
def Jp:aL.cS qn:=by
 refine⟨ar Al,?_⟩;intro (gg:aU) (x:J) (ts:List J) (as_:List J) (hp:gb ts as_ x/\bg 62 62 x=true/\N8 ts as_/\ts.length<=1000/\as_.length<=1000);refine bX [l9] [Gq] [] [] [18] [] [] [4,5] ⟨lp,ae⟩ ⟨NB,ae⟩ trivial trivial Al Kl (P2 gg x ts as_) (let v1:=(@List.nil J).length+ts.length;let v2:=KW gg x ts as_;let v0:=x=x/\(ts=ts/\(as_=as_/\(aY v1 40/\v2)));((ts.length<=140737488355328->(as_.length<=140737488355328->(x=x/\(ts=ts/\(as_=as_/\((x=x/\(ts=ts/\(as_=as_/\((aY v1 40/\(x=x/\(as_=as_/\v2)))/\(v0/\True)))))/\((x=x/\(ts=ts/\(as_=as_/\v0)))/\True))))))))) ?_;refine λ _ _=>⟨rfl,rfl,rfl,⟨rfl,rfl,rfl,⟨?_,rfl,rfl,rfl,rfl,?_,rfl,?_,λ _=>⟨?_,?_⟩,λ _=>⟨?_,?_⟩⟩,⟨rfl,rfl,rfl,?_,rfl,rfl,?_,rfl,?_,λ _=>⟨?_,?_⟩,λ _=>⟨?_,?_⟩⟩,ae⟩,⟨rfl,rfl,rfl,rfl,rfl,rfl,?_,rfl,rfl,?_,rfl,?_,λ _=>⟨?_,?_⟩,λ _=>⟨?_,?_⟩⟩,ae⟩;all_goals try and_intros
 all_goals try (first|with_reducible rfl|with_reducible assumption)
 all_goals try simp only[J.eta,ag.eta,au.eta,aJ,bm,bH] at *
 all_goals first|with_reducible rfl|with_reducible assumption|exact True.intro|omega|((first|have Q:=a0j (gg:=gg) (x:=x) (ts:=ts) (as_:=as_) (by with_reducible assumption)|have Q:=a3k (gg:=gg) (x:=x) (ts:=ts) (as_:=as_) (by with_reducible assumption));first|exact Q.1|exact Q.2|exact Q.1.symm|exact Q.2.symm)|exact hp.1|exact hp.2.1|exact hp.2.2.1|(simp only[b3Y,J.eta,b3v,b3u,b3B,b3z,b3I,b3Q,ak,O,aY,b3J,b3G,b3T,b3M,b3R] at *;first|omega|((first|have Q:=a0j (gg:=gg) (x:=x) (ts:=ts) (as_:=as_) (by with_reducible assumption)|have Q:=a3k (gg:=gg) (x:=x) (ts:=ts) (as_:=as_) (by with_reducible assumption));first|exact Q.1|exact Q.2|exact Q.1.symm|exact Q.2.symm))
def ki(n:Nat):aL:=⟨sn,[.v (.st .expr), .v (.slice (.int .i64)), .v (.st .expr)],λ (x:J) (ps:List Int) (y:J)=>⟨(some (ps.length<n/\eC x ps=true/\aB x<=1048576/\aB y<=1048576/\ps.length<=1000),[⟨(.st .expr),fU y x ps⟩])⟩⟩
def A9:aL:=⟨sn,[.v (.st .expr), .v (.slice (.int .i64)), .v (.st .expr)],λ (x:J) (ps:List Int) (y:J)=>⟨(some (eC x ps=true/\aB x<=1048576/\aB y<=1048576/\ps.length<=1000),[⟨(.st .expr),fU y x ps⟩])⟩⟩
def P4(x:J)(ps:List Int)(y:J):Nat->az:=(cP 0 (.a (Nat) (λ i=>i<=x.M.length) (λ i=>x.M.length - i) [0,2,3,10,11,12,15,16,17,18,19,20] (λ i=>[(23, .aF ⟨(.int .i64),((i:Int):Int)⟩)]) [6] (λ i=>[(7, .box [.aF ⟨(.int .i64),(x.aq:Int)⟩, .aF ⟨(.int .i64),(x.aN:Int)⟩, .aw 5800]),(5800, .aw (.st .expr) ((rpK y x ps).take i:List J))])) bI)
abbrev KX(x:J)(i1:Nat):Prop:=(let v0:=x.M.getD i1 zE;(v0.aq=v0.aq/\(v0.aN=v0.aN/\(v0.M=v0.M/\True))))
abbrev wo(x:J)(ps:List Int)(y:J)(i1:Nat)(i2:Nat):Prop:=(ps=ps/\(y=y/\(True/\(True/\(x.M=x.M/\(((x.M.length:Int))=((x.M.length:Int))/\(((i1:Int)+(1:Int))=(i2:Int)/\True)))))))
def NK(n:Nat)(hE:bD [])(hO:hJ [ki n,eU])(hM:jF [])(hS:im []):aL.cS (ki (n+1)):=by
 refine⟨ar lf,?_⟩;intro (x:J) (ps:List Int) (y:J) (hp:ps.length<n+1/\eC x ps=true/\aB x<=1048576/\aB y<=1048576/\ps.length<=1000);refine bX [] [ki n,eU] [] [] [14,39,40,41,46,47,48] [] [] [3,5] hE hO hM hS lf Ko (P4 x ps y) (let v1:=(7:Nat)=7/\(2:Nat)=2;let v3:=x.aq=x.aq/\(x.aN=x.aN/\(True/\True));let v4:=(x.M.length:Int);let v5:=(ps.length:Int);let v0:=(ps.take (Int.toNat v5)).drop 1;let v6:=rpK y x ps;let v7:=(0:Int);let v2:=(v7=v7/\(v7=v7/\(True/\True)))/\True;let v8:=(5800:Nat);((O v5->(((decide (v5=v7))=true->(aB y<=1048576/\(aI y)=(fU y x ps)))/\((decide (v5=v7))=false->(O x.aq->(O x.aN->(x.M.length<=140737488355328->(O v4->((∃ i1:Nat,(i1<=x.M.length/\((ps=ps/\(y=y/\(True/\(True/\(x.M=x.M/\(v4=v4/\(v7=(i1:Int)/\True)))))))/\(v3/\((v6.take i1)=[]/\v2)))))/\(∀ i1:Nat,let v9:=aI (x.M.getD i1 zE);let va:=KX x i1;let vb:=(i1:Int);let vc:=v6.take i1;(i1<=x.M.length->(((decide (vb<v4))=true->(ak vb x.M.length/\(ak v7 ps.length/\(O (ps.getD 0 v7)->(((decide (vb=(ps.getD 0 v7)))=true->(ps.length<=140737488355328->(v1/\(v8=5800/\(va/\(ps=ps/\(y=y/\(cB (1:Int) v5 ps.length/\(v1/\(v8=5800/\(va/\(y=y/\((v0.length<n/\eC v9 v0=true/\aB v9<=1048576/\aB y<=1048576/\v0.length<=1000)/\(v1/\(v8=5800/\(v1/\(v8=5800/\(aY (vc.length+([(aI (fU y v9 v0))]).length) 40/\(O (vb+(1:Int))/\(∃ i2:Nat,(i2<=x.M.length/\(x.M.length - i2<x.M.length - i1/\((wo x ps y i1 i2)/\(v3/\((vc++([(aI (fU y v9 v0))]))=(v6.take i2)/\v2)))))))))))))))))))))))))/\((decide (vb=(ps.getD 0 v7)))=false->(v1/\(v8=5800/\(va/\(aB v9<=1048576/\(v1/\(v8=5800/\(v1/\(v8=5800/\(aY (vc.length+([v9]).length) 40/\(O (vb+(1:Int))/\(∃ i2:Nat,(i2<=x.M.length/\(x.M.length - i2<x.M.length - i1/\((wo x ps y i1 i2)/\(v3/\((vc++([v9]))=(v6.take i2)/\v2))))))))))))))))))))))/\((decide (vb<v4))=false->(J.mk x.aq x.aN vc)=(fU y x ps))))))))))))))) ?_;obtain⟨hm,g0,g1,g2,g3⟩:=hp;rw[jO] at g1;have f1:=λ i (h:i<x.M.length)=>dK aB zE x.M i h;have f9:ps.take (Int.toNat (ps.length:Int))=ps:=by simp
 have f8:(rpK y x ps).take 0=[]:=b4z;refine λ _=>⟨λ _=>⟨?_,?_⟩,λ _ _ _ _ _=>⟨⟨0,?_,⟨rfl,rfl,ae,ae,rfl,rfl,?_,ae⟩,⟨rfl,rfl,ae,ae⟩,?_,⟨rfl,rfl,ae,ae⟩,ae⟩,λ i1 _=>⟨λ _=>⟨?_,?_,λ _=>⟨λ _ _=>⟨⟨?_,?_⟩,?_,⟨rfl,rfl,rfl,?_⟩,rfl,rfl,?_,⟨?_,?_⟩,?_,⟨rfl,rfl,rfl,?_⟩,rfl,?_,⟨?_,?_⟩,?_,⟨?_,?_⟩,?_,?_,?_,i1+1,?_,?_,⟨rfl,rfl,ae,ae,rfl,rfl,?_,ae⟩,⟨rfl,rfl,ae,ae⟩,?_,⟨rfl,rfl,ae,ae⟩,ae⟩,λ _=>⟨⟨?_,?_⟩,?_,⟨rfl,rfl,rfl,?_⟩,?_,⟨?_,?_⟩,?_,⟨?_,?_⟩,?_,?_,?_,i1+1,?_,?_,⟨rfl,rfl,ae,ae,rfl,rfl,?_,ae⟩,⟨rfl,rfl,ae,ae⟩,?_,⟨rfl,rfl,ae,ae⟩,ae⟩⟩⟩,λ _=>?_⟩⟩⟩;all_goals try and_intros
 all_goals try (first|with_reducible rfl|with_reducible assumption)
 all_goals try simp only[J.eta,ag.eta,au.eta,aJ,bm,bH] at *
 all_goals first|with_reducible rfl|with_reducible assumption|exact True.intro|((try simp only[b3Y,J.eta,b3v,b3u,b3B,b3z,b3I,b3Q,ak,O,aY,b3J,b3G,b3T,b3M,b3R] at *);(try simp only[f9]);first|exact True.intro|omega|exact f8.symm|(rw[b4L];omega)|(rw[b2D y x ps (by omega)];done)|(rw[a4X y x ps (by omega) i1 (by omega) (a3u (by omega) g0).1.1,b4d (by omega)];done)|(rw[a4X y x ps (by omega) i1 (by omega) (a3u (by omega) g0).1.1,b3H (by omega)];done)|exact a2i y x ps (by omega) i1 (by omega)|exact (a2i y x ps (by omega) i1 (by omega)).symm|(have h1:=(a3u (by omega) g0).2;rw[show (ps.getD 0 0).toNat=i1 by omega] at h1;exact h1)|(have h1:=f1 i1 (by omega);omega)|(have h1:=b4L (l:=ps) (i:=1);omega)|(rw[b4L];omega))
def UZ:∀ n,hJ [ki n]
 | 0=>⟨⟨ar lf,λ _ _ _ h=>absurd h.1 (b4q _)⟩,ae⟩
 | n+1=>by
  have ih:=UZ n;exact⟨NK n trivial ⟨ih.1,iM,ae⟩ trivial trivial,ae⟩
def Jr:aL.cS A9 :=
 ⟨ar lf,λ x ps y hp=>(UZ (ps.length+1)).1.2 x ps y (⟨b4m _,hp⟩)⟩
def yQ:aL:=⟨Bm,[.v (.st .sig), .v (.st .expr), .v (.slice (.int .i64)), .v (.st .expr)],λ (gg:aU) (x:J) (ps:List Int) (y:J)=>⟨(some (aB x<=1048576/\aB y<=1048576/\ps.length<=1000),[⟨(.st .expr),z8 gg x ps y⟩,⟨(.int .i64),pD gg x ps y⟩])⟩⟩
def Nw(gg:aU)(x:J)(ps:List Int)(y:J):Nat->az:=bI
abbrev IC(gg:aU)(x:J)(ps:List Int)(y:J):Prop:=(let v0:=aI (fU y x ps);((eC x ps=true/\aB x<=1048576/\aB y<=1048576/\ps.length<=1000)/\(((!(cD gg v0))=true ->
 (zE=(z8 gg x ps y)/\(3:Int)=(pD gg x ps y)))/\((!(cD gg v0))=false ->
 (v0=(z8 gg x ps y)/\(0:Int)=(pD gg x ps y))))))
def HA:aL.cS yQ:=by
 refine⟨ar xu,?_⟩;intro (gg:aU) (x:J) (ps:List Int) (y:J) (hp:aB x<=1048576/\aB y<=1048576/\ps.length<=1000);refine bX [l9,yJ,fh] [A9] [] [] [34] [] [] [4,5,7] ⟨lp,AD,gu,ae⟩ ⟨Jr,ae⟩ trivial trivial xu HV (Nw gg x ps y) (let v0:=zE=(z8 gg x ps y)/\(4:Int)=(pD gg x ps y);let v1:=IC gg x ps y;((((!(eC x ps))=true->(zE=(z8 gg x ps y)/\(2:Int)=(pD gg x ps y)))/\((!(eC x ps))=false->(((Fk x ps)=true->(((!(bq y))=true->v0)/\((!(bq y))=false->v1)))/\((Fk x ps)=(!true)->((false=true->v0)/\(false=false->v1)))))))) ?_;refine⟨λ _=>⟨?_,?_⟩,λ _=>⟨λ _=>⟨λ _=>⟨?_,?_⟩,λ _=>⟨?_,λ _=>⟨?_,?_⟩,λ _=>⟨?_,?_⟩⟩⟩,λ _=>⟨λ _=>⟨?_,?_⟩,λ _=>⟨?_,λ _=>⟨?_,?_⟩,λ _=>⟨?_,?_⟩⟩⟩⟩⟩;all_goals try and_intros
 all_goals try (first|with_reducible rfl|with_reducible assumption)
 all_goals try simp only[J.eta,ag.eta,au.eta,aJ,bm,bH] at *
 all_goals first|with_reducible rfl|with_reducible assumption|exact True.intro|(simp only[b3D,b3C,b3B,b3z] at *;done)|((try simp only[b3Y,J.eta,b3v,b3u,b3B,b3z,b3I,b3Q,ak,O,aY,b3J,b3G,b3T,b3M,b3R] at *);first|exact True.intro|omega|((first|have Q:=a7M (gg:=gg) (x:=x) (y:=y) (ps:=ps) (by with_reducible assumption)|have Q:=a3N (gg:=gg) (x:=x) (y:=y) (ps:=ps) (by with_reducible assumption) (by with_reducible assumption) (by with_reducible assumption));first|exact Q.1|exact Q.2|exact Q.1.symm|exact Q.2.symm)|((first|have Q:=JC (gg:=gg) (x:=x) (y:=y) (ps:=ps) (by with_reducible assumption) (.inl (by with_reducible assumption)) true (by with_reducible assumption)|have Q:=JC (gg:=gg) (x:=x) (y:=y) (ps:=ps) (by with_reducible assumption) (.inl (by with_reducible assumption)) false (by with_reducible assumption)|have Q:=JC (gg:=gg) (x:=x) (y:=y) (ps:=ps) (by with_reducible assumption) (.inr (by with_reducible assumption)) true (by with_reducible assumption)|have Q:=JC (gg:=gg) (x:=x) (y:=y) (ps:=ps) (by with_reducible assumption) (.inr (by with_reducible assumption)) false (by with_reducible assumption));first|exact Q.1|exact Q.2|exact Q.1.symm|exact Q.2.symm))
end
end Go.Proofs.YtmjfpcajohhbeaaGreatDoor

set_option maxRecDepth 4000
set_option maxHeartbeats 4000000
namespace Go.Proofs.YtmjfpcajohhbeaaGreatDoor
noncomputable section
def a0S{α:Type}(F:α->α->Prop×Bool)(z:α)(xs ys:List α):Prop:=∀ i,i<xs.length->i<ys.length->(F (xs.getD i z) (ys.getD i z)).1
def dH{α:Type}(f:α->α->Bool):List α->List α->Bool
 | [],[]=>true
 | x::xs,y::ys=>f x y&&dH f xs ys
 | _,_=>false
def Yt{α:Type}(f:α->α->Bool):∀ xs ys:List α,dH f xs ys=true->xs.length=ys.length
 | [],[],_=>rfl
 | x::xs,y::ys,h=>by
  simp only[dH,b3A] at h;simp[Yt f xs ys h.2]
 | [],_::_,h=>by cases h
 | _::_,[],h=>by cases h
def a6l{α:Type}(f:α->α->Bool)(xs ys:List α)(h:xs.length≠ys.length):dH f xs ys=false:=by
 cases hb:dH f xs ys
 .rfl
 .exact absurd (Yt f xs ys hb) h
def QS{α:Type}(f:α->α->Bool)(z:α):∀ xs ys:List α,dH f xs ys=true↔xs.length=ys.length/\∀ i,i<xs.length->f (xs.getD i z) (ys.getD i z)=true
 | [],[]=>by simp[dH]
 | [],_::_=>by simp[dH]
 | _::_,[]=>by simp[dH]
 | x::xs,y::ys=>by
  simp only[dH,b3A,QS f z xs ys,b3G,Nat.add_right_cancel_iff];constructor
  .rintro⟨h1,h2,h3⟩;refine⟨h2,λ i hi=>?_⟩;cases i with
   | zero=>simpa using h1
   | succ i=>simpa using h3 i (by omega)
  .rintro⟨h1,h2⟩;exact⟨by simpa using h2 0 (by omega),h1,λ i hi=>by simpa using h2 (i+1) (by omega)⟩
def a6k{α:Type}(f:α->α->Bool)(z:α)(xs ys:List α)(k:Nat)(h:xs.length=ys.length)(hk:k<xs.length)(hf:f (xs.getD k z) (ys.getD k z)=false):dH f xs ys=false:=by
 cases hb:dH f xs ys
 .rfl
 .have:=((QS f z xs ys).1 hb).2 k hk;rw[this] at hf;cases hf
def a2y{α:Type}(f:α->α->Bool)(z:α)(xs ys:List α)(k:Nat)(h:xs.length=ys.length)(hk:xs.length<=k)(ha:dH f (xs.take k) (ys.take k)=true):dH f xs ys=true:=by
 rwa [b3U hk,b3U (by omega)] at ha
def a2x{α:Type}(f:α->α->Bool)(z:α)(xs ys:List α)(k:Nat)(h1:k<xs.length)(h2:k<ys.length)(ha:dH f (xs.take k) (ys.take k)=true)(hf:f (xs.getD k z) (ys.getD k z)=true):dH f (xs.take (k+1)) (ys.take (k+1))=true:=by
 rw[QS f z] at ha ⊢;simp only[b3R,b3N] at ha hf ⊢;refine⟨by omega,λ i hi=>?_⟩;rcases b4y i k with hik|hik
 .have:=ha.2 i (by omega);simpa [List.getElem?_take,hik,show i<k+1 by omega] using this
 .have:i=k:=by omega
  subst this;simpa [List.getElem?_take] using hf
def Ys{α:Type}:∀ xs ys:List α,dH bF xs ys=bF xs ys
 | [],[]=>by simp[dH]
 | [],_::_=>by simp[dH,bF]
 | _::_,[]=>by simp[dH,bF]
 | x::xs,y::ys=>by
  rw[dH,Ys xs ys];refine b5w.2 ?_;simp
def YJ(x y:J):bF x y=(decide (x.aq=y.aq)&&decide (x.aN=y.aN)&&bF x.M y.M):=by
 refine b5w.2 ?_;cases x;cases y;simp[and_assoc]
def iW:aL:=⟨nU,[.v (.slice (.st .expr)), .v (.slice (.st .expr)), .c [(.st .expr),(.st .expr)] .bool],λ (xs:List J) (ys:List J) (F:J->J->Prop×Bool)=>⟨(some (a0S F zE xs ys),[⟨.bool,dH (λ x y=>(F x y).2) xs ys⟩])⟩⟩
def B5(xs:List J)(ys:List J)(F:J->J->Prop×Bool):Nat->az:=(cP 0 (.b (Nat) (λ k=>k<=xs.length/\xs.length=ys.length/\dH (λ x y=>(F x y).2) (xs.take k) (ys.take k)=true) (λ k=>xs.length - k) [0,10,11,12,13,14] (λ k=>[(17, .aF ⟨(.int .i64),((k:Int):Int)⟩)])) bI)
def wQ:aL.Good iW:=by
 refine⟨ar nh,?_⟩;intro (xs:List J) (ys:List J) (F:J->J->Prop×Bool) (hp:a0S F zE xs ys);refine aV [] [] [] [] trivial nh wN (B5 xs ys F) (let v0:=(xs.length:Int);let v1 := !(decide (v0=((ys.length:Int))));((O v0->(O ((ys.length:Int))->((v1=true->false=(dH (λ x y=>(F x y).2) xs ys))/\(v1=false->(O v0->((∃ k1:Nat,((k1<=xs.length/\xs.length=ys.length/\dH (λ x y=>(F x y).2) (xs.take k1) (ys.take k1)=true)/\((ys=ys/\(F=F/\(xs=xs/\(v0=v0/\((0:Int)=(k1:Int)/\True)))))/\True)))/\(∀ k1:Nat,let v2:=F (aI (xs.getD k1 zE)) (aI (ys.getD k1 zE));let v3:=(k1:Int);((k1<=xs.length/\xs.length=ys.length/\dH (λ x y=>(F x y).2) (xs.take k1) (ys.take k1)=true)->(((decide (v3<v0))=true->(ak v3 xs.length/\(ak v3 ys.length/\(v2.1/\(((!(v2.2))=true->false=(dH (λ x y=>(F x y).2) xs ys))/\((!(v2.2))=false->(O (v3+(1:Int))/\(∃ k2:Nat,((k2<=xs.length/\xs.length=ys.length/\dH (λ x y=>(F x y).2) (xs.take k2) (ys.take k2)=true)/\(xs.length - k2<xs.length - k1/\((ys=ys/\(F=F/\(xs=xs/\(v0=v0/\((v3+(1:Int))=(k2:Int)/\True)))))/\True)))))))))))/\((decide (v3<v0))=false->true=(dH (λ x y=>(F x y).2) xs ys))))))))))))) ?_;have f0:=a6l (λ x y=>(F x y).2) xs ys;refine λ _ _=>⟨λ _=>?_,λ _ _=>⟨⟨0,?_,⟨rfl,rfl,rfl,rfl,?_,ae⟩,ae⟩,λ k1 _=>have b1q:=hp k1;have b1r:=a6k (λ x y=>(F x y).2) zE xs ys k1;have b1s:=a2y (λ x y=>(F x y).2) zE xs ys k1;have b1t:=a2x (λ x y=>(F x y).2) zE xs ys k1;⟨λ _=>⟨?_,?_,?_,λ _=>?_,λ _=>⟨?_,k1+1,?_,?_,⟨rfl,rfl,rfl,rfl,?_,ae⟩,ae⟩⟩,λ _=>?_⟩⟩⟩;all_goals try and_intros
 all_goals try (first|with_reducible rfl|with_reducible assumption)
 all_goals try simp only[J.eta,ag.eta,au.eta,aJ,bm,bH] at *
 all_goals first|rfl|trivial|(simp only[b3v,b3u,ak,O] at *;first|omega|grind)|(simp[dH];done)|grind
def jQ(n:Nat):J->J->Prop×Bool:=λ (x:J) (y:J)=>((cb x<n),bF x y)
def Sh:Nat×qL:=(mW,⟨[(.st .expr),(.st .expr)], .bool,[]⟩)
def a2C(n:Nat)(xs ys:List J)(h:cb xs<=n):a0S (jQ n) zE xs ys:=λ i hi _=>by
 have:=b9 zE xs i hi;show cb (xs.getD i _)<n;omega
def a2z(n:Nat)(xs ys:List J):dH (λ x y=>(jQ n x y).2) xs ys=bF xs ys:=Ys xs ys
def ly(n:Nat):aL:=⟨mW,[.v (.st .expr), .v (.st .expr)],λ (x:J) (y:J)=>⟨(some (cb x<n),[⟨.bool,bF x y⟩])⟩⟩
def jt:aL:=⟨mW,[.v (.st .expr), .v (.st .expr)],λ (x:J) (y:J)=>⟨(none,[⟨.bool,bF x y⟩])⟩⟩
def Rx(x:J)(y:J):Nat->az:=bI
abbrev yr(n:Nat)(x:J)(y:J):Prop:=(x.M.length<=140737488355328 ->
 (y.M.length<=140737488355328 ->
 (a0S (jQ n) zE x.M y.M/\(dH (λ x y=>((jQ n) x y).2) x.M y.M)=(bF x y))))
def Qi(n:Nat)(hE:bD [ly n,iW]):aL.Good (ly (n+1)):=by
 refine⟨ar la,?_⟩;intro (x:J) (y:J) (hp:cb x<n+1);refine aV [ly n,iW] [] [Sh] [2,3] hE la Kf (Rx x y) ((O x.aq->(O y.aq->(((decide (x.aq=y.aq))=true->(O x.aN->(O y.aN->(((decide (x.aN=y.aN))=true->(yr n x y))/\((decide (x.aN=y.aN))=(!true)->false=(bF x y))))))/\((decide (x.aq=y.aq))=(!true)->((false=true->(yr n x y))/\(false=(!true)->false=(bF x y)))))))) ?_;have f0:=dj x;have f1:=a2C n x.M y.M;have f2:=a2z n x.M y.M;have f3:=YJ x y;refine λ _ _=>⟨λ _ _ _=>⟨λ _ _ _=>⟨?_,?_⟩,λ _=>?_⟩,λ _=>⟨λ _ _ _=>⟨?_,?_⟩,λ _=>?_⟩⟩;all_goals try and_intros
 all_goals first|rfl|trivial|(simp only[decide_eq_true_eq,decide_eq_false_iff_not,ak,O] at *;first|omega|grind)|grind [a0S]
def Sp :∀ n,bD [ly n]
 | 0=>⟨⟨ar la,λ _ _ h=>absurd h (b4q _)⟩,ae⟩
 | n+1=>by
  have ih:=Sp  n;exact⟨Qi n ⟨ih.1,wQ,ae⟩,ae⟩
def jc :aL.Good jt :=
 ⟨ar la,λ x y hp=>(Sp  (cb x+1)).1.2 x y (b4m _)⟩
def mO(n:Nat):aL:=⟨vF,[.r (.st .expr), .r (.st .expr)],λ (x:J) (y:J)=>⟨(some (cb x<n),[⟨.bool,bF x y⟩])⟩⟩
def od:aL:=⟨vF,[.r (.st .expr), .r (.st .expr)],λ (x:J) (y:J)=>⟨(none,[⟨.bool,bF x y⟩])⟩⟩
def TY(x:J)(y:J):Nat->az:=(cP 0 (.b (Nat) (λ k=>k<=x.M.length/\x.M.length=y.M.length/\x.M.take k=y.M.take k/\x.aq=y.aq/\x.aN=y.aN) (λ k=>x.M.length - k) [6,7,8,9,10,11,12,13,14,15,16,17,18,19,20,21,22,23,24,25,26,27,28,29,30,31,32,33,34,35,36,37,38] (λ k=>[(5, .aF ⟨(.int .i64),((k:Int):Int)⟩)])) bI)
abbrev qf(n:Nat)(x:J)(y:J):Prop:=(let v0:=(x.M.length:Int);((∃ k1:Nat,((k1<=x.M.length/\x.M.length=y.M.length/\x.M.take k1=y.M.take k1/\x.aq=y.aq/\x.aN=y.aN)/\((x=x/\(y=y/\((0:Int)=(k1:Int)/\True)))/\True)))/\(∀ k1:Nat,let v1 := !(bF (x.M.getD k1 zE) (y.M.getD k1 zE));let v2:=(k1:Int);((k1<=x.M.length/\x.M.length=y.M.length/\x.M.take k1=y.M.take k1/\x.aq=y.aq/\x.aN=y.aN) ->
 (x.M.length<=140737488355328 ->
 (O v0 ->
 (((decide (v2<v0))=true ->
 (ak v2 x.M.length/\(ak v2 y.M.length/\(x.M.length<=140737488355328 ->
 (y.M.length<=140737488355328 ->
 (cb (x.M.getD k1 zE)<n/\((v1=true ->
 false=(bF x y))/\(v1=false ->
 (O (v2+(1:Int))/\(∃ k2:Nat,((k2<=x.M.length/\x.M.length=y.M.length/\x.M.take k2=y.M.take k2/\x.aq=y.aq/\x.aN=y.aN)/\(x.M.length - k2<x.M.length - k1/\((x=x/\(y=y/\((v2+(1:Int))=(k2:Int)/\True)))/\True)))))))))))))/\((decide (v2<v0))=false ->
 true=(bF x y)))))))))
abbrev AO(n:Nat)(x:J)(y:J):Prop:=(let v0 := !(decide (((x.M.length:Int))=((y.M.length:Int))));(x.M.length<=140737488355328 ->
 (O ((x.M.length:Int)) ->
 (y.M.length<=140737488355328 ->
 (O ((y.M.length:Int)) ->
 ((v0=true ->
 false=(bF x y))/\(v0=false ->
 (qf n x y))))))))
def R9(n:Nat)(hE:bD [mO n]):aL.Good (mO (n+1)):=by
 refine⟨ar mA,?_⟩;intro (x:J) (y:J) (hp:cb x<n+1);refine aV [mO n] [] [] [] hE mA Mf (TY x y) ((((!(decide (x.aq=y.aq)))=false->(((!(decide (x.aN=y.aN)))=false->(O x.aq->(O y.aq->(O x.aN->(O y.aN->(AO n x y))))))/\((!(decide (x.aN=y.aN)))=(!false)->(O x.aq->(O y.aq->(O x.aN->(O y.aN->((true=true->false=(bF x y))/\(true=false->(qf n x y))))))))))/\((!(decide (x.aq=y.aq)))=(!false)->((true=false->(O x.aq->(O y.aq->(AO n x y))))/\(true=(!false)->(O x.aq->(O y.aq->((true=true->false=(bF x y))/\(true=false->(qf n x y)))))))))) ?_;have f0:=dj x;have f3:=YJ x y;refine⟨λ _=>⟨λ _ _ _ _ _ _ _ _ _=>⟨λ _=>?_,λ _=>⟨⟨0,?_,⟨rfl,rfl,?_,ae⟩,ae⟩,λ k1 _=>have a2F:=gi zE x.M y.M k1;have a2G:=dy x.M y.M k1;have a2H:=b9 zE x.M k1;λ _ _=>⟨λ _=>⟨?_,?_,λ _ _=>⟨?_,λ _=>?_,λ _=>⟨?_,k1+1,?_,?_,⟨rfl,rfl,?_,ae⟩,ae⟩⟩⟩,λ _=>?_⟩⟩⟩,λ _ _ _ _ _=>⟨λ _=>?_,λ _=>⟨⟨0,?_,⟨rfl,rfl,?_,ae⟩,ae⟩,λ k1 _=>have a6w:=gi zE x.M y.M k1;have a6x:=dy x.M y.M k1;have a6y:=b9 zE x.M k1;λ _ _=>⟨λ _=>⟨?_,?_,λ _ _=>⟨?_,λ _=>?_,λ _=>⟨?_,k1+1,?_,?_,⟨rfl,rfl,?_,ae⟩,ae⟩⟩⟩,λ _=>?_⟩⟩⟩⟩,λ _=>⟨λ _ _ _ _ _ _ _=>⟨λ _=>?_,λ _=>⟨⟨0,?_,⟨rfl,rfl,?_,ae⟩,ae⟩,λ k1 _=>have a9p:=gi zE x.M y.M k1;have a9q:=dy x.M y.M k1;have a9r:=b9 zE x.M k1;λ _ _=>⟨λ _=>⟨?_,?_,λ _ _=>⟨?_,λ _=>?_,λ _=>⟨?_,k1+1,?_,?_,⟨rfl,rfl,?_,ae⟩,ae⟩⟩⟩,λ _=>?_⟩⟩⟩,λ _ _ _=>⟨λ _=>?_,λ _=>⟨⟨0,?_,⟨rfl,rfl,?_,ae⟩,ae⟩,λ k1 _=>have b1u:=gi zE x.M y.M k1;have b1v:=dy x.M y.M k1;have b1w:=b9 zE x.M k1;λ _ _=>⟨λ _=>⟨?_,?_,λ _ _=>⟨?_,λ _=>?_,λ _=>⟨?_,k1+1,?_,?_,⟨rfl,rfl,?_,ae⟩,ae⟩⟩⟩,λ _=>?_⟩⟩⟩⟩⟩;all_goals try and_intros
 all_goals first|rfl|trivial|(simp only[decide_eq_true_eq,decide_eq_false_iff_not,Bool.not_eq_false',Bool.not_eq_true',decide_not,ak,O] at *;first|omega|grind)|grind [iA,a5m]
def Sq :∀ n,bD [mO n]
 | 0=>⟨⟨ar mA,λ _ _ h=>absurd h (b4q _)⟩,ae⟩
 | n+1=>by
  have ih:=Sq  n;exact⟨R9 n ⟨ih.1,ae⟩,ae⟩
def oI :aL.Good od :=
 ⟨ar mA,λ x y hp=>(Sq  (cb x+1)).1.2 x y (b4m _)⟩
end
end Go.Proofs.YtmjfpcajohhbeaaGreatDoor

namespace Go.Proofs
open Go.Shelf
def Tryz.a0m:Go.Shelf.Ren:=⟨λ|145=>144|220=>148|219=>153|217=>160|225=>161|224=>162|267=>163|266=>169|314=>170|n=>n,λ|9=>9|4=>4|59=>175|3=>3|5=>5|46=>203|146=>214|51=>213|n=>n,λ|1=>0|n=>n⟩
def Tryz.a7r:Go.Proofs.Lays.n145 Tryz.prog Tryz.a0m:={
 mixed:=by kernel_rfl
 f145:=Tryz.func144.trans (congrArg some (by kernel_rfl))
 f217:=Tryz.func160.trans (congrArg some (by kernel_rfl))
 f219:=Tryz.func153.trans (congrArg some (by kernel_rfl))
 f220:=Tryz.func148.trans (congrArg some (by kernel_rfl))
 f224:=Tryz.func162.trans (congrArg some (by kernel_rfl))
 f225:=Tryz.func161.trans (congrArg some (by kernel_rfl))
 f266:=Tryz.func169.trans (congrArg some (by kernel_rfl))
 f267:=Tryz.func163.trans (congrArg some (by kernel_rfl))
 f314:=Tryz.func170.trans (congrArg some (by kernel_rfl))
 t3:=Tryz.underlying3
 a3:=Tryz.isAgg3
 z3:=Tryz.sizeOf3
 v3:=Tryz.zeroValue3
 t4:=Tryz.underlying4
 a4:=Tryz.isAgg4
 z4:=Tryz.sizeOf4
 v4:=Tryz.zeroValue4
 t5:=Tryz.underlying5
 a5:=Tryz.isAgg5
 z5:=Tryz.sizeOf5
 v5:=Tryz.zeroValue5
 t9:=Tryz.underlying9
 a9:=Tryz.isAgg9
 z9:=Tryz.sizeOf9
 v9:=Tryz.zeroValue9
 t46:=Tryz.underlying203
 a46:=Tryz.isAgg203
 z46:=Tryz.sizeOf203
 v46:=Tryz.zeroValue203
 t51:=Tryz.underlying213
 a51:=Tryz.isAgg213
 z51:=Tryz.sizeOf213
 v51:=Tryz.zeroValue213
 t59:=Tryz.underlying175
 a59:=Tryz.isAgg175
 z59:=Tryz.sizeOf175
 v59:=Tryz.zeroValue175
 t146:=Tryz.underlying214
 a146:=Tryz.isAgg214
 z146:=Tryz.sizeOf214
 v146:=Tryz.zeroValue214
 g1:=by kernel_rfl }
open Go.RowKit Go.Lib in
def Tryz.strings_Cut(s sep:ByteArray)(m:Int)(w:World)(hs:s.size<4294967281)(hm:w.cell? ⟨0,0,none⟩=some (.int .i64 m)) :
  Calls Tryz.prog 144 #[.string s, .string sep] w λ e w'=>e = .returned (.tuple #[.string ⟨(Lib.cut s.data.toList sep.data.toList).1.toArray⟩, .string ⟨(Lib.cut s.data.toList sep.data.toList).2.1.toArray⟩, .bool (Lib.cut s.data.toList sep.data.toList).2.2])/\∃ n,w'=w.drewN n:=Any.strings_Cut Tryz.a7r s sep m w hs hm
end Go.Proofs

set_option maxRecDepth 4000
set_option maxHeartbeats 4000000
namespace Go.Proofs.YtmjfpcajohhbeaaGreatDoor
noncomputable section
open Go.RowKit Go.Proofs
def pd(s p:List UInt8):List UInt8:=(Lib.cut s p).1
def ky(s p:List UInt8):List UInt8:=(Lib.cut s p).2.1
def s9(s p:List UInt8):Bool:=(Lib.cut s p).2.2
def C3(s p:List UInt8):List UInt8:=bif s9 s p then pd s p else []
def a1R(s p:List UInt8)(i:Nat):Lib.occAt s p i=true↔(s.take (i+p.length)).drop i=p:=by
 unfold Lib.occAt;rw[List.isPrefixOf_iff_prefix,List.prefix_iff_eq_take,List.drop_take,Nat.add_sub_cancel_left];exact eq_comm
def a6H(s p:List UInt8)(i:Nat)(h:Lib.NoOcc s p i)(hi:i+p.length<=s.length)(e:(s.take (i+p.length)).drop i=p):C3 s p=s.take i/\ky s p=s.drop (i+p.length)/\s9 s p=true:=by
 have hx:=Lib.index_hit h (by omega) ((a1R s p i).2 e);have hc:Lib.cut s p=(s.take i,s.drop (i+p.length),true):=by
  unfold Lib.cut;rw[hx,if_pos (by omega),Int.toNat_natCast]
 simp[C3,ky,s9,pd,hc]
def a8u(s p:List UInt8)(i:Nat)(h:Lib.NoOcc s p i)(e:¬ (s.take (i+p.length)).drop i=p):Lib.NoOcc s p (i+1) :=
 h.succ (by
  cases q:Lib.occAt s p i with
  | false=>rfl
  | true=>exact absurd ((a1R s p i).1 q) e)
def a6G(s p:List UInt8)(i:Nat)(h:Lib.NoOcc s p i)(hp:1<=p.length)(hi:s.length<i+p.length):C3 s p=[]/\ky s p=[]/\s9 s p=false:=by
 have hx:=Lib.index_past (λ e=>by rw[e] at hp;simp at hp) h hi;have hc:Lib.cut s p=(s,[],false):=by
  unfold Lib.cut;rw[hx];rfl
 simp[C3,ky,s9,pd,hc]
def natAdd(a b:Nat):((a:Int)+(b:Int)).toNat=a+b:=by omega
def YH(s p:List UInt8):(pd s p).length<=s.length/\(ky s p).length<=s.length:=by
 unfold pd ky Lib.cut;split
 .simp only[b3R,b4L];omega
 .simp
def IM:aL:=⟨Jg,[.v .str, .v .str],λ (s:List UInt8) (p:List UInt8)=>⟨(some (s.length<=1048576/\1<=p.length/\p.length<=100),[⟨.str,C3 s p⟩,⟨.str,ky s p⟩,⟨.bool,s9 s p⟩])⟩⟩
def WD(s:List UInt8)(p:List UInt8):Nat->az:=(cP 0 (.b (Nat) (λ i=>Lib.NoOcc s p i/\i<=s.length) (λ i=>s.length - i) [] (λ i=>[(7, .aF ⟨(.int .i64),((i:Int):Int)⟩)])) bI)
def Pk:aL.Good IM:=by
 refine⟨ar FQ,?_⟩;intro (s:List UInt8) (p:List UInt8) (hp:s.length<=1048576/\1<=p.length/\p.length<=100);refine aV [] [] [] [] trivial FQ OL (WD s p) (let v0:=(p.length:Int);let v1:=(s.length:Int);(((∃ i1:Nat,((Lib.NoOcc s p i1/\i1<=s.length)/\((s=s/\(p=p/\((0:Int)=(i1:Int)/\True)))/\True)))/\(∀ i1:Nat,let v2:=(i1:Int)+v0;let v3:=decide (((s.take (Int.toNat v2)).drop i1)=p);((Lib.NoOcc s p i1/\i1<=s.length)->(O v0->(O v2/\(O v1->(((decide (v2<=v1))=true->(O v0->(O v2/\(cB (i1:Int) v2 s.length/\((v3=true->(cB (0:Int) (i1:Int) s.length/\(O v2/\(cB v2 v1 s.length/\(O v0->(((s.take i1).drop 0)=(C3 s p)/\(((s.take (Int.toNat v1)).drop (Int.toNat v2))=(ky s p)/\true=(s9 s p))))))))/\(v3=false->(O ((i1:Int)+(1:Int))/\(∃ i2:Nat,((Lib.NoOcc s p i2/\i2<=s.length)/\(s.length - i2<s.length - i1/\((s=s/\(p=p/\(((i1:Int)+(1:Int))=(i2:Int)/\True)))/\True)))))))))))/\((decide (v2<=v1))=false->([]=(C3 s p)/\([]=(ky s p)/\false=(s9 s p))))))))))))) ?_;have f0:=Lib.NoOcc.zero s p;refine⟨⟨0,?_,⟨rfl,rfl,?_,ae⟩,ae⟩,λ i1 _=>have CO:=a6H s p i1;have pK:=a8u s p i1;have vX:=a6G s p i1;λ _=>⟨?_,λ _=>⟨λ _ _=>⟨?_,?_,λ _=>⟨?_,?_,?_,λ _=>⟨?_,?_,?_⟩⟩,λ _=>⟨?_,i1+1,?_,?_,⟨rfl,rfl,?_,ae⟩,ae⟩⟩,λ _=>⟨?_,?_,?_⟩⟩⟩⟩;all_goals try and_intros
 all_goals first|rfl|trivial|omega|(simp only[b3v,b3u,ak,O,cB,natAdd,b3O,b5N] at *;first|omega|grind)|grind
def IN:aL:=⟨Ji,[.v .str, .v .str],λ (s:List UInt8) (p:List UInt8)=>⟨(some (s.length<=1048576),[⟨.str,pd s p⟩,⟨.str,ky s p⟩,⟨.bool,s9 s p⟩])⟩⟩
def Pn:aL.Good IN:=by
 refine⟨ar Tl rfl (by decide),?_⟩;intro (s:List UInt8) (p:List UInt8) hp w S cA hS ha;match cA,ha with
 | [v,u],ha =>
  obtain⟨⟨x,hv,hx,uQ⟩,⟨y,hu,hy,hyl⟩,_⟩:=ha;simp only[b3F,b3L] at hv hu;subst hv hu;have hp2:s.length<=1048576:=hp;obtain⟨_,m,hm⟩:=hS.2 0 (b4e.2 rfl);have kc:x.size<4294967281:=by
   have:x.data.toList.length=s.length:=congrArg List.length hx;rw[b7z,this];omega
  have hl:=YH s p;have ex:x.data.toList=s:=hx;have ey:y.data.toList=p:=hy;refine (Tryz.strings_Cut x y m w kc hm).mono ?_;rw[ex,ey];rintro e w' ⟨rfl,n,rfl⟩;refine⟨_,S,_,rfl,rfl,⟨rfl,rfl,rfl,b4h _,λ b _ _=>rfl⟩,λ b _=>b5z,λ b h=>hS.1 b h,[_,_,_],rfl,?_,?_,rfl,ae⟩
  .refine⟨_,rfl,rfl,?_⟩;have:(⟨(Lib.cut s p).1.toArray⟩:ByteArray).size=(pd s p).length:=by rw[b7z];rfl
   rw[this];omega
  .refine⟨_,rfl,rfl,?_⟩;have:(⟨(Lib.cut s p).2.1.toArray⟩:ByteArray).size=(ky s p).length:=by rw[b7z];rfl
   rw[this];omega
end
end Go.Proofs.YtmjfpcajohhbeaaGreatDoor

set_option maxRecDepth 4000
set_option maxHeartbeats 4000000
namespace Go.Proofs.YtmjfpcajohhbeaaGreatDoor
open Go.RowKit Go.Proofs
def Vi{B b:Nat}{p:Value}{bs:List Value}{w:World}(h:Lib.BuilderAt 196 5 B b p bs w)(o:Obj):Lib.BuilderAt 196 5 B b p bs (w.alloc o):=by
 obtain⟨hB,v,hb,nR,eQ⟩:=h;exact⟨hB,v,by rw[Lib.alloc_old w o b (bB hb)];exact hb,nR.alloc _,eQ⟩
abbrev wL(B b:Nat)(l:List UInt8)(w:World):Prop:=Lib.IsBuilder 196 5 B b (Lib.byteCells l) w
def l7{B b:Nat}{l:List UInt8}{w:World}(h:wL B b l w)(o:Obj):wL B b l (w.alloc o):=h.imp (λ h=>Vi h o) (λ h=>Vi h o)
def PN{B b:Nat}{l:List UInt8}{w:World}(h:wL B b l w):b<w.heap.size:=by
 rcases h with h|h<;>exact h.lt
def pe{B:Nat}{w:World}(h:B<=w.heap.size)(o:Obj):B<=(w.alloc o).heap.size:=by simp;omega
def CX{b:Nat}{w w1:World}{cs:Array Value}(h:jg b (w.alloc (.cells cs 38)) w1)(hb:b<w.heap.size)(j:Nat){v:Value}(hj:cs[j]?=some v):w1.cell? ⟨w.heap.size,j,none⟩=some v:=by
 have e:=h w.heap.size cs 38 (0,0) (b6C w _) (by decide) (by omega);rw[b6b (a:=⟨w.heap.size,j,none⟩) e,b6i (b6C w _)];exact hj
structure Wr(B b:Nat)(l t:List UInt8)(w w':World):Prop where
 Rp:wL B b (l++t) w'
 nm:Below B w w'
 aS:jg b w w'
def Wr.trans{B b:Nat}{l t u:List UInt8}{w w1 w2:World}(h:Wr B b l t w w1)(k:Wr B b (l++t) u w1 w2):Wr B b l (t++u) w w2 :=
 ⟨by rw[<-b4x];exact k.Rp,h.nm.trans k.nm,h.aS.trans k.aS⟩
def Wr.alloc{B b:Nat}{l t:List UInt8}{w w1:World}{o:Obj}(h:Wr B b l t (w.alloc o) w1)(iU:B<=w.heap.size):Wr B b l t w w1 :=
 ⟨h.Rp,((b6W B w).alloc iU _).trans h.nm,((jg.refl b w).alloc _).trans h.aS⟩
def ws(B b:Nat)(l:List UInt8)(s:ByteArray)(w:World)(h:wL B b l w)(hlen:l.length+s.data.toList.length<=140737488355328)(iU:B<=w.heap.size) :
  Calls Tryz.prog 167 #[.pointer (some ⟨b,0,none⟩), .string s] w λ e w'=>e = .returned (.tuple #[.int .i64 s.size, .nilIface])/\Wr B b l s.data.toList w w':=by
 refine (writeString B b _ s w h (by simpa [Lib.byteCells_length] using hlen) iU).mono ?_;rintro e w' ⟨rfl,h1,h2,h3⟩;refine⟨rfl,?_,h2,h3⟩;have:Lib.byteCells l++Lib.strCells s=Lib.byteCells (l++s.data.toList):=by simp[Lib.byteCells,Lib.strCells]
 rw[wL,<-this];exact h1
abbrev Kd(B b:Nat)(v:Value)(l t:List UInt8)(w:World):Prop :=
 Calls Tryz.prog 156 #[.pointer (some ⟨b,0,none⟩),v] w λ e w'=>e = .returned (.tuple #[])/\Wr B b l t w w'
set_option maxRecDepth 100000 in
def Re(i:Nat)(hi:i<100)(w:World) :
  Calls Tryz.prog 173 #[.int .i64 i, .int .i64 10] w λ e w'=>e = .returned (.string ⟨(Lib.decDigits i).toArray⟩)/\w'=w:=by
 go_enter Tryz.func173,Tryz.ntmps173;go_wp2_with (go_at_call 175;refine (Tryz.internal_strconv_FormatInt_10_small i hi _).mono ?_);rintro e w1 ⟨he,hw⟩;subst he hw;go_wp2;go_ret;exact⟨rfl,rfl⟩
set_option maxRecDepth 100000 in
def H8(i:Nat)(hi:i<100)(w:World) :
  Calls Tryz.prog 168 #[.int .i64 i] w λ e w'=>e = .returned (.string ⟨(Lib.decDigits i).toArray⟩)/\w'=w:=by
 go_enter Tryz.func168,Tryz.ntmps168;go_wp2_with (go_at_call 173;refine (Re i hi _).mono ?_);rintro e w1 ⟨he,hw⟩;subst he hw;go_wp2;go_ret;exact⟨rfl,rfl⟩
set_option maxRecDepth 100000 in
def we1(B b:Nat)(l:List UInt8)(n:Int)(sl:Value)(w:World)(h:wL B b l w)(hlen:l.length+1<=140737488355328)(iU:B<=w.heap.size) :
  Kd B b (.agg #[.int .i64 1, .int .i64 n,sl]) l [48] w:=by
 go_enter Tryz.func156,Tryz.ntmps156;go_wp2_with (go_at_call 167;refine (ws B b l _ _ (l7 h _) (by exact hlen) (pe iU _)).mono ?_);intro e w1 he h1;subst he;go_wp2;go_end0;exact⟨rfl,h1.alloc iU⟩
set_option maxRecDepth 100000 in
def we2(B b:Nat)(l:List UInt8)(n:Int)(sl:Value)(w:World)(h:wL B b l w)(hlen:l.length+1<=140737488355328)(iU:B<=w.heap.size) :
  Kd B b (.agg #[.int .i64 2, .int .i64 n,sl]) l [49] w:=by
 go_enter Tryz.func156,Tryz.ntmps156;go_wp2_with (go_at_call 167;refine (ws B b l _ _ (l7 h _) (by exact hlen) (pe iU _)).mono ?_);intro e w1 he h1;subst he;go_wp2;go_end0;exact⟨rfl,h1.alloc iU⟩
set_option maxRecDepth 100000 in
def we3(B b:Nat)(l:List UInt8)(i:Nat)(hi:i<100)(sl:Value)(w:World)(h:wL B b l w)(hlen:l.length+((Lib.decDigits i).length+1)<=140737488355328)(iU:B<=w.heap.size) :
  Kd B b (.agg #[.int .i64 3, .int .i64 i,sl]) l (116::Lib.decDigits i) w:=by
 go_enter Tryz.func156,Tryz.ntmps156;go_wp2_with (go_at_call 168;refine (H8 i hi _).mono ?_);rintro e w1 ⟨he,hw⟩;subst he hw;go_wp2_with (go_at_call 167;refine (ws B b l _ _ (l7 h _) (by simp;omega) (pe iU _)).mono ?_);rintro e w1 ⟨he,h1⟩;subst he;go_wp2;go_end0;exact⟨rfl,by simpa using h1.alloc iU⟩
set_option maxRecDepth 100000 in
def we4(B b:Nat)(l:List UInt8)(i:Nat)(hi:i<100)(sl:Value)(w:World)(h:wL B b l w)(hlen:l.length+((Lib.decDigits i).length+1)<=140737488355328)(iU:B<=w.heap.size) :
  Kd B b (.agg #[.int .i64 4, .int .i64 i,sl]) l (97::Lib.decDigits i) w:=by
 go_enter Tryz.func156,Tryz.ntmps156;go_wp2_with (go_at_call 168;refine (H8 i hi _).mono ?_);rintro e w1 ⟨he,hw⟩;subst he hw;go_wp2_with (go_at_call 167;refine (ws B b l _ _ (l7 h _) (by simp;omega) (pe iU _)).mono ?_);rintro e w1 ⟨he,h1⟩;subst he;go_wp2;go_end0;exact⟨rfl,by simpa using h1.alloc iU⟩
set_option maxRecDepth 100000 in
def we5(B b:Nat)(l t:List UInt8)(n:Int)(kb ko cap:Nat)(c0 c1 c2:Value)(w:World)(h:wL B b l w)(hlen:l.length+(t.length+1)<=140737488355328)(iU:B<=w.heap.size)
  (tf:∀ w1,Below B w w1->∀ j v,[c0,c1,c2][j]?=some v->w1.cell? ⟨kb,ko+0+j,none⟩=some v)
  (ih0:∀ w1 l1,Below B w w1->wL B b l1 w1->B<=w1.heap.size->l1.length+t.length<=140737488355328->Kd B b (.agg #[c0,c1,c2]) l1 t w1)
  : Kd B b (.agg #[.int .i64 5, .int .i64 n, .slice (some ⟨kb,ko,none⟩) 1 cap]) l (126::t) w:=by
 go_enter Tryz.func156,Tryz.ntmps156;go_wp2_with (go_at_call 167;refine (ws B b l _ _ (l7 h _) (by simp;omega) (pe iU _)).mono ?_);intro e w1 he h1;subst he;have c2':=CX h1.aS (PN h) 2 rfl;have q00:w1.cell? ⟨kb,ko,none⟩=some c0:=by simpa [Nat.add_assoc] using tf w1 (h1.alloc iU).nm 0 _ rfl
 have q01:w1.cell? ⟨kb,ko+1,none⟩=some c1:=by simpa [Nat.add_assoc] using tf w1 (h1.alloc iU).nm 1 _ rfl
 have q02:w1.cell? ⟨kb,ko+2,none⟩=some c2:=by simpa [Nat.add_assoc] using tf w1 (h1.alloc iU).nm 2 _ rfl
 go_wp2_with (go_at_call 156;refine (ih0 w1 _ (h1.alloc iU).nm h1.Rp (by have:=(h1.alloc iU).nm.size;omega) (by simp;omega)).mono ?_);rintro e w2 ⟨he,h2⟩;subst he;go_wp2;go_end0;exact⟨rfl,((h1.alloc iU).trans h2)⟩
set_option maxRecDepth 100000 in
def we8(B b:Nat)(l t:List UInt8)(n:Int)(kb ko cap:Nat)(c0 c1 c2:Value)(w:World)(h:wL B b l w)(hlen:l.length+(t.length+1)<=140737488355328)(iU:B<=w.heap.size)
  (tf:∀ w1,Below B w w1->∀ j v,[c0,c1,c2][j]?=some v->w1.cell? ⟨kb,ko+0+j,none⟩=some v)
  (ih0:∀ w1 l1,Below B w w1->wL B b l1 w1->B<=w1.heap.size->l1.length+t.length<=140737488355328->Kd B b (.agg #[c0,c1,c2]) l1 t w1)
  : Kd B b (.agg #[.int .i64 8, .int .i64 n, .slice (some ⟨kb,ko,none⟩) 1 cap]) l (t++[42]) w:=by
 have Pv:Below B w (w.alloc (.cells #[.int .i64 8, .int .i64 n, .slice (some ⟨kb,ko,none⟩) 1 cap] 38)):=(Below.refl B w).alloc iU _;have q00:(w.alloc (.cells #[.int .i64 8, .int .i64 n, .slice (some ⟨kb,ko,none⟩) 1 cap] 38)).cell? ⟨kb,ko,none⟩=some c0:=by simpa [Nat.add_assoc] using tf (w.alloc (.cells #[.int .i64 8, .int .i64 n, .slice (some ⟨kb,ko,none⟩) 1 cap] 38)) Pv 0 _ rfl
 have q01:(w.alloc (.cells #[.int .i64 8, .int .i64 n, .slice (some ⟨kb,ko,none⟩) 1 cap] 38)).cell? ⟨kb,ko+1,none⟩=some c1:=by simpa [Nat.add_assoc] using tf (w.alloc (.cells #[.int .i64 8, .int .i64 n, .slice (some ⟨kb,ko,none⟩) 1 cap] 38)) Pv 1 _ rfl
 have q02:(w.alloc (.cells #[.int .i64 8, .int .i64 n, .slice (some ⟨kb,ko,none⟩) 1 cap] 38)).cell? ⟨kb,ko+2,none⟩=some c2:=by simpa [Nat.add_assoc] using tf (w.alloc (.cells #[.int .i64 8, .int .i64 n, .slice (some ⟨kb,ko,none⟩) 1 cap] 38)) Pv 2 _ rfl
 go_enter Tryz.func156,Tryz.ntmps156;go_wp2_with (go_at_call 156;refine (ih0 _ _ Pv (l7 h _) (pe iU _) (by omega)).mono ?_);rintro e w1 ⟨he,h1⟩;subst he;go_wp2_with (go_at_call 167;refine (ws B b _ _ _ h1.Rp (by simp;omega) (by have:=(h1.alloc iU).nm.size;omega)).mono ?_);intro e w2 he h2;subst he;go_wp2;go_end0;exact⟨rfl,((h1.alloc iU).trans h2)⟩
set_option maxRecDepth 100000 in
def we6(B b:Nat)(l t u:List UInt8)(n:Int)(kb ko cap:Nat)(c0 c1 c2 d0 d1 d2:Value)(w:World)(h:wL B b l w)(hlen:l.length+(t.length+u.length+5)<=140737488355328)(iU:B<=w.heap.size)
  (tf:∀ w1,Below B w w1->∀ j v,[c0,c1,c2][j]?=some v->w1.cell? ⟨kb,ko+0+j,none⟩=some v)
  (ih0:∀ w1 l1,Below B w w1->wL B b l1 w1->B<=w1.heap.size->l1.length+t.length<=140737488355328->Kd B b (.agg #[c0,c1,c2]) l1 t w1)
  (Rl:∀ w1,Below B w w1->∀ j v,[d0,d1,d2][j]?=some v->w1.cell? ⟨kb,ko+3+j,none⟩=some v)
  (ih1:∀ w1 l1,Below B w w1->wL B b l1 w1->B<=w1.heap.size->l1.length+u.length<=140737488355328->Kd B b (.agg #[d0,d1,d2]) l1 u w1)
  : Kd B b (.agg #[.int .i64 6, .int .i64 n, .slice (some ⟨kb,ko,none⟩) 2 cap]) l ([40]++(t++([32,43,32]++(u++[41])))) w:=by
 go_enter Tryz.func156,Tryz.ntmps156;go_wp2_with (go_at_call 167;refine (ws B b l _ _ (l7 h _) (by simp;omega) (pe iU _)).mono ?_);intro e w1 he h1;subst he;have e1:=CX h1.aS (PN h) 2 rfl;have q00:w1.cell? ⟨kb,ko,none⟩=some c0:=by simpa [Nat.add_assoc] using tf w1 (h1.alloc iU).nm 0 _ rfl
 have q01:w1.cell? ⟨kb,ko+1,none⟩=some c1:=by simpa [Nat.add_assoc] using tf w1 (h1.alloc iU).nm 1 _ rfl
 have q02:w1.cell? ⟨kb,ko+2,none⟩=some c2:=by simpa [Nat.add_assoc] using tf w1 (h1.alloc iU).nm 2 _ rfl
 have g1:=h1.alloc iU;have s1:B<=w1.heap.size:=by have:=g1.nm.size;omega
 go_wp2_with (go_at_call 156;refine (ih0 w1 _ g1.nm h1.Rp s1 (by simp;omega)).mono ?_);rintro e w2 ⟨he,h2⟩;subst he;have s2:B<=w2.heap.size:=by have:=h2.nm.size;omega
 go_wp2_with (go_at_call 167;refine (ws B b _ _ _ h2.Rp (by simp;omega) s2).mono ?_);intro e w3 he h3;subst he;have e3:=CX (h1.aS.trans (h2.aS.trans h3.aS)) (PN h) 2 rfl;have g3:=g1.nm.trans (h2.nm.trans h3.nm);have q10:w3.cell? ⟨kb,ko+3,none⟩=some d0:=by simpa [Nat.add_assoc] using Rl w3 g3 0 _ rfl
 have q11:w3.cell? ⟨kb,ko+4,none⟩=some d1:=by simpa [Nat.add_assoc] using Rl w3 g3 1 _ rfl
 have q12:w3.cell? ⟨kb,ko+5,none⟩=some d2:=by simpa [Nat.add_assoc] using Rl w3 g3 2 _ rfl
 have s3:B<=w3.heap.size:=by have:=h3.nm.size;omega
 go_wp2_with (go_at_call 156;refine (ih1 w3 _ g3 h3.Rp s3 (by simp;omega)).mono ?_);rintro e w4 ⟨he,h4⟩;subst he;have s4:B<=w4.heap.size:=by have:=h4.nm.size;omega
 go_wp2_with (go_at_call 167;refine (ws B b _ _ _ h4.Rp (by simp;omega) s4).mono ?_);intro e w5 he h5;subst he;go_wp2;go_end0;have j2:Wr B b (l++[40]) t w1 w2:=by simpa using h2
 have j3:Wr B b (l++[40]++t) [32,43,32] w2 w3:=by simpa using h3
 have j4:Wr B b (l++[40]++t++[32,43,32]) u w3 w4:=by simpa using h4
 have j5:Wr B b (l++[40]++t++[32,43,32]++u) [41] w4 w5:=by simpa using h5
 exact⟨rfl,g1.trans (j2.trans (j3.trans (j4.trans j5)))⟩
set_option maxRecDepth 100000 in
def we7(B b:Nat)(l t u:List UInt8)(n:Int)(kb ko cap:Nat)(c0 c1 c2 d0 d1 d2:Value)(w:World)(h:wL B b l w)(hlen:l.length+(t.length+u.length+3)<=140737488355328)(iU:B<=w.heap.size)
  (tf:∀ w1,Below B w w1->∀ j v,[c0,c1,c2][j]?=some v->w1.cell? ⟨kb,ko+0+j,none⟩=some v)
  (ih0:∀ w1 l1,Below B w w1->wL B b l1 w1->B<=w1.heap.size->l1.length+t.length<=140737488355328->Kd B b (.agg #[c0,c1,c2]) l1 t w1)
  (Rl:∀ w1,Below B w w1->∀ j v,[d0,d1,d2][j]?=some v->w1.cell? ⟨kb,ko+3+j,none⟩=some v)
  (ih1:∀ w1 l1,Below B w w1->wL B b l1 w1->B<=w1.heap.size->l1.length+u.length<=140737488355328->Kd B b (.agg #[d0,d1,d2]) l1 u w1)
  : Kd B b (.agg #[.int .i64 7, .int .i64 n, .slice (some ⟨kb,ko,none⟩) 2 cap]) l ([40]++(t++([32]++(u++[41])))) w:=by
 go_enter Tryz.func156,Tryz.ntmps156;go_wp2_with (go_at_call 167;refine (ws B b l _ _ (l7 h _) (by simp;omega) (pe iU _)).mono ?_);intro e w1 he h1;subst he;have e1:=CX h1.aS (PN h) 2 rfl;have q00:w1.cell? ⟨kb,ko,none⟩=some c0:=by simpa [Nat.add_assoc] using tf w1 (h1.alloc iU).nm 0 _ rfl
 have q01:w1.cell? ⟨kb,ko+1,none⟩=some c1:=by simpa [Nat.add_assoc] using tf w1 (h1.alloc iU).nm 1 _ rfl
 have q02:w1.cell? ⟨kb,ko+2,none⟩=some c2:=by simpa [Nat.add_assoc] using tf w1 (h1.alloc iU).nm 2 _ rfl
 have g1:=h1.alloc iU;have s1:B<=w1.heap.size:=by have:=g1.nm.size;omega
 go_wp2_with (go_at_call 156;refine (ih0 w1 _ g1.nm h1.Rp s1 (by simp;omega)).mono ?_);rintro e w2 ⟨he,h2⟩;subst he;have s2:B<=w2.heap.size:=by have:=h2.nm.size;omega
 go_wp2_with (go_at_call 167;refine (ws B b _ _ _ h2.Rp (by simp;omega) s2).mono ?_);intro e w3 he h3;subst he;have e3:=CX (h1.aS.trans (h2.aS.trans h3.aS)) (PN h) 2 rfl;have g3:=g1.nm.trans (h2.nm.trans h3.nm);have q10:w3.cell? ⟨kb,ko+3,none⟩=some d0:=by simpa [Nat.add_assoc] using Rl w3 g3 0 _ rfl
 have q11:w3.cell? ⟨kb,ko+4,none⟩=some d1:=by simpa [Nat.add_assoc] using Rl w3 g3 1 _ rfl
 have q12:w3.cell? ⟨kb,ko+5,none⟩=some d2:=by simpa [Nat.add_assoc] using Rl w3 g3 2 _ rfl
 have s3:B<=w3.heap.size:=by have:=h3.nm.size;omega
 go_wp2_with (go_at_call 156;refine (ih1 w3 _ g3 h3.Rp s3 (by simp;omega)).mono ?_);rintro e w4 ⟨he,h4⟩;subst he;have s4:B<=w4.heap.size:=by have:=h4.nm.size;omega
 go_wp2_with (go_at_call 167;refine (ws B b _ _ _ h4.Rp (by simp;omega) s4).mono ?_);intro e w5 he h5;subst he;go_wp2;go_end0;have j2:Wr B b (l++[40]) t w1 w2:=by simpa using h2
 have j3:Wr B b (l++[40]++t) [32] w2 w3:=by simpa using h3
 have j4:Wr B b (l++[40]++t++[32]) u w3 w4:=by simpa using h4
 have j5:Wr B b (l++[40]++t++[32]++u) [41] w4 w5:=by simpa using h5
 exact⟨rfl,g1.trans (j2.trans (j3.trans (j4.trans j5)))⟩
end Go.Proofs.YtmjfpcajohhbeaaGreatDoor

set_option maxRecDepth 4000
set_option maxHeartbeats 4000000
namespace Go.Proofs.YtmjfpcajohhbeaaGreatDoor
noncomputable section
open Go.RowKit Go.Proofs
def zS(n:Int):List UInt8:=Lib.decDigits n.toNat
def Yn(k n:Int)(p q:List UInt8):List UInt8:=if k=1 then [48] else if k=2 then [49] else if k=3 then 116::zS n else if k=4 then 97::zS n else if k=5 then 126::p
 else if k=6 then [40]++(p++([32,43,32]++(q++[41]))) else if k=7 then [40]++(p++([32]++(q++[41]))) else p++[42]
mutual
def bV:J->List UInt8
 | ⟨k,n,ks⟩=>Yn k n ((Tg ks).getD 0 []) ((Tg ks).getD 1 [])
def Tg:List J->List (List UInt8)
 | []=>[]
 | k::ks=>bV k::Tg ks
end
def oX(z:J):∀ (xs:List J) (i:Nat),i<xs.length->(Tg xs).getD i []=bV (xs.getD i z)
 | [],i,h=>by simp at h
 | x::xs,0,h=>by simp[Tg]
 | x::xs,i+1,h=>by
  have:=oX z xs i (by simpa using h);simpa [Tg] using this
def a9f(x:J):bV x=Yn x.aq x.aN ((Tg x.M).getD 0 []) ((Tg x.M).getD 1 []):=by
 cases x;rfl
def ec(x:J):Bool:=bg 9 9 x
def AB(x:J)(i:Nat):Prop:=ec (x.M.getD i zE)=true/\cb (x.M.getD i zE)<cb x
def yf(x:J)(h:ec x=true)(i:Nat)(hi:i<x.M.length):AB x i:=by
 unfold AB;simp only[ec] at h ⊢;rw[il] at h;simp only[Bool.and_eq_true] at h;refine⟨Yv _ _ _ _ hi h.2,?_⟩;have:=b9 (zE:J) x.M i hi;have:=dj x;omega
def gq(x:J)(h:ec x=true):((x.aq=3\/x.aq=4)->0<=x.aN/\x.aN<=9) /\
  ((x.aq=5\/x.aq=8)->x.M.length=1/\AB x 0)/\((x.aq=6\/x.aq=7)->x.M.length=2/\AB x 0/\AB x 1) /\
  (x.aq=1\/x.aq=2\/x.aq=3\/x.aq=4\/x.aq=5\/x.aq=6\/x.aq=7\/x.aq=8):=by
 have hk:=yf x h;simp only[ec] at h;rw[il,xd] at h;simp only[b3A,b3v] at h;obtain⟨⟨⟨h1,h2⟩,_⟩,_⟩:=h;refine⟨λ e=>?_,λ e=>?_,λ e=>?_,?_⟩
 .rcases e with e|e<;>simpa [Jm,e] using h2
 .have h1':x.M.length=1:=by
   rcases e with e|e<;>rw[e] at h1<;>simp[cV] at h1<;>omega
  exact⟨h1',hk 0 (by omega)⟩
 .have h1':x.M.length=2:=by
   rcases e with e|e<;>rw[e] at h1<;>simp[cV] at h1<;>omega
  exact⟨h1',hk 0 (by omega),hk 1 (by omega)⟩
 .unfold cV at h1;split at h1
  .omega
  .split at h1
   .omega
   .split at h1<;>omega
def eI(x:J)(h:ec x=true):(x.aq=1->bV x=[48])/\(x.aq=2->bV x=[49])/\(x.aq=3->bV x=116::zS x.aN)/\(x.aq=4->bV x=97::zS x.aN) /\
  (x.aq=5->bV x=126::bV (x.M.getD 0 zE)) /\
  (x.aq=6->bV x=[40]++(bV (x.M.getD 0 zE)++([32,43,32]++(bV (x.M.getD 1 zE)++[41])))) /\
  (x.aq=7->bV x=[40]++(bV (x.M.getD 0 zE)++([32]++(bV (x.M.getD 1 zE)++[41])))) /\
  (x.aq=8->bV x=bV (x.M.getD 0 zE)++[42]):=by
 have hf:=gq x h;rw[a9f];refine⟨λ e=>?_,λ e=>?_,λ e=>?_,λ e=>?_,λ e=>?_,λ e=>?_,λ e=>?_,λ e=>?_⟩
 .simp[Yn,e]
 .simp[Yn,e]
 .simp[Yn,e]
 .simp[Yn,e]
 .have:=(hf.2.1 (.inl e)).1;rw[oX zE x.M 0 (by omega)];simp[Yn,e]
 .have:=(hf.2.2.1 (.inl e)).1;rw[oX zE x.M 0 (by omega),oX zE x.M 1 (by omega)];simp[Yn,e]
 .have:=(hf.2.2.1 (.inr e)).1;rw[oX zE x.M 0 (by omega),oX zE x.M 1 (by omega)];simp[Yn,e]
 .have:=(hf.2.1 (.inr e)).1;rw[oX zE x.M 0 (by omega)];simp[Yn,e]
def a1j(n:Int)(h:0<=n/\n<=9):(zS n).length=1:=by
 unfold zS;rw[Lib.decDigits_one (by omega)];rfl
def a9X(f:J->Nat)(z:J)(xs:List J)(h:xs.length=2):aG f xs=f (xs.getD 0 z)+f (xs.getD 1 z):=by
 match xs,h with
 | [a,b],_=>simp[aG]
def a9W(f:J->Nat)(z:J)(xs:List J)(h:xs.length=1):aG f xs=f (xs.getD 0 z):=by
 match xs,h with
 | [a],_=>simp[aG]
def zF:∀ (N:Nat) (x:J),cb x<N->ec x=true->(bV x).length<=5 * aM x
 | 0,x,h,_=>by omega
 | N+1,x,hN,h=>by
  have hf:=gq x h;have ht:=eI x h;have hn:=zl x;rcases hf.2.2.2 with e|e|e|e|e|e|e|e
  .rw[ht.1 e];simp;omega
  .rw[ht.2.1 e];simp;omega
  .rw[ht.2.2.1 e];have:=a1j _ (hf.1 (.inl e));simp;omega
  .rw[ht.2.2.2.1 e];have:=a1j _ (hf.1 (.inr e));simp;omega
  .rw[ht.2.2.2.2.1 e];obtain⟨hl,h0⟩:=hf.2.1 (.inl e);have i0:=zF N _ (by have:=h0.2;omega) h0.1;rw[a9W _ zE _ hl] at hn;simp only[b3G];omega
  .rw[ht.2.2.2.2.2.1 e];obtain⟨hl,h0,h1⟩:=hf.2.2.1 (.inl e);have i0:=zF N _ (by have:=h0.2;omega) h0.1;have i1:=zF N _ (by have:=h1.2;omega) h1.1;rw[a9X _ zE _ hl] at hn;simp only[b3J,b3G,b3T];omega
  .rw[ht.2.2.2.2.2.2.1 e];obtain⟨hl,h0,h1⟩:=hf.2.2.1 (.inr e);have i0:=zF N _ (by have:=h0.2;omega) h0.1;have i1:=zF N _ (by have:=h1.2;omega) h1.1;rw[a9X _ zE _ hl] at hn;simp only[b3J,b3G,b3T];omega
  .rw[ht.2.2.2.2.2.2.2 e];obtain⟨hl,h0⟩:=hf.2.1 (.inr e);have i0:=zF N _ (by have:=h0.2;omega) h0.1;rw[a9W _ zE _ hl] at hn;simp only[b3J,b3G,b3T];omega
def a2c{w:World}{S:Nat->Prop}{x:J}{cs:List Value}(h:Rd w S x.aP cs):∃ a cap,cs=[.int .i64 x.aq, .int .i64 x.aN, .slice a x.M.length cap] /\
  (x.M=[]\/∃ b o,a=some ⟨b,o,none⟩/\S b/\dq w S (x.M.map J.aP) b o):=by
 cases x with
 | mk k n ks =>
  simp only[J.aP,Rd,dh] at h;obtain⟨v0,r0,rfl,⟨h0,_⟩,v1,r1,rfl,⟨h1,_⟩,v2,r2,rfl,⟨a,cap,h2,_,_,_,h3⟩,rfl⟩:=h;simp only[b3F,b3L] at h0 h1 h2;subst h0 h1 h2;rw[J.tV] at *
  refine⟨a,cap,by simp,h3.imp (λ h=>by simpa using h) id⟩
def a8Y{w:World}{S:Nat->Prop}{x:J}{b o:Nat}(h:dq w S (x.M.map J.aP) b o)(i:Nat)(hi:i<x.M.length) :
  ∃ c0 c1 c2,Rd w S (x.M.getD i zE).aP [c0,c1,c2]/\cd w b (o+3 * i) [c0,c1,c2]:=by
 obtain⟨cs,h1,h2,h3⟩:=dq.at_ (n:=3) _ b o h (λ d hd=>by
  obtain⟨y,_,rfl⟩:=b3E.1 hd;cases y;rfl) i (x.M.getD i zE).aP (by simp[b5k,b3N,b3Z hi])
 match cs,h1 with
 | [c0,c1,c2],_=>exact⟨c0,c1,c2,h2,by rw[Nat.mul_comm];exact h3⟩
def LU(B b:Nat)(S:Nat->Prop)(hS:∀ k,S k->k<B):∀ (N:Nat) (x:J),cb x<N->ec x=true->∀ (l:List UInt8) (w:World) (cs:List Value),wL B b l w->B<=w.heap.size ->
  l.length+(bV x).length<=140737488355328->Rd w S x.aP cs->Kd B b (.agg cs.toArray) l (bV x) w
 | 0,x,h,_=>by omega
 | N+1,x,hN,h=>by
  intro l w cs hI hB hl hr;have hf:=gq x h;have ht:=eI x h;obtain⟨a,cap,rfl,hk⟩:=a2c hr;have KZ:∀ i,i<x.M.length->AB x i->∃ kb ko c0 c1 c2,a=some ⟨kb,ko,none⟩/\(∀ j,j≠i->True)/\(∀ w1,Below B w w1->∀ j v,[c0,c1,c2][j]?=some v->w1.cell? ⟨kb,ko+3 * i+j,none⟩=some v) /\
    (∀ w1 l1,Below B w w1->wL B b l1 w1->B<=w1.heap.size->l1.length+(bV (x.M.getD i zE)).length<=140737488355328->Kd B b (.agg #[c0,c1,c2]) l1 (bV (x.M.getD i zE)) w1):=by
   intro i hi hg;rcases hk with hk|⟨kb,ko,rfl,hSk,eF⟩
   .rw[hk] at hi;simp at hi
   .obtain⟨c0,c1,c2,h1,h2⟩:=a8Y eF i hi;refine⟨kb,ko,c0,c1,c2,rfl,λ _ _=>trivial,λ w1 hw j v hj=>?_,λ w1 l1 hw hI1 hB1 hl1=>?_⟩
    .exact h2.aS (hw.block kb (hS kb hSk)) j v hj
    .exact LU B b S hS N _ (by have:=hg.2;omega) hg.1 l1 w1 [c0,c1,c2] hI1 hB1 hl1 (h1.aS (λ _ h=>h) (λ k hk=>hw.block k (hS k hk)))
  rcases hf.2.2.2 with e|e|e|e|e|e|e|e
  .rw[ht.1 e] at hl ⊢;rw[e];exact we1 B b l _ _ w hI hl hB
  .rw[ht.2.1 e] at hl ⊢;rw[e];exact we2 B b l _ _ w hI hl hB
  .have hn:=hf.1 (.inl e);rw[ht.2.2.1 e] at hl ⊢;rw[e,show x.aN=((x.aN.toNat:Nat):Int) by omega];exact we3 B b l _ (by omega) _ w hI (by simpa [zS] using hl) hB
  .have hn:=hf.1 (.inr e);rw[ht.2.2.2.1 e] at hl ⊢;rw[e,show x.aN=((x.aN.toNat:Nat):Int) by omega];exact we4 B b l _ (by omega) _ w hI (by simpa [zS] using hl) hB
  .obtain⟨hn,h0⟩:=hf.2.1 (.inl e);obtain⟨kb,ko,c0,c1,c2,rfl,_,q1,q2⟩:=KZ 0 (by omega) h0;rw[ht.2.2.2.2.1 e] at hl ⊢;rw[e,hn];exact we5 B b l _ _ kb ko cap c0 c1 c2 w hI (by simpa using hl) hB q1 q2
  .obtain⟨hn,h0,h1⟩:=hf.2.2.1 (.inl e);obtain⟨kb,ko,c0,c1,c2,rfl,_,q1,q2⟩:=KZ 0 (by omega) h0;obtain⟨kb',ko',d0,d1,d2,eq,_,p1,p2⟩:=KZ 1 (by omega) h1;cases eq;rw[ht.2.2.2.2.2.1 e] at hl ⊢;rw[e,hn];exact we6 B b l _ _ _ kb ko cap c0 c1 c2 d0 d1 d2 w hI (by simp at hl ⊢;omega) hB q1 q2 p1 p2
  .obtain⟨hn,h0,h1⟩:=hf.2.2.1 (.inr e);obtain⟨kb,ko,c0,c1,c2,rfl,_,q1,q2⟩:=KZ 0 (by omega) h0;obtain⟨kb',ko',d0,d1,d2,eq,_,p1,p2⟩:=KZ 1 (by omega) h1;cases eq;rw[ht.2.2.2.2.2.2.1 e] at hl ⊢;rw[e,hn];exact we7 B b l _ _ _ kb ko cap c0 c1 c2 d0 d1 d2 w hI (by simp at hl ⊢;omega) hB q1 q2 p1 p2
  .obtain⟨hn,h0⟩:=hf.2.1 (.inr e);obtain⟨kb,ko,c0,c1,c2,rfl,_,q1,q2⟩:=KZ 0 (by omega) h0;rw[ht.2.2.2.2.2.2.2 e] at hl ⊢;rw[e,hn];exact we8 B b l _ _ kb ko cap c0 c1 c2 w hI (by simpa using hl) hB q1 q2
def IH:aL:=⟨Ja,[.v (.st .expr)],λ (x:J)=>⟨(some (ec x=true/\(bV x).length<=1000000),[⟨.str,bV x⟩])⟩⟩
set_option maxRecDepth 100000 in
def a0G(x:J)(w:World)(S:Nat->Prop)(hS:∀ b,S b->b<w.heap.size)(hg:ec x=true)(hl:(bV x).length<=1000000)(cs:List Value)(hr:Rd w S x.aP cs) :
  Calls Tryz.prog 150 #[.agg cs.toArray] w λ e w'=>e = .returned (.string ⟨(bV x).toArray⟩)/\Below w.heap.size w w':=by
 obtain⟨a,cap,rfl,hk⟩:=a2c hr;have hI:∀ o:Obj,wL (w.heap.size+1) (w.heap.size+1) [] ((w.alloc o).alloc (.cells #[.pointer none, .slice none 0 0] 196)):=λ o=>by
  have:=Lib.fresh_isBuilder 196 5 (w.alloc o);rw[show (w.alloc o).heap.size=w.heap.size+1 by simp] at this;exact this
 have hB:∀ o p:Obj,w.heap.size+1<=((w.alloc o).alloc p).heap.size:=λ o p=>by simp
 have hw:∀ o p:Obj,Below w.heap.size w ((w.alloc o).alloc p):=λ o p=>((Below.refl _ w).alloc (Nat.le_refl _) o).alloc (by simp) p;go_enter Tryz.func150,Tryz.ntmps150;go_wp2_with (go_at_call 156;refine (LU (w.heap.size+1) (w.heap.size+1) S (λ k hk=>Nat.lt_succ_of_lt (hS k hk)) (cb x+1) x (Nat.lt_succ_self _) hg [] _ _ (hI _) (hB _ _) (by simp;omega) (hr.aS (λ _ h=>h) (λ k hk=>(hw _ _).block k (hS k hk)))).mono ?_);rintro e w1 ⟨he,h1⟩;subst he;have b1:Below w.heap.size w w1:=(hw _ _).trans (h1.nm.mono (Nat.le_succ _));have g1:wL (w.heap.size+1) (w.heap.size+1) (bV x) w1:=by simpa using h1.Rp
 have z1:w.heap.size+1<=w1.heap.size:=b5r (hB _ _) h1.nm.size;clear h1;go_wp2_with (go_at_call 157;refine (Tryz.Builder_String_any (w.heap.size+1) (w.heap.size+1) (bV x) w1 g1 z1).mono ?_);rintro e w2 ⟨he,h2⟩;subst he;go_wp2;go_ret;exact⟨rfl,b1.trans (h2.mono (b7A _))⟩
def ZP{w w':World}(h:Below w.heap.size w w'):bC (λ _=>False) w w':=⟨h.os,h.tape,h.output,h.size,λ b hb _=>h.block b hb⟩
def a8Z{w:World}{S:Nat->Prop}(l:List UInt8)(h:l.length<=140737488355328):dZ w S ⟨.str,l⟩ (.string ⟨l.toArray⟩) :=
 ⟨⟨l.toArray⟩,rfl,by simp,by simpa [ByteArray.size] using h⟩
def Pe:aL.Good IH:=by
 refine⟨ar Ti rfl (by decide),?_⟩;intro x hp w S cA ⟨hS,_⟩ ha;match cA,ha with
 | [v],ha =>
  obtain⟨⟨cs,rfl,hr⟩,_⟩:=ha;refine (a0G x w S hS hp.1 hp.2 cs hr).mono ?_;rintro e w' ⟨rfl,hb⟩;exact⟨_,S,_,rfl,rfl,ZP hb,λ _ _=>b5z,λ b h=>b3P (hS b h) hb.size,a8Z (w:=w') (S:=S) _ (by have:=hp.2;omega)⟩
def tk(x:J)(i:Nat):J:=x.M.getD i zE
structure TK(x:J)(i:Nat):Prop where
 b3p:ec (x.M.getD i zE)=true
 less:cb (x.M.getD i zE)<cb x
 len:(bV (x.M.getD i zE)).length<=(bV x).length
end
end Go.Proofs.YtmjfpcajohhbeaaGreatDoor

namespace Go.Proofs.YtmjfpcajohhbeaaGreatDoor
noncomputable section
def a5E(s:List UInt8)(h:ni 9 s=true)(h9:gC s<=9):ni 1 s=true:=by
 rw[Ef] at h ⊢;simp only[b3A,b3v,b3I,b5K,b3u] at h ⊢;obtain⟨⟨⟨h1,h2⟩,h3⟩,h4⟩:=h;refine⟨⟨⟨h1,?_⟩,h3⟩,h4⟩;rcases b4y 1 s.length with hl|hl
 .exfalso;match s,hl,h3,h4,h9 with
  | a::b::r,_,h3,h4,h9 =>
   have ha:fA a=true:=by simp[bp] at h4;exact h4.1
   have ha':=ha;simp only[fA,b3A,b3v] at ha;have h3':a.toNat≠48:=by rcases h3 with h3|h3<;>simp at h3<;>omega
   have key:∀ (r:List UInt8) (n:Int),1<=n->bp fA r=true->n<=r.foldl (λ n b=>n * 10+((b.toNat:Int) - 48)) n:=by
    intro r;induction r with
    | nil=>intro n _ _;exact Int.le_refl _
    | cons c r ih =>
     intro n hn hr;simp only[bp,b3A] at hr;have hc:=hr.1;simp only[fA,b3A,b3v] at hc;have:=ih (n * 10+((c.toNat:Int) - 48)) (by omega) hr.2;simp only[b6y];omega
   simp only[bp,b3A] at h4;have hb:=h4.2.1;simp only[fA,b3A,b3v] at hb;have:=key r (((0 * 10+((a.toNat:Int) - 48)) * 10)+((b.toNat:Int) - 48)) (by omega) h4.2.2;simp only[gC,b6y] at h9;omega
 .omega
def a2q{α:Type}(f:α->Nat):∀ (xs ys:List α),aG f (xs++ys)=aG f xs+aG f ys
 | [],ys=>by simp[aG]
 | x::xs,ys=>by simp only[b4M,aG,a2q f xs ys];omega
def xb{α:Type}(f:α->Bool):∀ (xs:List α),bp f xs=true->∀ x∈xs,f x=true
 | x::xs,h,y,hy=>by
  simp only[bp,b3A] at h;rcases b3S.1 hy with e|e
  .rw[e];exact h.1
  .exact xb f xs h.2 y e
abbrev zX:J:=J.mk (0:Int) (0:Int) []
def cN(t:List UInt8)(a:Nat)(s:List UInt8):Bool:=decide (s.length<=(t.drop a).length)&&decide ((t.drop a).take s.length=s)
def mn{t:List UInt8}{a:Nat}{s r:List UInt8}(h:t.drop a=s++r):cN t a s=true:=by
 unfold cN;rw[h];simp
def QF(t:List UInt8)(a:Nat)(s:List UInt8):cN t a s=true↔∃ r,t.drop a=s++r:=by
 constructor
 .intro h;simp only[cN,b3A,b3v] at h;refine⟨(t.drop a).drop s.length,?_⟩;conv=>rhs;lhs;rw[<-h.2]
  rw[b4K]
 .rintro⟨r,h⟩;exact mn h
def lE{t:List UInt8}{a:Nat}{b c:UInt8}{r:List UInt8}(h:t.drop a=b::r)(hn:b≠c)(s:List UInt8):cN t a (c::s)=false:=by
 cases e:cN t a (c::s) with
 | false=>rfl
 | true =>
  obtain⟨r',h'⟩:=(QF _ _ _).1 e;rw[h] at h';simp only[b4M,b3F] at h';exact absurd h'.1 hn
def cI(c:UInt8):List UInt8->Nat
 | []=>0
 | b::l=>if b=c then cI c l+1 else 0
def noB(c:UInt8)(r:List UInt8):Prop:=∀ b l,r=b::l->b≠c
def OT(c:UInt8)(r:List UInt8)(h:noB c r):∀ n,cI c (List.replicate n c++r)=n
 | 0=>by
  cases r with
  | nil=>rfl
  | cons b l=>simp[cI,h b l rfl]
 | n+1=>by simp[b5x,cI,OT c r h n]
def cv{t w r:List UInt8}{a:Nat}(h:t.drop a=w++r):t.drop (a+w.length)=r:=by
 rw[<-b5j,h];simp
structure RI where
 e:J
 ok:Bool
 a:Nat
def cq(k:Int):Nat->J->J
 | 0,e=>e
 | n+1,e=>cq k n (J.mk k 0 [e])
def dQ(k:Int):∀ (n:Nat) (e:J),cq k (n+1) e=J.mk k 0 [cq k n e]
 | 0,e=>rfl
 | n+1,e=>by
  show cq k (n+1) (J.mk k 0 [e])=_;rw[dQ k n (J.mk k 0 [e])];rfl
def jj(core:Nat->RI)(t:List UInt8)(a:Nat):RI :=
 if 40<cI 126 (t.drop a) then ⟨zX,false,a+cI 126 (t.drop a)⟩ else
 if 41<cI 42 (t.drop (core (a+cI 126 (t.drop a))).a) then ⟨zX,false,(core (a+cI 126 (t.drop a))).a+42⟩ else
 ⟨cq 8 (cI 42 (t.drop (core (a+cI 126 (t.drop a))).a)) (cq 5 (cI 126 (t.drop a)) (core (a+cI 126 (t.drop a))).e),(core (a+cI 126 (t.drop a))).ok,(core (a+cI 126 (t.drop a))).a+cI 42 (t.drop (core (a+cI 126 (t.drop a))).a)⟩
def jb(t:List UInt8)(a:Nat):Bool:=decide (a<t.length)&&decide (48<=(t.getD a 0).toNat)&&decide ((t.getD a 0).toNat<=57)
def sd(k:Int)(t:List UInt8)(a:Nat):RI:=bif jb t a then ⟨J.mk k (((t.getD a 0).toNat:Int) - 48) [],true,a+1⟩ else ⟨J.mk k 0 [],false,a⟩
def qE(k:Int)(t:List UInt8)(x y:RI):RI:=bif x.ok&&y.ok&&cN t y.a [41] then ⟨J.mk k 0 [x.e,y.e],true,y.a+1⟩ else ⟨J.mk k 0 [x.e,y.e],false,y.a⟩
def dA(t:List UInt8):Nat->Nat->RI
 | 0,a=>⟨zX,false,a⟩
 | d+1,a=>if cN t a [48]=true then ⟨J.mk 1 0 [],true,a+1⟩ else if cN t a [49]=true then ⟨J.mk 2 0 [],true,a+1⟩ else
  if cN t a [116]=true then sd 3 t (a+1) else if cN t a [97]=true then sd 4 t (a+1) else if cN t a [40]=false then ⟨zX,false,a⟩ else
  if cN t (jj (dA t d) t (a+1)).a [32,43,32]=true then qE 6 t (jj (dA t d) t (a+1)) (jj (dA t d) t ((jj (dA t d) t (a+1)).a+3)) else
  if cN t (jj (dA t d) t (a+1)).a [32]=true then qE 7 t (jj (dA t d) t (a+1)) (jj (dA t d) t ((jj (dA t d) t (a+1)).a+1)) else
  ⟨zX,false,(jj (dA t d) t (a+1)).a⟩
def Q6(k:Int):Prop:=k=1\/k=2\/k=3\/k=4\/k=6\/k=7
def kM(x:J)(h:ec x=true)(e:¬ x.aq=3)(e':¬ x.aq=4):x.aN=0:=by
 simp only[ec] at h;rw[il,xd] at h;simp only[Bool.and_eq_true,decide_eq_true_eq] at h;have:=h.1.1.2;rw[Jm,if_neg e,if_neg e'] at this;simpa using this
def oH(x:J)(h:ec x=true)(e:x.aq=1\/x.aq=2\/x.aq=3\/x.aq=4):x.M=[]:=by
 simp only[ec] at h;rw[il,xd] at h;simp only[b3A,b3v] at h;have h1:=h.1.1.1;have:x.M.length=0:=by rcases e with e|e|e|e<;>rw[e] at h1<;>simp[cV] at h1<;>omega
 exact b4C this
def a5u(x:J)(h:ec x=true)(e:x.aq=5):bq (x.M.getD 0 zE)=true:=by
 simp only[ec] at h;rw[il,xd] at h;simp only[Bool.and_eq_true,decide_eq_true_eq] at h;have:=h.1.2;simpa [e] using this
def Qm(x:J)(h:x.M.length=1):x.M=[x.M.getD 0 zE]:=by
 cases x with
 | mk k n ks =>
  match ks,h with
  | [a],_=>rfl
def Kb(x:J)(h:x.M.length=2):x.M=[x.M.getD 0 zE,x.M.getD 1 zE]:=by
 cases x with
 | mk k n ks =>
  match ks,h with
  | [a,b],_=>rfl
def gH(x:J)(k n:Int)(ks:List J)(h1:x.aq=k)(h2:x.aN=n)(h3:x.M=ks):x=J.mk k n ks:=by
 cases x;simp at h1 h2 h3;simp[h1,h2,h3]
def Xf:∀ (N:Nat) (x:J),cb x<N->ec x=true->∃ m n c,x=cq 8 m (cq 5 n c)/\ec c=true/\Q6 c.aq/\cb c<=cb x/\bL c+m+n=bL x /\
  bV x=List.replicate n 126++(bV c++List.replicate m 42)
 | 0,x,h,_=>by omega
 | N+1,x,hN,h=>by
  have hf:=gq x h;have ht:=eI x h;by_cases h8:x.aq=8
  .obtain⟨hl,hk⟩:=hf.2.1 (.inr h8);obtain⟨m,n,c,e1,e2,e3,e4,e5,e6⟩:=Xf N _ (by have:=hk.2;omega) hk.1;have hx:x=J.mk 8 0 [x.M.getD 0 zE]:=gH x 8 0 _ h8 (kM x h (by omega) (by omega)) (Qm x hl);refine⟨m+1,n,c,?_,e2,e3,by have:=hk.2;omega,?_,?_⟩
   .rw[dQ,<-e1];exact hx
   .rw[gO x,Qm x hl];simp only[iI];omega
   .rw[ht.2.2.2.2.2.2.2 h8,e6,b6d];simp
  .by_cases h5:x.aq=5
   .obtain⟨hl,hk⟩:=hf.2.1 (.inl h5);obtain⟨m,n,c,e1,e2,e3,e4,e5,e6⟩:=Xf N _ (by have:=hk.2;omega) hk.1;have hx:x=J.mk 5 0 [x.M.getD 0 zE]:=gH x 5 0 _ h5 (kM x h (by omega) (by omega)) (Qm x hl);have hm:m=0:=by
     cases m with
     | zero=>rfl
     | succ m =>
      have hc:=a5u x h h5;rw[e1,dQ,Q3] at hc;simp[Mt] at hc
    subst hm;refine⟨0,n+1,c,?_,e2,e3,by have:=hk.2;omega,?_,?_⟩
    .show x=cq 5 (n+1) c;rw[dQ];have e1':x.M.getD 0 zE=cq 5 n c:=e1;rw[<-e1'];exact hx
    .rw[gO x,Qm x hl];simp only[iI];omega
    .rw[ht.2.2.2.2.1 h5,e6,b5x];simp
   .exact⟨0,0,x,rfl,h,by have:=hf.2.2.2;unfold Q6;omega,Nat.le_refl _,by omega,by simp⟩
def Mu{t:List UInt8}{a:Nat}{b:UInt8}{r:List UInt8}(h:t.drop a=b::r):a<t.length/\t.getD a 0=b:=by
 have hl:a<t.length:=by
  rcases b4y a t.length with g|g
  .exact g
  .rw[b5H g] at h;cases h
 refine⟨hl,?_⟩;rw[b5m hl] at h;simp only[b3F] at h;rw[b3N,b3Z hl,<-h.1];rfl
def SI(c:J)(h:ec c=true)(hk:Q6 c.aq):∃ b l,bV c=b::l/\b≠126/\b≠43:=by
 have ht:=eI c h;rcases hk with e|e|e|e|e|e
 .exact⟨_,_,ht.1 e,by decide,by decide⟩
 .exact⟨_,_,ht.2.1 e,by decide,by decide⟩
 .exact⟨_,_,ht.2.2.1 e,by decide,by decide⟩
 .exact⟨_,_,ht.2.2.2.1 e,by decide,by decide⟩
 .exact⟨_,_,ht.2.2.2.2.2.1 e,by decide,by decide⟩
 .exact⟨_,_,ht.2.2.2.2.2.2.1 e,by decide,by decide⟩
def VG(x:J)(h:ec x=true):∃ b l,bV x=b::l/\b≠43:=by
 obtain⟨m,n,c,_,h2,h3,_,_,h6⟩:=Xf (cb x+1) x (b4m _) h;obtain⟨b,l,g1,_,g3⟩:=SI c h2 h3;cases n with
 | zero=>exact⟨b,_,by rw[h6,g1];rfl,g3⟩
 | succ n=>exact⟨126,_,by rw[h6,b5x];rfl,by decide⟩
def YM(core:Nat->RI)(t:List UInt8)(a:Nat)(r:List UInt8)(x c:J)(m n:Nat)(hx:x=cq 8 m (cq 5 n c))(hc:ec c=true)(hk:Q6 c.aq)
  (htx:bV x=List.replicate n 126++(bV c++List.replicate m 42)) (hm:m<=40) (hn:n<=40) (hr:noB 42 r) (hd:t.drop a=bV x++r)
  (b0y:∀ r',t.drop (a+n)=bV c++r'->core (a+n)=⟨c,true,a+n+(bV c).length⟩):jj core t a=⟨x,true,a+(bV x).length⟩:=by
 obtain⟨b,l,g1,g2,_⟩:=SI c hc hk;have hd1:t.drop a=List.replicate n 126++(bV c++(List.replicate m 42++r)):=by rw[hd,htx];simp
 have hd2:t.drop (a+n)=bV c++(List.replicate m 42++r):=by
  have:=cv hd1;simpa using this
 have hd3:=cv hd2;have V2:cI 126 (t.drop a)=n:=by
  rw[hd1];refine OT 126 _ ?_ n;intro b' l' e;rw[g1] at e;simp only[b4M,b3F] at e;rw[<-e.1];exact g2
 have hm1:cI 42 (t.drop (a+n+(bV c).length))=m:=by rw[hd3];exact OT 42 r hr m
 have VW:=b0y _ hd2;unfold jj;rw[V2,VW];simp only[hm1];rw[if_neg (by omega),if_neg (by omega),<-hx];have:(bV x).length=n+((bV c).length+m):=by rw[htx];simp
 simp only[RI.mk.injEq,b4u];omega
def YG:∀ (N:Nat) (c:J),cb c<N->ec c=true->Q6 c.aq->∀ (t:List UInt8) (d a:Nat) (r:List UInt8),bL c<=d->bL c<=40->t.drop a=bV c++r->dA t d a=⟨c,true,a+(bV c).length⟩
 | 0,c,h,_,_=>by omega
 | N+1,c,hN,h,hk=>by
  intro t d a r hd h40 ht;have hf:=gq c h;have hx:=eI c h;have hdp:=gO c;obtain⟨d,rfl⟩:∃ d',d=d'+1:=⟨d - 1,by omega⟩;have KZ:∀ i,i<c.M.length->AB c i->∀ (a:Nat) (r:List UInt8),noB 42 r->t.drop a=bV (c.M.getD i zE)++r ->
    jj (dA t d) t a=⟨c.M.getD i zE,true,a+(bV (c.M.getD i zE)).length⟩:=by
   intro i hi hg a r hr hda;obtain⟨m,n,c',e1,e2,e3,e4,e5,e6⟩:=Xf _ _ (b4m _) hg.1;have hdk:=sf bL zE c.M i hi;exact YM (dA t d) t a r _ c' m n e1 e2 e3 e6 (by omega) (by omega) hr hda (λ r' Nc=>YG N c' (by have:=hg.2;omega) e2 e3 t d (a+n) r' (by omega) (by omega) Nc)
  rcases hk with e|e|e|e|e|e
  .rw[hx.1 e] at ht ⊢;have hc:=gH c 1 0 [] e (kM c h (by omega) (by omega)) (oH c h (by omega));rw[dA,b4d (mn (s:=[48]) ht),<-hc];rfl
  .rw[hx.2.1 e] at ht ⊢;have hc:=gH c 2 0 [] e (kM c h (by omega) (by omega)) (oH c h (by omega));rw[dA,b3H (by rw[lE (b:=49) ht (by decide)];decide),b4d (mn (s:=[49]) ht),<-hc];rfl
  .have hn:=hf.1 (.inl e);have hg:zS c.aN=[UInt8.ofNat (48+c.aN.toNat)]:=by unfold zS;rw[Lib.decDigits_one (by omega)]
   rw[hx.2.2.1 e,hg] at ht ⊢;have h2:t.drop (a+1)=UInt8.ofNat (48+c.aN.toNat)::r:=cv (w:=[116]) ht;obtain⟨g1,g2⟩:=Mu h2;have hb:(UInt8.ofNat (48+c.aN.toNat)).toNat=48+c.aN.toNat:=by rw[b6J];omega
   rw[dA,if_neg (by rw[lE (b:=116) ht (by decide)];decide),if_neg (by rw[lE (b:=116) ht (by decide)];decide),if_pos (mn (s:=[116]) ht)];have hdb:jb t (a+1)=true:=by unfold jb;rw[g2,hb,decide_eq_true g1,decide_eq_true (by omega),decide_eq_true (by omega)];rfl
   unfold sd;rw[hdb,g2,hb];have hc:=gH c 3 c.aN [] e rfl (oH c h (by omega));rw[show (((48+c.aN.toNat:Nat):Int) - 48)=c.aN by omega,<-hc];rfl
  .have hn:=hf.1 (.inr e);have hg:zS c.aN=[UInt8.ofNat (48+c.aN.toNat)]:=by unfold zS;rw[Lib.decDigits_one (by omega)]
   rw[hx.2.2.2.1 e,hg] at ht ⊢;have h2:t.drop (a+1)=UInt8.ofNat (48+c.aN.toNat)::r:=cv (w:=[97]) ht;obtain⟨g1,g2⟩:=Mu h2;have hb:(UInt8.ofNat (48+c.aN.toNat)).toNat=48+c.aN.toNat:=by rw[b6J];omega
   rw[dA,if_neg (by rw[lE (b:=97) ht (by decide)];decide),if_neg (by rw[lE (b:=97) ht (by decide)];decide),if_neg (by rw[lE (b:=97) ht (by decide)];decide),if_pos (mn (s:=[97]) ht)];have hdb:jb t (a+1)=true:=by unfold jb;rw[g2,hb,decide_eq_true g1,decide_eq_true (by omega),decide_eq_true (by omega)];rfl
   unfold sd;rw[hdb,g2,hb];have hc:=gH c 4 c.aN [] e rfl (oH c h (by omega));rw[show (((48+c.aN.toNat:Nat):Int) - 48)=c.aN by omega,<-hc];rfl
  .obtain⟨hl,k0,k1⟩:=hf.2.2.1 (.inl e);have hc:=gH c 6 0 _ e (kM c h (by omega) (by omega)) (Kb c hl);rw[hx.2.2.2.2.2.1 e] at ht ⊢;have p0:t.drop a=40::(bV (c.M.getD 0 zE)++([32,43,32]++(bV (c.M.getD 1 zE)++([41]++r)))):=by rw[ht];simp
   have p1:t.drop (a+1)=bV (c.M.getD 0 zE)++([32,43,32]++(bV (c.M.getD 1 zE)++([41]++r))):=cv (w:=[40]) p0;have q1:=KZ 0 (by omega) k0 (a+1) _ (λ b l g=>by simp at g;rw[<-g.1];decide) p1;have p2:=cv p1;have p3:=cv p2;have q2:=KZ 1 (by omega) k1 _ _ (λ b l g=>by simp at g;rw[<-g.1];decide) p3;have p4:=cv p3;rw[dA,b3H (by rw[lE p0 (by decide)];decide),b3H (by rw[lE p0 (by decide)];decide),b3H (by rw[lE p0 (by decide)];decide),b3H (by rw[lE p0 (by decide)];decide),
    b3H (by rw[mn (s:=[40]) p0];decide)]
   rw[q1];simp only;rw[if_pos (mn p2)];have q2':jj (dA t d) t (a+1+(bV (c.M.getD 0 zE)).length+3)=_:=q2;rw[q2'];unfold qE;simp only;rw[show cN t _ [41]=true from mn (s:=[41]) p4];simp only[Bool.and_self,cond_true,RI.mk.injEq,true_and,<-hc];simp only[List.length_append,List.length_cons,List.length_nil];omega
  .obtain⟨hl,k0,k1⟩:=hf.2.2.1 (.inr e);have hc:=gH c 7 0 _ e (kM c h (by omega) (by omega)) (Kb c hl);rw[hx.2.2.2.2.2.2.1 e] at ht ⊢;have p0:t.drop a=40::(bV (c.M.getD 0 zE)++([32]++(bV (c.M.getD 1 zE)++([41]++r)))):=by rw[ht];simp
   have p1:t.drop (a+1)=bV (c.M.getD 0 zE)++([32]++(bV (c.M.getD 1 zE)++([41]++r))):=cv (w:=[40]) p0;have q1:=KZ 0 (by omega) k0 (a+1) _ (λ b l g=>by simp at g;rw[<-g.1];decide) p1;have p2:=cv p1;have p3:=cv p2;have q2:=KZ 1 (by omega) k1 _ _ (λ b l g=>by simp at g;rw[<-g.1];decide) p3;have p4:=cv p3;have gm:cN t (a+[40].length+(bV (c.M.getD 0 zE)).length) [32,43,32]=false:=by
    cases hb:cN t (a+[40].length+(bV (c.M.getD 0 zE)).length) [32,43,32] with
    | false=>rfl
    | true =>
     obtain⟨r',h'⟩:=(QF _ _ _).1 hb;obtain⟨b,l,f1,f2⟩:=VG _ k1.1;have p2':=p2;rw[f1] at p2';have h3:=p2'.symm.trans h';simp only[b4M,b3Y,b3F,b4u] at h3;exact absurd h3.1 f2
   rw[dA,b3H (by rw[lE p0 (by decide)];decide),b3H (by rw[lE p0 (by decide)];decide),b3H (by rw[lE p0 (by decide)];decide),b3H (by rw[lE p0 (by decide)];decide),
    b3H (by rw[mn (s:=[40]) p0];decide)]
   rw[q1];simp only;rw[if_neg (by rw[show cN t (a+1+(bV (c.M.getD 0 zE)).length) [32,43,32]=false from gm];decide),if_pos (mn p2)];have q2':jj (dA t d) t (a+1+(bV (c.M.getD 0 zE)).length+1)=_:=q2;rw[q2'];unfold qE;simp only;rw[show cN t _ [41]=true from mn (s:=[41]) p4];simp only[Bool.and_self,cond_true,RI.mk.injEq,true_and,<-hc];simp only[List.length_append,List.length_cons,List.length_nil];omega
def a5n(x:J)(h:ec x=true)(h40:bL x<=40):jj (dA (bV x) 41) (bV x) 0=⟨x,true,(bV x).length⟩:=by
 obtain⟨m,n,c,e1,e2,e3,e4,e5,e6⟩:=Xf _ _ (Nat.lt_succ_self _) h;have:=YM (dA (bV x) 41) (bV x) 0 [] x c m n e1 e2 e3 e6 (by omega) (by omega) (λ b l g=>by cases g) (by simp) (λ r' Nc=>YG _ c (Nat.lt_succ_self _) e2 e3 (bV x) 41 (0+n) r' (by omega) (by omega) Nc);simpa using this
def cm(t:List UInt8)(a:Nat):Int:=if a<t.length then ((t.getD a 0).toNat:Int) else 0
structure RS where
 e:J
 a:Nat
 dp:Nat
 bad:Bool
def nN:List UInt8->Nat
 | []=>0
 | b::l=>if fA b=true then nN l+1 else 0
def W3(t:List UInt8)(a:Nat):List UInt8:=(t.drop (a+1)).take (nN (t.drop (a+1)))
def oR(t:List UInt8)(a dp:Nat):RS:=⟨J.mk (if cm t a=97 then 4 else 3) (kH 9 (W3 t a)) [],a+1+nN (t.drop (a+1)),dp,!ni 9 (W3 t a)⟩
def dG(t:List UInt8)(a:Nat)(c:Int):Nat:=if cm t a=c then a+1 else a
def fK(t:List UInt8)(a:Nat)(c:Int)(bad:Bool):Bool:=if cm t a=c then bad else true
def Cj(t:List UInt8)(r:RS):RS:=if r.bad=true then ⟨r.e,r.a,r.dp - 1,true⟩ else ⟨cq 8 (cI 42 (t.drop r.a)) r.e,r.a+cI 42 (t.drop r.a),r.dp - 1,false⟩
def dV(inner:Nat->Nat->RS)(t:List UInt8)(a dp:Nat)(bad:Bool):RS:=if bad=true\/100<dp+1 then ⟨zX,a,dp+1,true⟩ else Cj t (inner a (dp+1))
def Ce(inner:Nat->Nat->RS)(t:List UInt8)(x:RS)(k:Int)(a:Nat)(bad:Bool):RS :=
 ⟨J.mk k 0 [x.e,(dV inner t a x.dp bad).e],dG t (dV inner t a x.dp bad).a 41,(dV inner t a x.dp bad).dp,fK t (dV inner t a x.dp bad).a 41 (dV inner t a x.dp bad).bad⟩
def vI(inner:Nat->Nat->RS)(t:List UInt8)(x:RS):RS :=
 if cm t (dG t x.a 32)=43 then Ce inner t x 6 (dG t (dG t x.a 32+1) 32) (fK t (dG t x.a 32+1) 32 (fK t x.a 32 x.bad)) else Ce inner t x 7 (dG t x.a 32) (fK t x.a 32 x.bad)
def cC(t:List UInt8):Nat->Nat->Nat->RS
 | g,a,dp=>if cm t a=48 then ⟨J.mk 1 0 [],a+1,dp,false⟩ else if cm t a=49 then ⟨J.mk 2 0 [],a+1,dp,false⟩ else
  if cm t a=116\/cm t a=97 then oR t a dp else
  if cm t a=126 then (match g with
   | 0=>⟨zX,a+1,dp+1,true⟩
   | g+1=>⟨J.mk 5 0 [(cC t g (a+1) (dp+1)).e],(cC t g (a+1) (dp+1)).a,(cC t g (a+1) (dp+1)).dp - 1,(cC t g (a+1) (dp+1)).bad⟩) else
  if cm t a=40 then (match g with
   | 0=>vI (λ _ _=>⟨zX,0,0,true⟩) t (dV (λ _ _=>⟨zX,0,0,true⟩) t (a+1) dp false)
   | g+1=>vI (cC t g) t (dV (cC t g) t (a+1) dp false)) else ⟨zX,a,dp,true⟩
def fX{t:List UInt8}{a:Nat}{b:UInt8}{r:List UInt8}(h:t.drop a=b::r):cm t a=(b.toNat:Int):=by
 obtain⟨h1,h2⟩:=Mu h;unfold cm;rw[if_pos h1,h2]
def tP(t:List UInt8)(a:Nat)(c:UInt8)(hc:c≠0)(h:cm t a=(c.toNat:Int)):∃ r,t.drop a=c::r:=by
 unfold cm at h;split at h
 .rename_i hl;refine⟨t.drop (a+1),?_⟩;rw[List.drop_eq_getElem_cons hl];rw[List.getD_eq_getElem?_getD,List.getElem?_eq_getElem hl] at h;have:t[a]=c:=UInt8.toNat_inj.1 (by simpa using Int.ofNat_inj.1 h);rw[this]
 .exfalso;have:c.toNat=0:=by omega
  exact hc (UInt8.toNat_inj.1 this)
def a0H(t:List UInt8)(a:Nat)(c:UInt8)(hc:c≠0)(bad:Bool)(h:fK t a (c.toNat:Int) bad=false):bad=false/\dG t a (c.toNat:Int)=a+1/\∃ r,t.drop a=c::r:=by
 unfold fK at h;unfold dG;split at h
 .rename_i e;rw[b4d e];exact⟨h,rfl,tP t a c hc e⟩
 .cases h
def sS{t:List UInt8}{a:Nat}{c:UInt8}{r:List UInt8}(h:t.drop a=c::r)(bad:Bool):dG t a (c.toNat:Int)=a+1/\fK t a (c.toNat:Int) bad=bad:=by
 unfold dG fK;rw[if_pos (fX h),if_pos (fX h)];exact⟨rfl,rfl⟩
def YF(c:UInt8):∀ l:List UInt8,l=List.replicate (cI c l) c++l.drop (cI c l)
 | []=>rfl
 | b::l=>by
  unfold cI;split
  .rename_i e;subst e;rw[b5x,b6k,b4M,<-YF b l]
  .rfl
structure Oe(t:List UInt8)(a dp:Nat)(r:RS):Prop where
 ex:r.bad=false->r.dp=dp/\∃ W,t.drop a=W++t.drop r.a/\(ec r.e=true->W=bV r.e)
def SN:∀ (m:Nat) (e:J),ec (cq 8 m e)=true->ec e=true/\bV (cq 8 m e)=bV e++List.replicate m 42
 | 0,e,h=>⟨h,by simp[cq]⟩
 | m+1,e,h=>by
  rw[dQ] at h ⊢;have hk:=yf _ h 0 (by simp);have hx:=(eI _ h).2.2.2.2.2.2.2 rfl;obtain⟨h1,h2⟩:=SN m e hk.1;refine⟨h1,?_⟩;rw[hx];show bV (cq 8 m e)++[42]=_;rw[h2,b6d,b4x]
def a5U(t:List UInt8)(a dp:Nat)(r:RS)(h:Oe t a (dp+1) r):Oe t a dp (Cj t r):=by
 refine⟨λ hb=>?_⟩;unfold Cj at hb ⊢;cases e:r.bad
 .rw[e] at hb;simp only[b3C,b6c] at hb ⊢;obtain⟨h0,W,h1,h2⟩:=h.ex e;refine⟨by omega,W++List.replicate (cI 42 (t.drop r.a)) 42,?_,λ hg=>?_⟩
  .rw[h1,b4x];congr 1;rw[<-b5j];exact YF 42 _
  .obtain⟨g1,g2⟩:=SN _ _ hg;rw[g2,h2 g1]
 .rw[e] at hb;simp at hb
def rr(inner:Nat->Nat->RS)(t:List UInt8)(a dp:Nat)(bad:Bool)(h:dp+1<=100->Oe t a (dp+1) (inner a (dp+1))):Oe t a dp (dV inner t a dp bad):=by
 unfold dV;split
 .exact⟨λ hb=>by cases hb⟩
 .rename_i hn;exact a5U t a dp _ (h (by omega))
def a5p(inner:Nat->Nat->RS)(t:List UInt8)(a dp:Nat)(bad:Bool)(h:(dV inner t a dp bad).bad=false):bad=false:=by
 unfold dV at h;split at h
 .cases h
 .rename_i hn;cases bad<;>simp_all
def Xc(inner:Nat->Nat->RS)(t:List UInt8)(a0 dp:Nat)(x:RS)(k:Int)(sep:List UInt8)(hk:(k=6/\sep=[32,43,32])\/(k=7/\sep=[32]))(a:Nat)(bad:Bool)(hx:Oe t (a0+1) dp x)
  (h0:∃ r,t.drop a0=40::r) (b2q:bad=false->x.bad=false/\t.drop x.a=sep++t.drop a) (hi:dp+1<=100->Oe t a (dp+1) (inner a (dp+1))):Oe t a0 dp (Ce inner t x k a bad):=by
 refine⟨λ hb=>?_⟩;unfold Ce at hb ⊢;simp only at hb ⊢;obtain⟨h1,h2,r,h3⟩:=a0H t _ 41 (by decide) _ hb;have EW:=a5p inner t a x.dp bad h1;obtain⟨hx1,hx2⟩:=b2q EW;obtain⟨wx0,Wx,wx1,wx2⟩:=hx.ex hx1;rw[wx0] at h1 h2 h3 ⊢;obtain⟨wy0,Wy,wy1,wy2⟩:=(rr inner t a dp bad hi).ex h1;obtain⟨r0,V9⟩:=h0;have TB:t.drop (a0+1)=r0:=cv (w:=[40]) V9;have h4:t.drop ((dV inner t a dp bad).a+1)=r:=cv (w:=[41]) h3;have e41:dG t (dV inner t a dp bad).a 41=(dV inner t a dp bad).a+1:=h2;refine⟨wy0,[40]++(Wx++(sep++(Wy++[41]))),?_,λ hg=>?_⟩
 .rw[e41,V9,h4,<-TB,wx1,hx2,wy1,h3];simp
 .have k0:=yf _ hg 0 (by simp);have k1:=yf _ hg 1 (by simp);rw[wx2 k0.1,wy2 k1.1];rcases hk with ⟨rfl,rfl⟩|⟨rfl,rfl⟩
  .exact ((eI _ hg).2.2.2.2.2.1 rfl).symm
  .exact ((eI _ hg).2.2.2.2.2.2.1 rfl).symm
def a1k(s:List UInt8)(h:ni 9 s=true)(h9:gC s<=9):zS (gC s)=s:=by
 have h1:=a5E s h h9;rw[Ef] at h1;simp only[b3A,b3v] at h1;match s,h1 with
 | [b],h1 =>
  have hd:fA b=true:=by have:=h1.2;simpa [bp] using this
  simp only[fA,b3A,b3v] at hd;have hv:gC [b]=(b.toNat:Int) - 48:=by simp[gC]
  rw[hv] at h9 ⊢;unfold zS;rw[Lib.decDigits_one (by omega)];congr 1;apply UInt8.toNat_inj.1;rw[UInt8.toNat_ofNat'];omega
 | [],h1=>simp at h1
 | _::_::_,h1=>simp at h1;omega
def a5C(t:List UInt8)(a dp:Nat)(h:cm t a=116\/cm t a=97):Oe t a dp (oR t a dp):=by
 refine⟨λ hb=>⟨rfl,?_⟩⟩;unfold oR at hb ⊢;simp only[Bool.not_eq_false'] at hb ⊢;have AI:∀ c:UInt8,(∃ r,t.drop a=c::r)->t.drop a=(c::W3 t a)++t.drop (a+1+nN (t.drop (a+1))):=by
  rintro c ⟨r,hr⟩;have h1:t.drop (a+1)=r:=cv (w:=[c]) hr;have e:t.drop (a+1+nN (t.drop (a+1)))=(t.drop (a+1)).drop (nN (t.drop (a+1))):=by rw[b5j]
  rw[e,hr,h1,List.cons_append];unfold W3;rw[h1,List.take_append_drop]
 have hv:kH 9 (W3 t a)=gC (W3 t a):=by unfold kH;rw[hb];rfl
 rcases h with h|h
 .refine⟨_,AI 116 (tP t a 116 (by decide) h),λ hg=>?_⟩;have e:(if cm t a=97 then (4:Int) else 3)=3:=b3H (by rw[h];decide);rw[e,hv] at hg ⊢;have hn:=(gq _ hg).1 (.inl rfl);rw[(eI _ hg).2.2.1 rfl];show _=116::zS (gC (W3 t a));rw[a1k _ hb hn.2]
 .refine⟨_,AI 97 (tP t a 97 (by decide) h),λ hg=>?_⟩;have e:(if cm t a=97 then (4:Int) else 3)=4:=b4d h;rw[e,hv] at hg ⊢;have hn:=(gq _ hg).1 (.inr rfl);rw[(eI _ hg).2.2.2.1 rfl];show _=97::zS (gC (W3 t a));rw[a1k _ hb hn.2]
def Zo(inner:Nat->Nat->RS)(t:List UInt8)(a0 dp:Nat)(x:RS)(hx:Oe t (a0+1) dp x)(h0:∃ r,t.drop a0=40::r)(hi:∀ a,dp+1<=100->Oe t a (dp+1) (inner a (dp+1))):Oe t a0 dp (vI inner t x):=by
 unfold vI;split
 .rename_i hp;refine Xc inner t a0 dp x 6 [32,43,32] (.inl ⟨rfl,rfl⟩) _ _ hx h0 (λ hb=>?_) (hi _);obtain⟨b1,b2,r1,b3⟩:=a0H t _ 32 (by decide) _ hb;obtain⟨c1,c2,r2,c3⟩:=a0H t _ 32 (by decide) _ b1;have c2':dG t x.a 32=x.a+1:=c2;rw[c2'] at hp b2 b3 ⊢;have b2':dG t (x.a+1+1) 32=x.a+1+1+1:=b2;obtain⟨r3,d3⟩:=tP t (x.a+1) 43 (by decide) hp;have e1:t.drop (x.a+1)=r2:=cv (w:=[32]) c3;have e2:t.drop (x.a+1+1)=r3:=cv (w:=[43]) d3;have e3:t.drop (x.a+1+1+1)=r1:=cv (w:=[32]) b3;refine⟨c1,?_⟩;rw[b2',e3,c3,<-e1,d3,<-e2,b3];rfl
 .refine Xc inner t a0 dp x 7 [32] (.inr ⟨rfl,rfl⟩) _ _ hx h0 (λ hb=>?_) (hi _);obtain⟨c1,c2,r2,c3⟩:=a0H t _ 32 (by decide) _ hb;have c2':dG t x.a 32=x.a+1:=c2;have e1:t.drop (x.a+1)=r2:=cv (w:=[32]) c3;exact⟨c1,by rw[c2',e1,c3];rfl⟩
def a1H(t:List UInt8)(a dp:Nat)(k:Int)(c:UInt8)(hc:c≠0)(h:cm t a=(c.toNat:Int))(he:ec (J.mk k 0 [])=true->bV (J.mk k 0 [])=[c]):Oe t a dp ⟨J.mk k 0 [],a+1,dp,false⟩:=by
 obtain⟨r,hr⟩:=tP t a c hc h;have h1:t.drop (a+1)=r:=cv (w:=[c]) hr;exact⟨λ _=>⟨rfl,[c],by rw[h1,hr];rfl,λ hg=>(he hg).symm⟩⟩
def E6(t:List UInt8):∀ (g a dp:Nat),g+dp=100->Oe t a dp (cC t g a dp)
 | g,a,dp,hgd=>by
  have step:∀ g',g=g'+1->∀ a',Oe t a' (dp+1) (cC t g' a' (dp+1)):=λ g' e a'=>E6 t g' a' (dp+1) (by omega);unfold cC;split
  .rename_i h;exact a1H t a dp 1 48 (by decide) h (λ hg=>(eI _ hg).1 rfl)
  .split
   .rename_i h;exact a1H t a dp 2 49 (by decide) h (λ hg=>(eI _ hg).2.1 rfl)
   .split
    .rename_i h;exact a5C t a dp h
    .split
     .rename_i h;obtain⟨r,hr⟩:=tP t a 126 (by decide) h;have h1:t.drop (a+1)=r:=cv (w:=[126]) hr;cases g with
      | zero=>exact⟨λ hb=>by cases hb⟩
      | succ g =>
       refine⟨λ hb=>?_⟩;obtain⟨e1,W,e2,e3⟩:=(step g rfl (a+1)).ex hb;refine⟨by show _ - 1=dp;omega,126::W,?_,λ hg=>?_⟩
       .show t.drop a=126::W++t.drop (cC t g (a+1) (dp+1)).a;rw[hr,<-h1,e2];rfl
       .have hk:=yf _ hg 0 (by simp);rw[(eI _ hg).2.2.2.2.1 rfl];show _=126::bV (cC t g (a+1) (dp+1)).e;rw[e3 hk.1]
     .split
      .rename_i h;have h0:=tP t a 40 (by decide) h;cases g with
       | zero =>
        refine Zo _ t a dp _ (rr _ t (a+1) dp false (λ h=>by omega)) h0 (λ a' h=>by omega)
       | succ g=>exact Zo _ t a dp _ (rr _ t (a+1) dp false (λ _=>step g rfl _)) h0 (λ a' _=>step g rfl a')
      .exact⟨λ hb=>by cases hb⟩
 termination_by g=>g
def okR(r:List UInt8):Prop:=∀ b l,r=b::l->b≠42/\fA b=false
def noD(r:List UInt8):Prop:=∀ b l,r=b::l->fA b=false
def a5i(b:UInt8)(r:List UInt8)(hb:fA b=true)(hr:noD r):nN (b::r)=1:=by
 unfold nN;rw[if_pos hb];cases r with
 | nil=>rfl
 | cons c l=>unfold nN;rw[if_neg (by rw[hr c l rfl];decide)]
def a1M(t:List UInt8)(a dp:Nat)(c:J)(h:ec c=true)(e:c.aq=3\/c.aq=4)(r:List UInt8)(hr:noD r)(ht:t.drop a=bV c++r):oR t a dp=⟨c,a+(bV c).length,dp,false⟩:=by
 have hn:=(gq c h).1 e;have hx:=eI c h;have hg:zS c.aN=[UInt8.ofNat (48+c.aN.toNat)]:=by unfold zS;rw[Lib.decDigits_one (by omega)]
 have hb:(UInt8.ofNat (48+c.aN.toNat)).toNat=48+c.aN.toNat:=by rw[b6J];omega
 have hd:fA (UInt8.ofNat (48+c.aN.toNat))=true:=by unfold fA;rw[hb,decide_eq_true (by omega),decide_eq_true (by omega)];rfl
 have key:∀ (w:UInt8),bV c=w::zS c.aN->t.drop (a+1)=UInt8.ofNat (48+c.aN.toNat)::r/\cm t a=(w.toNat:Int)/\(bV c).length=2:=by
  intro w e';rw[e',hg] at ht;exact⟨cv (w:=[w]) ht,fX ht,by rw[e',hg];rfl⟩
 have fin:∀ (w:UInt8),bV c=w::zS c.aN->(if cm t a=97 then (4:Int) else 3)=c.aq->oR t a dp=⟨c,a+(bV c).length,dp,false⟩:=by
  intro w e' ek;obtain⟨k1,k2,k3⟩:=key w e';have hcn:nN (t.drop (a+1))=1:=by rw[k1];exact a5i _ _ hd hr
  have hnm:W3 t a=[UInt8.ofNat (48+c.aN.toNat)]:=by unfold W3;rw[hcn,k1];rfl
  have hv:gC [UInt8.ofNat (48+c.aN.toNat)]=c.aN:=by simp only[gC,b6y,b7i,hb];omega
  have hN:ni 9 [UInt8.ofNat (48+c.aN.toNat)]=true:=by rw[Ef];simp only[b3G,b3T,bp,hd];rfl
  unfold oR;rw[hcn,hnm,ek,hN,k3];have hnv:kH 9 [UInt8.ofNat (48+c.aN.toNat)]=c.aN:=by unfold kH;rw[hN,hv];rfl
  rw[hnv];have hc:=gH c c.aq c.aN [] rfl rfl (oH c h (by omega));rw[<-hc];rfl
 rcases e with e|e
 .exact fin 116 (hx.2.2.1 e) (by rw[(key 116 (hx.2.2.1 e)).2.1,e];decide)
 .exact fin 97 (hx.2.2.2.1 e) (by rw[(key 97 (hx.2.2.2.1 e)).2.1,e];decide)
def YN(inner:Nat->Nat->RS)(t:List UInt8)(a dp:Nat)(r:List UInt8)(x c:J)(m n:Nat)(hx:x=cq 8 m (cq 5 n c))
  (htx:bV x=List.replicate n 126++(bV c++List.replicate m 42)) (hdp:dp+1<=100) (hr:okR r) (hd:t.drop a=bV x++r)
  (eL:∀ r',noD r'->t.drop a=List.replicate n 126++bV c++r'->inner a (dp+1)=⟨cq 5 n c,a+(n+(bV c).length),dp+1,false⟩):dV inner t a dp false=⟨x,a+(bV x).length,dp,false⟩:=by
 have hd1:t.drop a=(List.replicate n 126++bV c)++(List.replicate m 42++r):=by rw[hd,htx];simp
 have gm:noD (List.replicate m 42++r):=by
  intro b l e;cases m with
  | zero=>exact (hr b l e).2
  | succ m =>
   rw[b5x,b4M] at e;simp only[b3F] at e;rw[<-e.1];decide
 have h1:=eL _ gm hd1;have hd2:=cv hd1;have hl:(List.replicate n 126++bV c).length=n+(bV c).length:=by simp
 rw[hl] at hd2;have hm:cI 42 (t.drop (a+(n+(bV c).length)))=m:=by rw[hd2];exact OT 42 r (λ b l e=>(hr b l e).1) m
 unfold dV;rw[if_neg (by simp;omega),h1];unfold Cj;simp only[Bool.false_eq_true,if_false];rw[hm,<-hx];have:(bV x).length=n+((bV c).length+m):=by rw[htx];simp
 simp only[RS.mk.injEq,b4u,b3L];omega
def Nh:∀ (N:Nat) (n:Nat) (c:J),cb c+n<N->ec c=true->Q6 c.aq->∀ (t:List UInt8) (g a dp:Nat) (r:List UInt8),g+dp=100->dp+n+2 * bL c<=101->noD r ->
  t.drop a=List.replicate n 126++bV c++r->cC t g a dp=⟨cq 5 n c,a+(n+(bV c).length),dp,false⟩
 | 0,n,c,h,_,_=>by omega
 | N+1,n+1,c,hN,h,hk=>by
  intro t g a dp r hg hd hr ht;have hdp:=gO c;obtain⟨g,rfl⟩:∃ g',g=g'+1:=⟨g - 1,by omega⟩;have TC:t.drop a=126::(List.replicate n 126++bV c++r):=by rw[ht,b5x];rfl
  have h1:t.drop (a+1)=List.replicate n 126++bV c++r:=cv (w:=[126]) TC;have ih:=Nh N n c (by omega) h hk t g (a+1) (dp+1) r (by omega) (by omega) hr h1;have hp:=fX TC;rw[cC.eq_def];dsimp only;rw[if_neg (by rw[hp];decide),if_neg (by rw[hp];decide),if_neg (by rw[hp];decide),if_pos (by rw[hp];decide)];simp only[ih,dQ];simp only[RS.mk.injEq,true_and,and_true];omega
 | N+1,0,c,hN,h,hk=>by
  intro t g a dp r hg hd hr ht;have ht:t.drop a=bV c++r:=by rw[ht];rfl
  have hf:=gq c h;have hx:=eI c h;have hdp:=gO c;show cC t g a dp=⟨c,a+(0+(bV c).length),dp,false⟩;rw[b5b];have KZ:∀ i,i<c.M.length->AB c i->∀ g',g=g'+1->∀ (a:Nat) (r:List UInt8),okR r->t.drop a=bV (c.M.getD i zE)++r ->
    dV (cC t g') t a dp false=⟨c.M.getD i zE,a+(bV (c.M.getD i zE)).length,dp,false⟩:=by
   intro i hi hgk g' eg a r hr hda;obtain⟨m,n,c',e1,e2,e3,e4,e5,e6⟩:=Xf _ _ (b4m _) hgk.1;have hdk:=sf bL zE c.M i hi;have hdc:=gO c';have hms:cb c'+n<=cb (c.M.getD i zE):=by
    have w:∀ (k:Int) (n:Nat) (e:J),cb (cq k n e)>=cb e+n:=by
     intro k n;induction n with
     | zero=>intro e;exact b4h _
     | succ n ih =>
      intro e;have h1:=ih (J.mk k 0 [e]);have h2:cb [e]<cb (J.mk k 0 [e]):=dj (J.mk k 0 [e]);have h3:cb e<cb [e]:=b9 e [e] 0 (by simp);show cb (cq k n (J.mk k 0 [e]))>=_;omega
    have h1:=w 8 m (cq 5 n c');have h2:=w 5 n c';rw[<-e1] at h1;omega
   exact YN (cC t g') t a dp r _ c' m n e1 e6 (by omega) hr hda (λ r' Nc Hk=>Nh N n c' (by have:=hgk.2;omega) e2 e3 t g' a (dp+1) r' (by omega) (by omega) Nc Hk)
  rcases hk with e|e|e|e|e|e
  .rw[hx.1 e] at ht ⊢;have hp:=fX (show t.drop a=48::r from ht);have hc:=gH c 1 0 [] e (kM c h (by omega) (by omega)) (oH c h (by omega));rw[cC.eq_def];dsimp only;rw[if_pos (by rw[hp];decide),<-hc];rfl
  .rw[hx.2.1 e] at ht ⊢;have hp:=fX (show t.drop a=49::r from ht);have hc:=gH c 2 0 [] e (kM c h (by omega) (by omega)) (oH c h (by omega));rw[cC.eq_def];dsimp only;rw[if_neg (by rw[hp];decide),if_pos (by rw[hp];decide),<-hc];rfl
  .have hp:=fX (show t.drop a=116::(zS c.aN++r) by rw[ht,hx.2.2.1 e];rfl);rw[cC.eq_def];dsimp only;rw[if_neg (by rw[hp];decide),if_neg (by rw[hp];decide),if_pos (by rw[hp];decide)];exact a1M t a dp c h (.inl e) r hr ht
  .have hp:=fX (show t.drop a=97::(zS c.aN++r) by rw[ht,hx.2.2.2.1 e];rfl);rw[cC.eq_def];dsimp only;rw[if_neg (by rw[hp];decide),if_neg (by rw[hp];decide),if_pos (by rw[hp];decide)];exact a1M t a dp c h (.inr e) r hr ht
  .obtain⟨hl,k0,k1⟩:=hf.2.2.1 (.inl e);have hc:=gH c 6 0 _ e (kM c h (by omega) (by omega)) (Kb c hl);have hd0:=sf bL zE c.M 0 (by omega);have hd1:=gO (c.M.getD 0 zE);obtain⟨g,rfl⟩:∃ g',g=g'+1:=⟨g - 1,by omega⟩;rw[hx.2.2.2.2.2.1 e] at ht ⊢;have p0:t.drop a=40::(bV (c.M.getD 0 zE)++([32,43,32]++(bV (c.M.getD 1 zE)++([41]++r)))):=by rw[ht];simp
   have p1:t.drop (a+1)=bV (c.M.getD 0 zE)++([32,43,32]++(bV (c.M.getD 1 zE)++([41]++r))):=cv (w:=[40]) p0;have q1:=KZ 0 (by omega) k0 g rfl (a+1) _ (λ b l g=>by simp at g;rw[<-g.1];decide) p1;have p2:=cv p1;have p2a:t.drop (a+1+(bV (c.M.getD 0 zE)).length+1)=43::(32::(bV (c.M.getD 1 zE)++([41]++r))):=cv (w:=[32]) p2;have p2b:t.drop (a+1+(bV (c.M.getD 0 zE)).length+1+1)=32::(bV (c.M.getD 1 zE)++([41]++r)):=cv (w:=[43]) p2a;have p3:t.drop (a+1+(bV (c.M.getD 0 zE)).length+1+1+1)=bV (c.M.getD 1 zE)++([41]++r):=cv (w:=[32]) p2b;have q2:=KZ 1 (by omega) k1 g rfl _ _ (λ b l g=>by simp at g;rw[<-g.1];decide) p3;have p4:=cv p3;have hp:=fX p0;rw[cC.eq_def];dsimp only;rw[if_neg (by rw[hp];decide),if_neg (by rw[hp];decide),if_neg (by rw[hp];decide),if_neg (by rw[hp];decide),if_pos (by rw[hp];decide)];simp only[q1];unfold vI;have y1:dG t (a+1+(bV (c.M.getD 0 zE)).length) 32=_:=(sS (c:=32) p2 false).1;have y2:fK t (a+1+(bV (c.M.getD 0 zE)).length) 32 false=false:=(sS (c:=32) p2 false).2;have y3:dG t (a+1+(bV (c.M.getD 0 zE)).length+1+1) 32=_:=(sS (c:=32) p2b false).1;have y4:fK t (a+1+(bV (c.M.getD 0 zE)).length+1+1) 32 false=false:=(sS (c:=32) p2b false).2;simp only[y1,y2,y3,y4];rw[if_pos (by rw[fX p2a];decide)];unfold Ce;simp only[q2];have y5:dG t _ 41=_:=(sS (c:=41) p4 false).1;have y6:fK t _ 41 false=false:=(sS (c:=41) p4 false).2;rw[y5,y6,<-hc];simp only[RS.mk.injEq,true_and,and_true,List.length_append,List.length_cons,List.length_nil];omega
  .obtain⟨hl,k0,k1⟩:=hf.2.2.1 (.inr e);have hc:=gH c 7 0 _ e (kM c h (by omega) (by omega)) (Kb c hl);have hd0:=sf bL zE c.M 0 (by omega);have hd1:=gO (c.M.getD 0 zE);obtain⟨g,rfl⟩:∃ g',g=g'+1:=⟨g - 1,by omega⟩;rw[hx.2.2.2.2.2.2.1 e] at ht ⊢;have p0:t.drop a=40::(bV (c.M.getD 0 zE)++([32]++(bV (c.M.getD 1 zE)++([41]++r)))):=by rw[ht];simp
   have p1:t.drop (a+1)=bV (c.M.getD 0 zE)++([32]++(bV (c.M.getD 1 zE)++([41]++r))):=cv (w:=[40]) p0;have q1:=KZ 0 (by omega) k0 g rfl (a+1) _ (λ b l g=>by simp at g;rw[<-g.1];decide) p1;have p2:=cv p1;have p3:t.drop (a+1+(bV (c.M.getD 0 zE)).length+1)=bV (c.M.getD 1 zE)++([41]++r):=cv (w:=[32]) p2;have q2:=KZ 1 (by omega) k1 g rfl _ _ (λ b l g=>by simp at g;rw[<-g.1];decide) p3;have p4:=cv p3;obtain⟨b1,l1,f1,f2⟩:=VG _ k1.1;have hp:=fX p0;rw[cC.eq_def];dsimp only;rw[if_neg (by rw[hp];decide),if_neg (by rw[hp];decide),if_neg (by rw[hp];decide),if_neg (by rw[hp];decide),if_pos (by rw[hp];decide)];simp only[q1];unfold vI;have y1:dG t (a+1+(bV (c.M.getD 0 zE)).length) 32=_:=(sS (c:=32) p2 false).1;have y2:fK t (a+1+(bV (c.M.getD 0 zE)).length) 32 false=false:=(sS (c:=32) p2 false).2;simp only[y1,y2];have b2k:¬ cm t (a+1+(bV (c.M.getD 0 zE)).length+1)=43:=by
    have p3':=p3;rw[f1] at p3';rw[fX p3'];intro hh;exact f2 (UInt8.toNat_inj.1 (by simpa using Int.ofNat_inj.1 hh))
   rw[if_neg b2k];unfold Ce;simp only[q2];have y5:dG t _ 41=_:=(sS (c:=41) p4 false).1;have y6:fK t _ 41 false=false:=(sS (c:=41) p4 false).2;rw[y5,y6,<-hc];simp only[RS.mk.injEq,true_and,and_true,List.length_append,List.length_cons,List.length_nil];omega
def a5o(x:J)(h:ec x=true)(h40:bL x<=40):dV (cC (bV x) 99) (bV x) 0 0 false=⟨x,(bV x).length,0,false⟩:=by
 obtain⟨m,n,c,e1,e2,e3,e4,e5,e6⟩:=Xf _ _ (Nat.lt_succ_self _) h;have:=YN (cC (bV x) 99) (bV x) 0 0 [] x c m n e1 e6 (by omega) (λ b l g=>by cases g) (by simp) (λ r' Nc Hk=>Nh _ n c (Nat.lt_succ_self _) e2 e3 (bV x) 99 0 (0+1) r' (by omega) (by omega) Nc Hk);simpa using this
def E7(gg:aU)(x:J)(hg:bP gg=true)(h:cD gg x=true):ec x=true/\bL x<=40/\(bV x).length<=1000:=by
 rw[yq] at h;rw[Xr] at hg;rw[Ft _ (by omega),Ft _ (by omega)] at h;have ht:=JK _ _ 9 9 (by omega) (by omega) x h.1;have:=zF (cb x+1) x (b4m _) ht;exact⟨ht,h.2.2,by have:=h.2.1;omega⟩
def XA(t:List UInt8):RI:=jj (dA t 41) t 0
def zB(t:List UInt8):RS:=dV (cC t 99) t 0 0 false
def fb(gg:aU)(t:List UInt8):Bool:=(XA t).ok&&decide ((XA t).a=t.length)&&cD gg (XA t).e&&decide (bV (XA t).e=t)
def oT(gg:aU)(t:List UInt8):J:=bif fb gg t then (XA t).e else zX
def a7G(gg:aU)(t:List UInt8)(hg:bP gg=true):(!(zB t).bad&&decide ((zB t).a=t.length)&&cD gg (zB t).e)=fb gg t/\(fb gg t=true->(zB t).e=oT gg t):=by
 have up:fb gg t=true->zB t=⟨(XA t).e,t.length,0,false⟩:=by
  intro h;simp only[fb,b3A,b3v] at h;obtain⟨h1,h2,_⟩:=E7 gg _ hg h.1.2;have:=a5o _ h1 h2;rw[h.2] at this;exact this
 have down:(!(zB t).bad&&decide ((zB t).a=t.length)&&cD gg (zB t).e)=true->fb gg t=true:=by
  intro h;simp only[Bool.and_eq_true,decide_eq_true_eq,Bool.not_eq_true'] at h;obtain⟨⟨h1,h2⟩,h3⟩:=h;obtain⟨g1,g2,_⟩:=E7 gg _ hg h3;obtain⟨_,W,w1,w2⟩:=(rr (cC t 99) t 0 0 false (λ _=>E6 t 99 0 1 rfl)).ex h1;have w1':t=W++t.drop (zB t).a:=w1;rw[h2,List.drop_length,List.append_nil] at w1';have w3:t=bV (zB t).e:=w1'.trans (w2 g1);have hi:=a5n _ g1 g2;rw[<-w3] at hi;have lZ:XA t=⟨(zB t).e,true,t.length⟩:=hi;unfold fb;rw[lZ];simp only[h3,<-w3,decide_true,Bool.and_self]
 refine⟨?_,λ h=>?_⟩
 .cases hb:fb gg t
  .cases hc:(!(zB t).bad&&decide ((zB t).a=t.length)&&cD gg (zB t).e)
   .rfl
   .rw[down hc] at hb;cases hb
  .have hu:=up hb;have h3:=hb;simp only[fb,b3A] at h3;rw[hu];simp only[h3.1.2,b4j,b6O,b3z]
 .rw[up h];unfold oT;rw[h];rfl
end
end Go.Proofs.YtmjfpcajohhbeaaGreatDoor

set_option maxRecDepth 4000
set_option maxHeartbeats 4000000
namespace Go.Proofs.YtmjfpcajohhbeaaGreatDoor
noncomputable section
def b1i(t:List UInt8)(a:Nat)(s:List UInt8):(decide (s.length<=(t.drop a).length)&&decide ((t.drop a).take s.length=s))=cN t a s:=rfl
def Xz(t:List UInt8)(a:Nat)(s:List UInt8)(h:cN t a s=true):s.length+a<=t.length\/s=[]:=by
 obtain⟨r,hr⟩:=(QF t a s).1 h;have:=congrArg List.length hr;simp only[b4L,b3J] at this;cases s with
 | nil=>exact .inr rfl
 | cons b l=>left;simp only[b3G] at this ⊢;omega
def pF(t:List UInt8)(a:Int)(p:List UInt8):Int:=bif cN t a.toNat p then a+(p.length:Int) else a
def Ia(t:List UInt8)(a:Int):Int:=bif jb t a.toNat then a+1 else a
def OW(t:List UInt8)(a:Int):Int:=bif jb t a.toNat then ((t.getD a.toNat 0).toNat:Int) - 48 else 0
def a9Z:IntKind.u8.min=0:=rfl
def a9Y:IntKind.u8.max=255:=rfl
def b0q(b:UInt8):0<=(b.toNat:Int)/\(b.toNat:Int)<=255:=by have:=b.toNat_lt;omega
def fP:gl:=⟨wE,[[.d .str, .d (.int .i64)]],[.b 0, .v .str],[[.str,(.int .i64)]],λ (p:List UInt8) (t:List UInt8) (a:Int)=>⟨(some (0<=a/\a<=(t.length:Int)/\t.length<=10000/\p.length<=10/\1<=p.length),[⟨.bool,cN t a.toNat p⟩],[[⟨.str,t⟩,⟨(.int .i64),pF t a p⟩]])⟩⟩
def I2(p:List UInt8)(t:List UInt8)(a:Int):Nat->az:=bI
def pz:gl.Good fP:=by
 refine⟨ar sW,?_⟩;intro (p:List UInt8) (t:List UInt8) (a:Int) (hp:0<=a/\a<=(t.length:Int)/\t.length<=10000/\p.length<=10/\1<=p.length);refine gK [tE] [] [] [] [] [] [] [] ⟨De,ae⟩ trivial trivial trivial sW EC (I2 p t a) rfl rfl (let v1:=(t.take (Int.toNat ((t.length:Int)))).drop (Int.toNat a);let v0 := !(decide (p.length<=v1.length)&&decide (v1.take p.length=p));let v2:=(p.length:Int);((cB a ((t.length:Int)) t.length/\(t.length<=140737488355328->(O a->((v0=true->(false=(cN t a.toNat p)/\((t=t/\a=(pF t a p))/\True)))/\(v0=false->(O a->(O v2->(O (a+v2)/\(true=(cN t a.toNat p)/\((t=t/\(a+v2)=(pF t a p))/\True)))))))))))) ?_;obtain⟨h1,h2,h3,h4,h5⟩:=hp;have f0:pF t a p=bif cN t a.toNat p then a+(p.length:Int) else a:=rfl
 refine⟨?_,λ _ _=>⟨λ _=>⟨?_,⟨rfl,?_⟩,ae⟩,λ _ _ _=>⟨?_,?_,⟨rfl,?_⟩,ae⟩⟩⟩;all_goals try and_intros
 all_goals first|rfl|trivial|omega|((try simp only[b3B,b3z,b3I,b3Q,b3v,b3u] at *)<;>(try simp only[b3O,b5N,b1i,ak,cB,O] at *)<;>first|with_reducible rfl|omega|(have h1:=Xz _ _ _ (by with_reducible assumption);have h2:p.length<=10:=by omega;omega)|(rw[by with_reducible assumption];done)|(rw[show cN t a.toNat p=_ from by with_reducible assumption];rfl)|simp_all)
def kX:gl:=⟨tL,[[.d .str, .d (.int .i64)]],[.b 0],[[.str,(.int .i64)]],λ (t:List UInt8) (a:Int)=>⟨(some (0<=a/\a<=(t.length:Int)/\t.length<=10000),[⟨(.int .i64),OW t a⟩,⟨.bool,jb t a.toNat⟩],[[⟨.str,t⟩,⟨(.int .i64),Ia t a⟩]])⟩⟩
def Hv(t:List UInt8)(a:Int):Nat->az:=bI
abbrev ph(t:List UInt8)(a:Int):Prop:=(let v1:=a+(1:Int);let v0:=(((t.getD (Int.toNat (v1 - (1:Int))) 0).toNat:Int)) - (48:Int);(O a ->
 (O v1/\(O (v1 - (1:Int))/\(t.length<=140737488355328 ->
 (O v1 ->
 (ak (v1 - (1:Int)) t.length/\(bS .u8 v0/\(O v0/\((v0=(OW t a)/\true=(jb t a.toNat))/\((t=t/\v1=(Ia t a))/\True)))))))))))
abbrev pj(t:List UInt8)(a:Int):Prop:=(let v0:=decide ((((t.getD (Int.toNat a) 0).toNat:Int))<=(57:Int));(t.length<=140737488355328 ->
 (O a ->
 (ak a t.length/\((v0=true ->
 (ph t a))/\(v0=false ->
 (((0:Int)=(OW t a)/\false=(jb t a.toNat))/\((t=t/\a=(Ia t a))/\True))))))))
abbrev pk(t:List UInt8)(a:Int):Prop:=((false=true ->
 (ph t a))/\(false=false ->
 (((0:Int)=(OW t a)/\false=(jb t a.toNat))/\((t=t/\a=(Ia t a))/\True))))
def Cg:gl.Good kX:=by
 refine⟨ar qO,?_⟩;intro (t:List UInt8) (a:Int) (hp:0<=a/\a<=(t.length:Int)/\t.length<=10000);refine gK [] [] [] [] [] [] [] [] trivial trivial trivial trivial qO CS (Hv t a) rfl rfl (let v0:=(t.length:Int);let v1:=decide ((48:Int)<=(((t.getD (Int.toNat a) 0).toNat:Int)));((((decide (a<v0))=true->(ak a t.length/\((v1=true->(O a->(t.length<=140737488355328->(O v0->(t.length<=140737488355328->(O a->(pj t a)))))))/\(v1=(!true)->(O a->(t.length<=140737488355328->(O v0->(t.length<=140737488355328->(O a->(pk t a))))))))))/\((decide (a<v0))=(!true)->((false=true->(O a->(t.length<=140737488355328->(O v0->(pj t a)))))/\(false=(!true)->(O a->(t.length<=140737488355328->(O v0->(pk t a)))))))))) ?_;obtain⟨h1,h2,h3⟩:=hp;have f1:=b0q (t.getD a.toNat 0);have f3:Ia t a=bif jb t a.toNat then a+1 else a:=rfl
 have f4:OW t a=bif jb t a.toNat then ((t.getD a.toNat 0).toNat:Int) - 48 else 0:=rfl
 have f2:jb t a.toNat=(decide (a.toNat<t.length)&&decide (48<=(t.getD a.toNat 0).toNat)&&decide ((t.getD a.toNat 0).toNat<=57)):=rfl;refine⟨λ _=>⟨?_,λ _ _ _ _ _ _ _ _=>⟨?_,λ _ _=>⟨?_,?_,λ _ _=>⟨?_,?_,?_,⟨?_,?_⟩,⟨rfl,?_⟩,ae⟩⟩,λ _=>⟨⟨?_,?_⟩,⟨rfl,?_⟩,ae⟩⟩,λ _ _ _ _ _ _=>⟨λ _ _=>⟨?_,?_,λ _ _=>⟨?_,?_,?_,⟨?_,?_⟩,⟨rfl,?_⟩,ae⟩⟩,λ _=>⟨⟨?_,?_⟩,⟨rfl,?_⟩,ae⟩⟩⟩,λ _=>⟨λ _ _ _ _ _ _=>⟨?_,λ _ _=>⟨?_,?_,λ _ _=>⟨?_,?_,?_,⟨?_,?_⟩,⟨rfl,?_⟩,ae⟩⟩,λ _=>⟨⟨?_,?_⟩,⟨rfl,?_⟩,ae⟩⟩,λ _ _ _ _=>⟨λ _ _=>⟨?_,?_,λ _ _=>⟨?_,?_,?_,⟨?_,?_⟩,⟨rfl,?_⟩,ae⟩⟩,λ _=>⟨⟨?_,?_⟩,⟨rfl,?_⟩,ae⟩⟩⟩⟩;all_goals try and_intros
 all_goals first|rfl|trivial|omega|(simp only[decide_eq_true_eq,decide_eq_false_iff_not,ak,O,a9Z,a9Y] at *;first|omega|grind [jb])|grind [jb,a9Z,a9Y]
def nE(t:List UInt8)(a:Int):Nat:=cI 126 (t.drop a.toNat)
def rE(t:List UInt8)(d a:Int):RI:=dA t (d+1).toNat (a.toNat+nE t a)
def mE(t:List UInt8)(d a:Int):Nat:=cI 42 (t.drop (rE t d a).a)
def xE(t:List UInt8)(d a:Int):RI:=jj (dA t (d+1).toNat) t a.toNat
def a4j(c:UInt8):∀ l:List UInt8,cI c l<=l.length
 | []=>b4h _
 | b::l=>by
  have:=a4j c l;unfold cI;split<;>simp<;>omega
def JQ(c:UInt8)(t:List UInt8)(a:Nat)(h:a<=t.length):a+cI c (t.drop a)<=t.length:=by
 have:=a4j c (t.drop a);simp only[b4L] at this;omega
def ku(t:List UInt8)(a:Nat)(c:UInt8)(s:List UInt8)(h:cN t a (c::s)=true):a+(c::s).length<=t.length:=by
 rcases Xz t a _ h with g|g
 .omega
 .cases g
def YL(core:Nat->RI)(t:List UInt8)(hc:∀ a,a<=t.length->(core a).a<=t.length)(a:Nat)(h:a<=t.length):(jj core t a).a<=t.length:=by
 have h1:=JQ 126 t a h;have h2:=hc _ h1;have h3:=JQ 42 t _ h2;unfold jj;split
 .exact h1
 .split
  .show (core (a+cI 126 (t.drop a))).a+42<=t.length;omega
  .exact h3
def Za(k:Int)(t:List UInt8)(a:Nat)(h:a<=t.length):(sd k t a).a<=t.length:=by
 unfold sd;cases e:jb t a
 .exact h
 .simp only[jb,b3A,b3v] at e;show a+1<=t.length;omega
def Zl(k:Int)(t:List UInt8)(x y:RI)(h:y.a<=t.length):(qE k t x y).a<=t.length:=by
 unfold qE;cases e:x.ok&&y.ok&&cN t y.a [41]
 .exact h
 .simp only[Bool.and_eq_true] at e;have:=ku t _ 41 [] e.2;simpa using this
def Q5(t:List UInt8):∀ (D a:Nat),a<=t.length->(dA t D a).a<=t.length
 | 0,a,h=>h
 | D+1,a,h=>by
  have hx:∀ a,a<=t.length->(jj (dA t D) t a).a<=t.length:=YL (dA t D) t (Q5 t D);unfold dA;split
  .rename_i e;exact ku t a 48 [] e
  .split
   .rename_i e;exact ku t a 49 [] e
   .split
    .rename_i e;exact Za 3 t _ (ku t a 116 [] e)
    .split
     .rename_i e;exact Za 4 t _ (ku t a 97 [] e)
     .split
      .exact h
      .rename_i e;have e':cN t a [40]=true:=by simpa using e
       have h1:=hx _ (ku t a 40 [] e');split
       .rename_i e2;exact Zl 6 t _ _ (hx _ (ku t _ 32 [43,32] e2))
       .split
        .rename_i e2;exact Zl 7 t _ _ (hx _ (ku t _ 32 [] e2))
        .exact h1
def a3Z(t:List UInt8)(d a:Int)(h0:0<=a)(h:a<=(t.length:Int)):((xE t d a).a:Int)<=(t.length:Int):=by
 have:=YL (dA t (d+1).toNat) t (Q5 t _) a.toNat (by omega);unfold xE;omega
def a5b(t:List UInt8)(a:Int)(p:List UInt8)(h0:0<=a):0<=pF t a p:=by
 unfold pF;cases cN t a.toNat p<;>simp<;>omega
def a5c(t:List UInt8)(a:Int)(p:List UInt8)(h0:0<=a)(h:a<=(t.length:Int)):pF t a p<=(t.length:Int):=by
 unfold pF;cases e:cN t a.toNat p
 .exact h
 .rcases Xz t _ p e with g|g
  .simp only[b6K];omega
  .subst g;simpa using h
def OV(t:List UInt8)(a:Int)(h0:0<=a):0<=Ia t a:=by
 unfold Ia;cases jb t a.toNat<;>simp<;>omega
def UA(t:List UInt8)(a:Int)(h0:0<=a)(h:a<=(t.length:Int)):Ia t a<=(t.length:Int):=by
 unfold Ia;cases e:jb t a.toNat
 .exact h
 .simp only[jb,b3A,b3v] at e;simp only[b6K];omega
def a2R(t:List UInt8)(d a:Int)(h:d<0)(ha:0<=a):(dA t (d+1).toNat a.toNat).e=zX/\(dA t (d+1).toNat a.toNat).ok=false/\((dA t (d+1).toNat a.toNat).a:Int)=a:=by
 rw[show (d+1).toNat=0 by omega];exact⟨rfl,rfl,by show ((a.toNat:Nat):Int)=a;omega⟩
def C2(t:List UInt8)(d a:Int)(h:¬ d<0)(ha:0<=a):dA t (d+1).toNat a.toNat =
  if cN t a.toNat [48]=true then ⟨J.mk 1 0 [],true,a.toNat+1⟩ else if cN t a.toNat [49]=true then ⟨J.mk 2 0 [],true,a.toNat+1⟩ else
  if cN t a.toNat [116]=true then sd 3 t (a+1).toNat else if cN t a.toNat [97]=true then sd 4 t (a+1).toNat else if cN t a.toNat [40]=false then ⟨zX,false,a.toNat⟩ else
  if cN t (xE t (d - 1) (a+1)).a [32,43,32]=true then qE 6 t (xE t (d - 1) (a+1)) (xE t (d - 1) (((xE t (d - 1) (a+1)).a:Int)+3)) else
  if cN t (xE t (d - 1) (a+1)).a [32]=true then qE 7 t (xE t (d - 1) (a+1)) (xE t (d - 1) (((xE t (d - 1) (a+1)).a:Int)+1)) else
  ⟨zX,false,(xE t (d - 1) (a+1)).a⟩:=by
 obtain⟨D,hD⟩:∃ D:Nat,d=(D:Int):=⟨d.toNat,by omega⟩;subst hD;have e1:((D:Int)+1).toNat=D+1:=by omega
 have e2:((D:Int) - 1+1).toNat=D:=by omega
 have e3:(a+1).toNat=a.toNat+1:=by omega
 have e4:∀ n:Nat,((n:Int)+3).toNat=n+3:=λ n=>by omega
 have e5:∀ n:Nat,((n:Int)+1).toNat=n+1:=λ n=>by omega
 unfold xE;rw[e1,e2,e3];simp only[e4,e5];rw[dA]
def FA(t:List UInt8)(a:Int)(p:List UInt8)(h:cN t a.toNat p=false):pF t a p=a:=by unfold pF;rw[h];rfl
def xa(t:List UInt8)(a:Int)(c:UInt8)(h:cN t a.toNat [c]=true):pF t a [c]=a+1:=by unfold pF;rw[h];rfl
def a9e(t:List UInt8)(a:Int)(c d e:UInt8)(h:cN t a.toNat [c,d,e]=true):pF t a [c,d,e]=a+3:=by unfold pF;rw[h];rfl
def a5w(k:Int)(t:List UInt8)(a:Int)(h:0<=a):sd k t a.toNat=⟨J.mk k (OW t a) [],jb t a.toNat,(Ia t a).toNat⟩:=by
 unfold sd OW Ia;cases jb t a.toNat
 .rfl
 .simp only[b6K,RI.mk.injEq,b4u];omega
def a1Y(k:Int)(t:List UInt8)(x y:RI):(qE k t x y).e=J.mk k 0 [x.e,y.e]:=by unfold qE;cases x.ok&&y.ok&&cN t y.a [41]<;>rfl
def Zm(k:Int)(t:List UInt8)(x y:RI):(qE k t x y).ok=(x.ok&&y.ok&&cN t y.a [41]):=by unfold qE;cases x.ok&&y.ok&&cN t y.a [41]<;>rfl
def a1X(k:Int)(t:List UInt8)(x y:RI):((qE k t x y).a:Int)=bif x.ok&&y.ok then pF t (y.a:Int) [41] else (y.a:Int):=by
 unfold qE pF;rw[Int.toNat_natCast];cases x.ok<;>cases y.ok<;>cases cN t y.a [41]<;>rfl
def a1G(k:Int)(t:List UInt8)(a:Int)(h:0<=a):(sd k t (a+1).toNat).e=J.mk k (OW t (a+1)) []/\(sd k t (a+1).toNat).ok=jb t (a+1).toNat/\((sd k t (a+1).toNat).a:Int)=Ia t (a+1):=by
 rw[a5w k t (a+1) (by omega)];have:=OV t (a+1) (by omega);exact⟨rfl,rfl,by show ((Ia t (a+1)).toNat:Int)=_;omega⟩
def YE(c:UInt8):∀ (l:List UInt8) (k:Nat),k<=cI c l->(k<cI c l↔∃ r,l.drop k=c::r)
 | [],k,h=>by simp[cI]
 | b::l,k,h=>by
  unfold cI at h ⊢;split at h
  .rename_i e;rw[b4d e];cases k with
   | zero=>exact⟨λ _=>⟨l,by rw[e];rfl⟩,λ _=>by omega⟩
   | succ k =>
    have:=YE c l k (by omega);rw[b6k,<-this];omega
  .rename_i e;rw[b3H e];have hk:k=0:=by omega
   subst hk;refine⟨λ h=>by omega,λ ⟨r,hr⟩=>?_⟩;simp only[b5F,b3F] at hr;exact absurd hr.1 e
def a5d(t:List UInt8)(n k:Nat)(c:UInt8)(h:k<=cI c (t.drop n)):cN t (n+k) [c]=decide (k<cI c (t.drop n)):=by
 have h1:=YE c (t.drop n) k h;rw[b5j] at h1;rw[b5w,b3v,h1,QF];exact⟨λ ⟨r,hr⟩=>⟨r,hr⟩,λ ⟨r,hr⟩=>⟨r,hr⟩⟩
def b1k(t:List UInt8)(a:Int)(k:Nat)(ha:0<=a)(h:k<=nE t a):cN t (a+(k:Int)).toNat [126]=decide (k<nE t a):=by
 rw[show (a+(k:Int)).toNat=a.toNat+k by omega];exact a5d t a.toNat k 126 h
def b1j(t:List UInt8)(d a:Int)(k:Nat)(h:k<=mE t d a):cN t (((rE t d a).a:Int)+(k:Int)).toNat [42]=decide (k<mE t d a):=by
 rw[show (((rE t d a).a:Int)+(k:Int)).toNat=(rE t d a).a+k by omega];exact a5d t _ k 42 h
def a7z(t:List UInt8)(a:Int)(h0:0<=a)(h:a<=(t.length:Int)):a+(nE t a:Int)<=(t.length:Int):=by
 have:=JQ 126 t a.toNat (by omega);unfold nE;omega
def b0Z(t:List UInt8)(d a:Int)(h0:0<=a)(h:a<=(t.length:Int)):((rE t d a).a:Int)+(mE t d a:Int)<=(t.length:Int):=by
 have h1:=a7z t a h0 h;have h2:=Q5 t (d+1).toNat (a.toNat+nE t a) (by omega);have h3:=JQ 42 t _ h2;have:(rE t d a).a+mE t d a<=t.length:=h3;omega
def a7F(t:List UInt8)(d a:Int)(ha:0<=a):dA t (d+1).toNat (a+(nE t a:Int)).toNat=rE t d a:=by
 rw[show (a+(nE t a:Int)).toNat=a.toNat+nE t a by omega];rfl
def a3Y(t:List UInt8)(d a:Int):xE t d a=if 40<nE t a then ⟨zX,false,a.toNat+nE t a⟩ else if 41<mE t d a then ⟨zX,false,(rE t d a).a+42⟩ else
  ⟨cq 8 (mE t d a) (cq 5 (nE t a) (rE t d a).e),(rE t d a).ok,(rE t d a).a+mE t d a⟩:=rfl
def a8m(t:List UInt8)(d a:Int)(ha:0<=a)(h:40<nE t a):(xE t d a).e=zX/\(xE t d a).ok=false/\((xE t d a).a:Int)=a+(nE t a:Int):=by
 rw[a3Y,b4d h];exact⟨rfl,rfl,by show ((a.toNat+nE t a:Nat):Int)=_;omega⟩
def a6c(t:List UInt8)(d a:Int)(h:¬ 40<nE t a)(h2:41<mE t d a):(xE t d a).e=zX/\(xE t d a).ok=false/\((xE t d a).a:Int)=((rE t d a).a:Int)+42:=by
 rw[a3Y,b3H h,b4d h2];exact⟨rfl,rfl,rfl⟩
def a8l(t:List UInt8)(d a:Int)(h:¬ 40<nE t a)(h2:¬ 41<mE t d a):(xE t d a).e=cq 8 (mE t d a) (cq 5 (nE t a) (rE t d a).e)/\(xE t d a).ok=(rE t d a).ok/\((xE t d a).a:Int)=((rE t d a).a:Int)+(mE t d a:Int):=by
 rw[a3Y,b3H h,b3H h2];exact⟨rfl,rfl,rfl⟩
structure is3(r:RI)(e:J)(ok:Bool)(a:Int):Prop where
 e:r.e=e
 ok:r.ok=ok
 a:(r.a:Int)=a
def BL(t:List UInt8)(d a:Int):RI:=dA t (d+1).toNat a.toNat
def a8t(t:List UInt8)(d a:Int)(h:d<0)(ha:0<=a):is3 (BL t d a) zX false a:=by
 obtain⟨h1,h2,h3⟩:=a2R t d a h ha;exact⟨h1,h2,h3⟩
def b1I(t:List UInt8)(d a:Int)(h:¬ d<0)(ha:0<=a)(h1:cN t a.toNat [48]=true):is3 (BL t d a) (J.mk 1 0 []) true (a+1):=by
 unfold BL;rw[C2 t d a h ha,if_pos h1];exact⟨rfl,rfl,by show ((a.toNat+1:Nat):Int)=_;omega⟩
def b1J(t:List UInt8)(d a:Int)(h:¬ d<0)(ha:0<=a)(h1:cN t a.toNat [48]=false)(h2:cN t a.toNat [49]=true):is3 (BL t d a) (J.mk 2 0 []) true (a+1):=by
 unfold BL;rw[C2 t d a h ha,if_neg (by rw[h1];decide),if_pos h2];exact⟨rfl,rfl,by show ((a.toNat+1:Nat):Int)=_;omega⟩
def b0s(t:List UInt8)(d a:Int)(h:¬ d<0)(ha:0<=a)(h1:cN t a.toNat [48]=false)(h2:cN t a.toNat [49]=false)(h3:cN t a.toNat [116]=true):is3 (BL t d a) (J.mk 3 (OW t (a+1)) []) (jb t (a+1).toNat) (Ia t (a+1)):=by
 unfold BL;rw[C2 t d a h ha,if_neg (by rw[h1];decide),if_neg (by rw[h2];decide),if_pos h3];obtain⟨g1,g2,g3⟩:=a1G 3 t a ha;exact⟨g1,g2,g3⟩
def b1K(t:List UInt8)(d a:Int)(h:¬ d<0)(ha:0<=a)(h1:cN t a.toNat [48]=false)(h2:cN t a.toNat [49]=false)(h3:cN t a.toNat [116]=false)(h4:cN t a.toNat [97]=true):is3 (BL t d a) (J.mk 4 (OW t (a+1)) []) (jb t (a+1).toNat) (Ia t (a+1)):=by
 unfold BL;rw[C2 t d a h ha,if_neg (by rw[h1];decide),if_neg (by rw[h2];decide),if_neg (by rw[h3];decide),if_pos h4];obtain⟨g1,g2,g3⟩:=a1G 4 t a ha;exact⟨g1,g2,g3⟩
def b1L(t:List UInt8)(d a:Int)(h:¬ d<0)(ha:0<=a)(h1:cN t a.toNat [48]=false)(h2:cN t a.toNat [49]=false)(h3:cN t a.toNat [116]=false)(h4:cN t a.toNat [97]=false)(h5:cN t a.toNat [40]=false):is3 (BL t d a) zX false a:=by
 unfold BL;rw[C2 t d a h ha,if_neg (by rw[h1];decide),if_neg (by rw[h2];decide),if_neg (by rw[h3];decide),if_neg (by rw[h4];decide),if_pos h5];exact⟨rfl,rfl,by show ((a.toNat:Nat):Int)=_;omega⟩
def prP(t:List UInt8)(x y:RI):Int:=bif x.ok&&y.ok then pF t (y.a:Int) [41] else (y.a:Int)
def UJ(t:List UInt8)(x y:RI)(h:x.ok=false\/y.ok=false):prP t x y=(y.a:Int):=by unfold prP;rcases h with h|h<;>rw[h]<;>simp
def a4O(t:List UInt8)(x y:RI)(h:x.ok=true)(h':y.ok=true):prP t x y=pF t (y.a:Int) [41]:=by unfold prP;rw[h,h'];rfl
def b1H(t:List UInt8)(d a:Int)(h:¬ d<0)(ha:0<=a)(h1:cN t a.toNat [48]=false)(h2:cN t a.toNat [49]=false)(h3:cN t a.toNat [116]=false)(h4:cN t a.toNat [97]=false)(h5:cN t a.toNat [40]=true)(X:RI)(hX:X=xE t (d - 1) (a+1)) :
  (cN t X.a [32,43,32]=true->is3 (BL t d a) (J.mk 6 0 [X.e,(xE t (d - 1) ((X.a:Int)+3)).e]) (X.ok&&(xE t (d - 1) ((X.a:Int)+3)).ok&&cN t (xE t (d - 1) ((X.a:Int)+3)).a [41]) (prP t X (xE t (d - 1) ((X.a:Int)+3)))) /\
  (cN t X.a [32,43,32]=false->cN t X.a [32]=true->is3 (BL t d a) (J.mk 7 0 [X.e,(xE t (d - 1) ((X.a:Int)+1)).e]) (X.ok&&(xE t (d - 1) ((X.a:Int)+1)).ok&&cN t (xE t (d - 1) ((X.a:Int)+1)).a [41]) (prP t X (xE t (d - 1) ((X.a:Int)+1)))) /\
  (cN t X.a [32,43,32]=false->cN t X.a [32]=false->is3 (BL t d a) zX false (X.a:Int)):=by
 unfold BL;rw[C2 t d a h ha,if_neg (by rw[h1];decide),if_neg (by rw[h2];decide),if_neg (by rw[h3];decide),if_neg (by rw[h4];decide),if_neg (by rw[h5];decide),<-hX];refine⟨λ e=>?_,λ e e'=>?_,λ e e'=>?_⟩
 .rw[b4d e];exact⟨a1Y _ _ _ _,Zm _ _ _ _,a1X _ _ _ _⟩
 .rw[b3H (by rw[e];decide),b4d e'];exact⟨a1Y _ _ _ _,Zm _ _ _ _,a1X _ _ _ _⟩
 .rw[b3H (by rw[e];decide),b3H (by rw[e'];decide)];exact⟨rfl,rfl,rfl⟩
def gX(n:Nat):gl:=⟨wD,[[.d .str, .d (.int .i64)]],[.b 0, .v (.int .i64)],[[.str,(.int .i64)]],λ (d:Int) (t:List UInt8) (a:Int)=>⟨(some (2 * (d+1).toNat<n/\0<=a/\a<=(t.length:Int)/\t.length<=10000 /\ -1<=d/\d<=40),[⟨(.st .expr),(BL t d a).e⟩,⟨.bool,(BL t d a).ok⟩],[[⟨.str,t⟩,⟨(.int .i64),((BL t d a).a:Int)⟩]])⟩⟩
def gY(n:Nat):gl:=⟨nK,[[.d .str, .d (.int .i64)]],[.b 0, .v (.int .i64)],[[.str,(.int .i64)]],λ (d:Int) (t:List UInt8) (a:Int)=>⟨(some (2 * (d+1).toNat+1<n/\0<=a/\a<=(t.length:Int)/\t.length<=10000 /\ -1<=d/\d<=40),[⟨(.st .expr),(xE t d a).e⟩,⟨.bool,(xE t d a).ok⟩],[[⟨.str,t⟩,⟨(.int .i64),((xE t d a).a:Int)⟩]])⟩⟩
def tG:gl:=⟨nK,[[.d .str, .d (.int .i64)]],[.b 0, .v (.int .i64)],[[.str,(.int .i64)]],λ (d:Int) (t:List UInt8) (a:Int)=>⟨(some (0<=a/\a<=(t.length:Int)/\t.length<=10000 /\ -1<=d/\d<=40),[⟨(.st .expr),(xE t d a).e⟩,⟨.bool,(xE t d a).ok⟩],[[⟨.str,t⟩,⟨(.int .i64),((xE t d a).a:Int)⟩]])⟩⟩
def I0(d:Int)(t:List UInt8)(a:Int):Nat->az:=bI
def HC(n:Nat)(hE:bD [])(hO:hJ [B4,nT])(hM:jF [])(hS:im [fP,kX,gY n]):gl.Good (gX (n+1)):=by
 refine⟨ar lJ,?_⟩;intro (d:Int) (t:List UInt8) (a:Int) (hp:2 * (d+1).toNat<n+1/\0<=a/\a<=(t.length:Int)/\t.length<=10000 /\ -1<=d/\d<=40);refine gK [] [B4,nT] [] [fP,kX,gY n] [22,26,36,47,57,70,76,77] [] [] [] hE hO hM hS lJ EA (I0 d t a) rfl rfl (let v5:=d - (1:Int);let v6:=BL t d a;let va:=(t.length:Int);let vd:=(v6.a:Int);let vh:=pF t a ([48]);let vc:=pF t vh ([49]);let v2:=pF t vc ([116]);let v8:=pF t v2 ([97]);let vk:=[32,43,32];let vm:=pF t v8 ([40]);let v0:=xE t v5 vm;let vj:=(v0.a:Int);let v1:=pF t vj vk;let ve:=((xE t v5 v1).a:Int);let vf:=aI (J.mk (6:Int) 0 ([(aI (v0.e)),(aI ((xE t v5 v1).e))]));let vn:=pF t v1 ([32]);let v7:=xE t v5 vn;let vg:=aI (J.mk (7:Int) 0 ([(aI (v0.e)),(aI (v7.e))]));let vl:=(v7.a:Int);let vo:=v6.ok;let v3:=(0<=vl/\vl<=va/\t.length<=10000/\([41]).length<=10/\1<=([41]).length)/\((vg=(v6.e)/\(cN t vl.toNat ([41]))=vo)/\((t=t/\(pF t vl ([41]))=vd)/\True));let v4:=(0<=ve/\ve<=va/\t.length<=10000/\([41]).length<=10/\1<=([41]).length)/\((vf=(v6.e)/\(cN t ve.toNat ([41]))=vo)/\((t=t/\(pF t ve ([41]))=vd)/\True));let v9:=(vf=(v6.e)/\false=vo)/\((t=t/\ve=vd)/\True);let vb:=(vg=(v6.e)/\false=vo)/\((t=t/\vl=vd)/\True);let vi:=zE=(v6.e)/\false=vo;((((decide (d<(0:Int)))=true->(vi/\((t=t/\a=vd)/\True)))/\((decide (d<(0:Int)))=false->((0<=a/\a<=va/\t.length<=10000/\([48]).length<=10/\1<=([48]).length)/\(((cN t a.toNat ([48]))=true->(((aI (J.mk (1:Int) (0:Int) []))=(v6.e)/\true=vo)/\((t=t/\vh=vd)/\True)))/\((cN t a.toNat ([48]))=false->((0<=vh/\vh<=va/\t.length<=10000/\([49]).length<=10/\1<=([49]).length)/\(((cN t vh.toNat ([49]))=true->(((aI (J.mk (2:Int) (0:Int) []))=(v6.e)/\true=vo)/\((t=t/\vc=vd)/\True)))/\((cN t vh.toNat ([49]))=false->((0<=vc/\vc<=va/\t.length<=10000/\([116]).length<=10/\1<=([116]).length)/\(((cN t vc.toNat ([116]))=true->((0<=v2/\v2<=va/\t.length<=10000)/\(O (OW t v2)->(((aI (J.mk (3:Int) (OW t v2) []))=(v6.e)/\(jb t v2.toNat)=vo)/\((t=t/\(Ia t v2)=vd)/\True)))))/\((cN t vc.toNat ([116]))=false->((0<=v2/\v2<=va/\t.length<=10000/\([97]).length<=10/\1<=([97]).length)/\(((cN t v2.toNat ([97]))=true->((0<=v8/\v8<=va/\t.length<=10000)/\(O (OW t v8)->(((aI (J.mk (4:Int) (OW t v8) []))=(v6.e)/\(jb t v8.toNat)=vo)/\((t=t/\(Ia t v8)=vd)/\True)))))/\((cN t v2.toNat ([97]))=false->((0<=v8/\v8<=va/\t.length<=10000/\([40]).length<=10/\1<=([40]).length)/\(((!(cN t v8.toNat ([40])))=true->(vi/\((t=t/\vm=vd)/\True)))/\((!(cN t v8.toNat ([40])))=false->(O v5/\((2 * (v5+1).toNat+1<n/\0<=vm/\vm<=va/\t.length<=10000 /\ -1<=v5/\v5<=40)/\((0<=vj/\vj<=va/\t.length<=10000/\vk.length<=10/\1<=vk.length)/\(((cN t vj.toNat vk)=true->(O v5/\((2 * (v5+1).toNat+1<n/\0<=v1/\v1<=va/\t.length<=10000 /\ -1<=v5/\v5<=40)/\(((v0.ok)=true->((((xE t v5 v1).ok)=true->v4)/\(((xE t v5 v1).ok)=(!true)->v9)))/\((v0.ok)=(!true)->((false=true->v4)/\(false=(!true)->v9)))))))/\((cN t vj.toNat vk)=false->((0<=v1/\v1<=va/\t.length<=10000/\([32]).length<=10/\1<=([32]).length)/\(((!(cN t v1.toNat ([32])))=true->(vi/\((t=t/\vn=vd)/\True)))/\((!(cN t v1.toNat ([32])))=false->(O v5/\((2 * (v5+1).toNat+1<n/\0<=vn/\vn<=va/\t.length<=10000 /\ -1<=v5/\v5<=40)/\(((v0.ok)=true->(((v7.ok)=true->v3)/\((v7.ok)=(!true)->vb)))/\((v0.ok)=(!true)->((false=true->v3)/\(false=(!true)->vb))))))))))))))))))))))))))))))))) ?_;obtain⟨hm,h0,h1,h2,h3,h4⟩:=hp;by_cases hd:d<0
 .obtain⟨q1,q2,q3⟩:=a8t t d a hd h0;simp only[b4k hd,q1,q2,q3,b4j,b4f,b3B,b3z,b3D,b3C,b3V,b3W,b4b,b4g,b3L,b4u,b3O,O,aJ];repeat' (first|intro _|apply And.intro)
  all_goals first|exact True.intro|omega|with_reducible rfl|decide
 .have Hk:=b3K hd;rcases b4w (cN t a.toNat [48]) with BM|BM
  .have k:=ku t a.toNat 48 [] BM;simp only[b3G,b3T] at k;obtain⟨q1,q2,q3⟩:=b1I t d a hd h0 BM;have b1:=OV t (a+1) (by omega);have b2:=UA t (a+1) (by omega) (by omega);simp only[Hk,BM,xa t a 48 BM,q1,q2,q3,b4j,b4f,b3B,b3z,b3D,b3C,b3V,b3W,b4b,b4g,b3L,b4u,b3O,O,aJ];repeat' (first|intro _|apply And.intro)
   all_goals first|exact True.intro|omega|with_reducible rfl|decide
  .have f48:=FA t a [48] BM;rcases b4w (cN t a.toNat [49]) with EM|EM
   .have k:=ku t a.toNat 49 [] EM;simp only[b3G,b3T] at k;obtain⟨q1,q2,q3⟩:=b1J t d a hd h0 BM EM;have b1:=OV t (a+1) (by omega);have b2:=UA t (a+1) (by omega) (by omega);simp only[Hk,BM,f48,EM,xa t a 49 EM,q1,q2,q3,b4j,b4f,b3B,b3z,b3D,b3C,b3V,b3W,b4b,b4g,b3L,b4u,b3O,O,aJ];repeat' (first|intro _|apply And.intro)
    all_goals first|exact True.intro|omega|with_reducible rfl|decide
   .have f49:=FA t a [49] EM;rcases b4w (cN t a.toNat [116]) with wa|wa
    .have k:=ku t a.toNat 116 [] wa;simp only[b3G,b3T] at k;obtain⟨q1,q2,q3⟩:=b0s t d a hd h0 BM EM wa;have b1:=OV t (a+1) (by omega);have b2:=UA t (a+1) (by omega) (by omega);simp only[Hk,BM,f48,EM,f49,wa,xa t a 116 wa,q1,q2,q3,b4j,b4f,b3B,b3z,b3D,b3C,b3V,b3W,b4b,b4g,b3L,b4u,b3O,O,aJ];repeat' (first|intro _|apply And.intro)
     all_goals first|exact True.intro|omega|with_reducible rfl|decide
    .have f116:=FA t a [116] wa;rcases b4w (cN t a.toNat [97]) with OX|OX
     .have k:=ku t a.toNat 97 [] OX;simp only[b3G,b3T] at k;obtain⟨q1,q2,q3⟩:=b1K t d a hd h0 BM EM wa OX;have b1:=OV t (a+1) (by omega);have b2:=UA t (a+1) (by omega) (by omega);simp only[Hk,BM,f48,EM,f49,wa,f116,OX,xa t a 97 OX,q1,q2,q3,b4j,b4f,b3B,b3z,b3D,b3C,b3V,b3W,b4b,b4g,b3L,b4u,b3O,O,aJ];repeat' (first|intro _|apply And.intro)
      all_goals first|exact True.intro|omega|with_reducible rfl|decide
     .have f97:=FA t a [97] OX;rcases b4w (cN t a.toNat [40]) with Vw|Vw
      .have k:=ku t a.toNat 40 [] Vw;simp only[b3G,b3T] at k;have g1:=xa t a 40 Vw;have b1:=a3Z t (d - 1) (a+1) (by omega) (by omega);obtain⟨p1,p2,p3⟩:=b1H t d a hd h0 BM EM wa OX Vw _ rfl;simp only[Hk,BM,f48,EM,f49,wa,f116,OX,f97,Vw,g1,b4j,b4f,b3B,b3z,b3D,b3C,b3V,b3W,b4b,b4g,b3L,b4u,b3O,O,aJ];generalize xE t (d - 1) (a+1)=X at *
       rcases b4w (cN t X.a [32,43,32]) with eS|eS
       .skip;have k2:=ku t _ 32 [43,32] eS;simp only[b3G,b3T] at k2;have g2:=a9e t (X.a:Int) 32 43 32 (by rw[b3O];exact eS);obtain⟨q1,q2,q3⟩:=p1 eS;have b2:=a3Z t (d - 1) ((X.a:Int)+3) (by omega) (by omega);simp only[eS,g2,q1,q2,q3,b4j,b4f,b3B,b3z,b3D,b3C,b3V,b3W,b4b,b4g,b3L,b4u,b3O,O,aJ];generalize xE t (d - 1) ((X.a:Int)+3)=Y at *
        have b3:=a5b t (Y.a:Int) [41] (by omega);have b4:=a5c t (Y.a:Int) [41] (by omega) b2;rcases b4w X.ok with x1|x1
        .rcases b4w Y.ok with y1|y1
         .simp only[x1,y1,a4O t X Y x1 y1,b5f,b4F,b6O,b4j,b4f,b3B,b3z,b3D,b3C,b3V,b3W,b4b,b4g,b3L,b4u,b3O,O,aJ];repeat' (first|intro _|apply And.intro)
          all_goals first|exact True.intro|omega|with_reducible rfl|decide
         .simp only[x1,y1,UJ t X Y (.inr y1),b5f,b4F,b4U,b4P,b4j,b4f,b3B,b3z,b3D,b3C,b3V,b3W,b4b,b4g,b3L,b4u,b3O,O,aJ];repeat' (first|intro _|apply And.intro)
          all_goals first|exact True.intro|omega|with_reducible rfl|decide
        .simp only[x1,UJ t X Y (.inl x1),b5f,b4F,b4U,b4P,b4j,b4f,b3B,b3z,b3D,b3C,b3V,b3W,b4b,b4g,b3L,b4u,b3O,O,aJ];repeat' (first|intro _|apply And.intro)
         all_goals first|exact True.intro|omega|with_reducible rfl|decide
       .have g3:=FA t (X.a:Int) [32,43,32] (by rw[b3O];exact eS);rcases b4w (cN t X.a [32]) with eD|eD
        .skip;have k2:=ku t _ 32 [] eD;simp only[b3G,b3T] at k2;have g2:=xa t (X.a:Int) 32 (by rw[b3O];exact eD);obtain⟨q1,q2,q3⟩:=p2 eS eD;have b2:=a3Z t (d - 1) ((X.a:Int)+1) (by omega) (by omega);simp only[eD,eS,g3,g2,q1,q2,q3,b4j,b4f,b3B,b3z,b3D,b3C,b3V,b3W,b4b,b4g,b3L,b4u,b3O,O,aJ];generalize xE t (d - 1) ((X.a:Int)+1)=Y at *
         have b3:=a5b t (Y.a:Int) [41] (by omega);have b4:=a5c t (Y.a:Int) [41] (by omega) b2;rcases b4w X.ok with x1|x1
         .rcases b4w Y.ok with y1|y1
          .simp only[x1,y1,a4O t X Y x1 y1,b5f,b4F,b6O,b4j,b4f,b3B,b3z,b3D,b3C,b3V,b3W,b4b,b4g,b3L,b4u,b3O,O,aJ];repeat' (first|intro _|apply And.intro)
           all_goals first|exact True.intro|omega|with_reducible rfl|decide
          .simp only[x1,y1,UJ t X Y (.inr y1),b5f,b4F,b4U,b4P,b4j,b4f,b3B,b3z,b3D,b3C,b3V,b3W,b4b,b4g,b3L,b4u,b3O,O,aJ];repeat' (first|intro _|apply And.intro)
           all_goals first|exact True.intro|omega|with_reducible rfl|decide
         .simp only[x1,UJ t X Y (.inl x1),b5f,b4F,b4U,b4P,b4j,b4f,b3B,b3z,b3D,b3C,b3V,b3W,b4b,b4g,b3L,b4u,b3O,O,aJ];repeat' (first|intro _|apply And.intro)
          all_goals first|exact True.intro|omega|with_reducible rfl|decide
        .have g4:=FA t (X.a:Int) [32] (by rw[b3O];exact eD);obtain⟨q1,q2,q3⟩:=p3 eS eD;simp only[eS,eD,g3,g4,q1,q2,q3,b4j,b4f,b3B,b3z,b3D,b3C,b3V,b3W,b4b,b4g,b3L,b4u,b3O,O,aJ];repeat' (first|intro _|apply And.intro)
         all_goals first|exact True.intro|omega|with_reducible rfl|decide
      .have f40:=FA t a [40] Vw;obtain⟨q1,q2,q3⟩:=b1L t d a hd h0 BM EM wa OX Vw;simp only[Hk,BM,f48,EM,f49,wa,f116,OX,f97,Vw,f40,q1,q2,q3,b4j,b4f,b3B,b3z,b3D,b3C,b3V,b3W,b4b,b4g,b3L,b4u,b3O,O,aJ];repeat' (first|intro _|apply And.intro)
       all_goals first|exact True.intro|omega|with_reducible rfl|decide
def I1(d:Int)(t:List UInt8)(a:Int):Nat->az:=(cP 0 (.a (Nat) (λ k=>k<=nE t a) (λ k=>nE t a - k) [5] (λ k=>[(6, .aF ⟨(.int .i64),((k:Int):Int)⟩)]) [4] (λ k=>[(400000, .box [.aF ⟨.str,(t:List UInt8)⟩, .aF ⟨(.int .i64),(a+(k:Int):Int)⟩])])) (cP 2 (.a (Nat) (λ j=>j<=nE t a/\nE t a<=40) (λ j=>nE t a - j) [1,10,11,14,15,17,18,19,20,21,22] (λ j=>[(6, .aF ⟨(.int .i64),((nE t a:Int) - (j:Int):Int)⟩)]) [4,400000] (λ j=>[(7, .box [.aF ⟨(.int .i64),((cq 5 j (rE t d a).e).aq:Int)⟩, .aF ⟨(.int .i64),((cq 5 j (rE t d a).e).aN:Int)⟩, .aw 7100]),(7100, .aw (.st .expr) ((cq 5 j (rE t d a).e).M:List J))])) (cP 4 (.a (Nat) (λ m=>m<=mE t d a/\m<=41/\nE t a<=40) (λ m=>mE t d a - m) [6,23,24] (λ m=>[(9, .aF ⟨(.int .i64),((m:Int):Int)⟩)]) [4] (λ m=>[(400000, .box [.aF ⟨.str,(t:List UInt8)⟩, .aF ⟨(.int .i64),(((rE t d a).a:Int)+(m:Int):Int)⟩]),(7, .box [.aF ⟨(.int .i64),((cq 8 m (cq 5 (nE t a) (rE t d a).e)).aq:Int)⟩, .aF ⟨(.int .i64),((cq 8 m (cq 5 (nE t a) (rE t d a).e)).aN:Int)⟩, .aw 7200]),(7200, .aw (.st .expr) ((cq 8 m (cq 5 (nE t a) (rE t d a).e)).M:List J))])) bI)))
def HD(n:Nat)(hE:bD [])(hO:hJ [nT])(hM:jF [])(hS:im [fP,gX n]):gl.Good (gY (n+1)):=by
 refine⟨ar iw,?_⟩;intro (d:Int) (t:List UInt8) (a:Int) (hp:2 * (d+1).toNat+1<n+1/\0<=a/\a<=(t.length:Int)/\t.length<=10000 /\ -1<=d/\d<=40);refine gK [] [nT] [] [fP,gX n] [20,28,29,38,39] [] [] [] hE hO hM hS iw EB (I1 d t a) rfl rfl (let v2:=rE t d a;let v0:=cq 5 (nE t a) v2.e;let v3:=[126];let v4:=(v2.a:Int);let v5:=xE t d a;let v6:=(nE t a:Int);let v7:=True/\True;let v8:=(0:Int);let v1:=(v8=v8/\(v8=v8/\v7))/\True;let v9:=zE=(v5.e)/\false=(v5.ok);let va:=(1:Int);(((∃ k1:Nat,(k1<=nE t a/\((True/\(d=d/\(True/\(v8=(k1:Int)/\True))))/\((t=t/\(a=(a+(k1:Int))/\True))/\v1))))/\(∀ k1:Nat,let vg:=(k1:Int);let vc:=a+vg;let ve:=pF t vc v3;let vb:=BL t d ve;let vd:=(t=t/\(((vb.a:Int))=((vb.a:Int))/\True))/\v1;let vf:=True/\((vb.ok)=(vb.ok)/\True);(k1<=nE t a->((0<=vc/\vc<=(t.length:Int)/\t.length<=10000/\v3.length<=10/\1<=v3.length)/\(((cN t vc.toNat v3)=true->(O (vg+va)/\(∃ k2:Nat,(k2<=nE t a/\(nE t a - k2<nE t a - k1/\((True/\(d=d/\(True/\((vg+va)=(k2:Int)/\True))))/\((t=t/\(ve=(a+(k2:Int))/\True))/\v1)))))))/\((cN t vc.toNat v3)=false->(((decide ((40:Int)<vg))=true->(v9/\((t=t/\ve=(v5.a:Int))/\True)))/\((decide ((40:Int)<vg))=false->((2 * (d+1).toNat<n/\0<=ve/\ve<=(t.length:Int)/\t.length<=10000 /\ -1<=d/\d<=40)/\((∃ j2:Nat,let vh:=cq 5 j2 v2.e;((j2<=nE t a/\nE t a<=40)/\((True/\(True/\(vg=(v6 - (j2:Int))/\vf)))/\(((vb.e).aq=(vh.aq)/\((vb.e).aN=(vh.aN)/\v7))/\((vb.e).M=(vh.M)/\vd)))))/\(∀ j2:Nat,let vi:=cq 5 j2 v2.e;let vh:=J.mk (5:Int) 0 ([(J.mk (vi.aq) (vi.aN) (vi.M))]);let vj:=v6 - (j2:Int);((j2<=nE t a/\nE t a<=40)->(((decide (v8<vj))=true->(O (vj - va)/\(∃ j3:Nat,let vk:=cq 5 j3 v2.e;((j3<=nE t a/\nE t a<=40)/\(nE t a - j3<nE t a - j2/\((True/\(True/\((vj - va)=(v6 - (j3:Int))/\vf)))/\((vh.aq=(vk.aq)/\(vh.aN=(vk.aN)/\v7))/\(vh.M=(vk.M)/\vd))))))))/\((decide (v8<vj))=false->((∃ m3:Nat,((m3<=mE t d a/\m3<=41/\nE t a<=40)/\((True/\(True/\(True/\((vb.ok)=(vb.ok)/\(v8=(m3:Int)/\True)))))/\((t=t/\(((vb.a:Int))=(v4+(m3:Int))/\True))/\(((vi.aq)=((cq 8 m3 v0).aq)/\((vi.aN)=((cq 8 m3 v0).aN)/\v7))/\((vi.M)=((cq 8 m3 v0).M)/\v1))))))/\(∀ m3:Nat,let vk:=J.mk ((cq 8 m3 v0).aq) ((cq 8 m3 v0).aN) ((cq 8 m3 v0).M);let vl:=v4+(m3:Int);let vm:=(t=t/\(pF t vl ([42]))=(v5.a:Int))/\True;let vn:=J.mk (8:Int) 0 ([vk]);let vo:=decide ((40:Int)<(m3:Int));((m3<=mE t d a/\m3<=41/\nE t a<=40)->((0<=vl/\vl<=(t.length:Int)/\t.length<=10000/\([42]).length<=10/\1<=([42]).length)/\(((cN t vl.toNat ([42]))=true->((vo=true->(v9/\vm))/\(vo=false->(O ((m3:Int)+va)/\(∃ m4:Nat,((m4<=mE t d a/\m4<=41/\nE t a<=40)/\(mE t d a - m4<mE t d a - m3/\((True/\(True/\(True/\((vb.ok)=(vb.ok)/\(((m3:Int)+va)=(m4:Int)/\True)))))/\((t=t/\((pF t vl ([42]))=(v4+(m4:Int))/\True))/\((vn.aq=((cq 8 m4 v0).aq)/\(vn.aN=((cq 8 m4 v0).aN)/\v7))/\(vn.M=((cq 8 m4 v0).M)/\v1)))))))))))/\((cN t vl.toNat ([42]))=false->((vk=(v5.e)/\(vb.ok)=(v5.ok))/\vm))))))))))))))))))))))) ?_;obtain⟨hm,h0,h1,h2,h3,h4⟩:=hp;have n1:=a7z t a h0 h1;have n2:=b0Z t d a h0 h1;have z1:=λ k h=>b1k t a k h0 h;have z2:=λ k h=>b1j t d a k h;have c1:BL t d (a+(nE t a:Int))=rE t d a:=a7F t d a h0;simp only[b4j,b4f,b3B,b3z,b3D,b3C,b3V,b3W,b4b,b4g,b3L,b4u,b3O,O,aJ];refine⟨⟨0,b4G _,by omega⟩,λ k1 hk=>⟨?_,λ e1=>?_,λ e1=>?_⟩⟩
 .repeat' (first|intro _|apply And.intro)
  all_goals first|exact True.intro|omega|with_reducible rfl|decide
 .have g:=z1 k1 hk;rw[e1] at g;have g':=b4l g.symm;rw[xa t _ 126 e1];exact⟨by omega,k1+1,by omega,by omega,by omega,by omega⟩
 .have g:=z1 k1 hk;rw[e1] at g;have g':=b5t g.symm;have Rl:k1=nE t a:=by omega
  subst Rl;have f1:=FA t _ [126] e1;by_cases hn:40<nE t a
  .obtain⟨x1,x2,x3⟩:=a8m t d a h0 hn;simp only[f1,(b4k (by omega):decide ((40:Int)<(nE t a:Int))=true),x1,x2,x3,b4j,b4f,b3B,b3z,b3D,b3C,b3V,b3W,b4b,b4g,b3L,b4u,b3O,O,aJ];repeat' (first|intro _|apply And.intro)
   all_goals first|exact True.intro|omega|with_reducible rfl|decide
  .simp only[f1,c1,(b3K (by omega):decide ((40:Int)<(nE t a:Int))=false),b4j,b4f,b3B,b3z,b3D,b3C,b3V,b3W,b4b,b4g,b3L,b4u,b3O,O,aJ];refine⟨by omega,⟨0,⟨b4G _,by omega⟩,by omega,⟨rfl,rfl⟩,rfl⟩,λ j2 hj=>⟨λ e2=>?_,λ e2=>?_⟩⟩
   .have e2':=b4l e2;exact⟨by omega,j2+1,⟨by omega,by omega⟩,by omega,by omega,⟨by rw[dQ],by rw[dQ]⟩,by rw[dQ,J.eta]⟩
   .have e2':=b5t e2;have hj2:j2=nE t a:=by omega
    subst hj2;refine⟨⟨0,⟨b4G _,by omega,by omega⟩,rfl,by omega,⟨rfl,rfl⟩,rfl⟩,λ m3 hm3=>⟨⟨by omega,by omega,by omega,by decide,by decide⟩,λ e3=>⟨λ e4=>?_,λ e4=>?_⟩,λ e3=>?_⟩⟩
    .have g3:=z2 m3 hm3.1;rw[e3] at g3;have g3':=b4l g3.symm;have e4':=b4l e4;obtain⟨x1,x2,x3⟩:=a6c t d a hn (by omega);rw[xa t _ 42 e3,x1,x2,x3];exact⟨⟨rfl,rfl⟩,by omega⟩
    .have g3:=z2 m3 hm3.1;rw[e3] at g3;have g3':=b4l g3.symm;have e4':=b5t e4;rw[xa t _ 42 e3];exact⟨by omega,m3+1,⟨by omega,by omega,by omega⟩,by omega,by omega,by omega,⟨by rw[dQ],by rw[dQ]⟩,by rw[dQ,J.eta]⟩
    .have g3:=z2 m3 hm3.1;rw[e3] at g3;have g3':=b5t g3.symm;have hm:m3=mE t d a:=by omega
     subst hm;obtain⟨x1,x2,x3⟩:=a8l t d a hn (by omega);rw[FA t _ _ e3,x1,x2,x3,J.eta];exact⟨⟨rfl,rfl⟩,rfl⟩
def Yw:∀ n,im [gX n,gY n]
 | 0=>⟨⟨ar lJ,λ _ _ _ h=>absurd h.1 (b4q _)⟩,⟨ar iw,λ _ _ _ h=>absurd h.1 (b4q _)⟩,ae⟩
 | n+1=>by
  have ih:=Yw n;exact⟨HC n trivial ⟨R3,Eg,ae⟩ trivial ⟨pz,Cg,ih.2.1,ae⟩,HD n trivial ⟨Eg,ae⟩ trivial ⟨pz,ih.1,ae⟩,ae⟩
def Ek:gl.Good tG :=
 ⟨ar iw,λ d t a hp=>(Yw (2 * (d+1).toNat+1+1)).2.1.2 d t a (⟨b4m _,hp⟩)⟩
end
end Go.Proofs.YtmjfpcajohhbeaaGreatDoor

set_option maxRecDepth 4000
set_option maxHeartbeats 4000000
namespace Go.Proofs.YtmjfpcajohhbeaaGreatDoor
noncomputable section
def Vs(c:UInt8):∀ l:List UInt8,cI c l<=l.length
 | []=>b4h _
 | b::l=>by
  have:=Vs c l;unfold cI;split<;>simp<;>omega
def Vp:∀ l:List UInt8,nN l<=l.length
 | []=>b4h _
 | b::l=>by
  have:=Vp l;unfold nN;split<;>simp<;>omega
def sQ(t:List UInt8)(a:Nat)(h:¬ cm t a=0):a<t.length:=by
 unfold cm at h;split at h
 .assumption
 .exact absurd rfl h
def Fz(t:List UInt8)(a:Nat)(c:Int)(hc:¬ c=0)(h:a<=t.length):dG t a c<=t.length:=by
 unfold dG;split
 .rename_i e;have:=sQ t a (by rw[e];exact hc);omega
 .exact h
def a5T(t:List UInt8)(r:RS)(h:r.a<=t.length):(Cj t r).a<=t.length/\(Cj t r).dp=r.dp - 1:=by
 have:=Vs 42 (t.drop r.a);simp only[List.length_drop] at this;unfold Cj;split
 .exact⟨h,rfl⟩
 .exact⟨by show r.a+cI 42 (t.drop r.a)<=_;omega,rfl⟩
structure ZB(t:List UInt8)(dp m:Nat)(r:RS):Prop where
 a:r.a<=t.length
 lo:dp<=r.dp
 hi:r.dp<=m
def JS(inner:Nat->Nat->RS)(t:List UInt8)(a dp:Nat)(bad:Bool)(ha:a<=t.length)(hi:dp+1<=100->bad=false->ZB t (dp+1) 102 (inner a (dp+1))):ZB t dp (max 101 (dp+1)) (dV inner t a dp bad):=by
 unfold dV;split
 .exact⟨ha,b7A _,by show dp+1<=_;omega⟩
 .rename_i h;have hb:bad=false:=by cases bad<;>simp_all
  have g:=hi (by omega) hb;have s:=a5T t _ g.a;have:=g.lo;have:=g.hi;exact⟨s.1,by rw[s.2];omega,by rw[s.2];omega⟩
def Xb(inner:Nat->Nat->RS)(t:List UInt8)(x:RS)(k:Int)(a dp:Nat)(bad:Bool)(hd:dp<=100)(ha:a<=t.length)(hx:ZB t dp 101 x)(hb:bad=false->x.dp=dp)(hi:dp+1<=100->∀ a,a<=t.length->ZB t (dp+1) 102 (inner a (dp+1))) :
  ZB t dp 102 (Ce inner t x k a bad):=by
 have:=hx.lo;have:=hx.hi;have hy:=JS inner t a x.dp bad ha (λ h1 h2=>by rw[hb h2] at h1 ⊢;exact hi h1 a ha);have:=hy.lo;have:=hy.hi;unfold Ce;exact⟨Fz t _ 41 (by decide) hy.a,by show dp<=(dV inner t a x.dp bad).dp;omega,by show (dV inner t a x.dp bad).dp<=102;omega⟩
def El(t:List UInt8)(a:Nat)(c:Int)(bad:Bool)(h:fK t a c bad=false):bad=false:=by
 unfold fK at h;split at h
 .exact h
 .cases h
def Zn(inner:Nat->Nat->RS)(t:List UInt8)(x:RS)(dp:Nat)(hd:dp<=100)(hx:ZB t dp 101 x)(hb:x.bad=false->x.dp=dp)(hi:dp+1<=100->∀ a,a<=t.length->ZB t (dp+1) 102 (inner a (dp+1))) :
  ZB t dp 102 (vI inner t x):=by
 have h1:=Fz t x.a 32 (by decide) hx.a;unfold vI;split
 .rename_i e;have h2:=sQ t (dG t x.a 32) (by rw[e];decide);exact Xb inner t x 6 _ dp _ hd (Fz t _ 32 (by decide) (by omega)) hx (λ h=>hb (El t _ _ _ (El t _ _ _ h))) hi
 .exact Xb inner t x 7 _ dp _ hd h1 hx (λ h=>hb (El t _ _ _ h)) hi
def iE(t:List UInt8)(g a dp:Nat):cC t g a dp=if cm t a=48 then ⟨J.mk 1 0 [],a+1,dp,false⟩ else if cm t a=49 then ⟨J.mk 2 0 [],a+1,dp,false⟩ else
  if cm t a=116\/cm t a=97 then oR t a dp else
  if cm t a=126 then (match g with
   | 0=>⟨zX,a+1,dp+1,true⟩
   | g+1=>⟨J.mk 5 0 [(cC t g (a+1) (dp+1)).e],(cC t g (a+1) (dp+1)).a,(cC t g (a+1) (dp+1)).dp - 1,(cC t g (a+1) (dp+1)).bad⟩) else
  if cm t a=40 then (match g with
   | 0=>vI (λ _ _=>⟨zX,0,0,true⟩) t (dV (λ _ _=>⟨zX,0,0,true⟩) t (a+1) dp false)
   | g+1=>vI (cC t g) t (dV (cC t g) t (a+1) dp false)) else ⟨zX,a,dp,true⟩:=by
 exact cC.eq_def t g a dp
def yp(t:List UInt8):∀ (g a dp:Nat),g+dp=100->a<=t.length->ZB t dp 102 (cC t g a dp)
 | g,a,dp,hg,ha=>by
  have lt:∀ c:Int,¬ c=0->cm t a=c->a+1<=t.length:=λ c hc h=>sQ t a (by rw[h];exact hc);rw[iE];split
  .rename_i h;exact⟨lt _ (by decide) h,b4h _,by show dp<=102;omega⟩
  .split
   .rename_i h;exact⟨lt _ (by decide) h,b4h _,by show dp<=102;omega⟩
   .split
    .rename_i h;have h1:a+1<=t.length:=by rcases h with h|h<;>exact lt _ (by decide) h
     have:=Vp (t.drop (a+1));simp only[b4L] at this;exact⟨by show a+1+nN (t.drop (a+1))<=_;omega,b4h _,by show dp<=102;omega⟩
    .split
     .rename_i h;have h1:=lt _ (by decide) h;cases g with
      | zero=>exact⟨h1,b7A _,by show dp+1<=102;omega⟩
      | succ g =>
       have ih:=yp t g (a+1) (dp+1) (by omega) h1;have:=ih.lo;have:=ih.hi;exact⟨ih.a,by show dp<=(cC t g (a+1) (dp+1)).dp - 1;omega,by show (cC t g (a+1) (dp+1)).dp - 1<=102;omega⟩
     .split
      .rename_i h;have h1:=lt _ (by decide) h;cases g with
       | zero =>
        have hx:=JS (λ _ _=>⟨zX,0,0,true⟩) t (a+1) dp false h1 (λ h=>by omega);refine Zn _ t _ dp (by omega) ⟨hx.a,hx.lo,by have:=hx.hi;omega⟩ (λ hb=>?_) (λ h=>by omega);exact ((rr (λ _ _=>⟨zX,0,0,true⟩) t (a+1) dp false (λ h=>by omega)).ex hb).1
       | succ g =>
        have hx:=JS (cC t g) t (a+1) dp false h1 (λ _ _=>yp t g (a+1) (dp+1) (by omega) h1);refine Zn _ t _ dp (by omega) ⟨hx.a,hx.lo,by have:=hx.hi;omega⟩ (λ hb=>?_) (λ _ a' ha'=>yp t g a' (dp+1) (by omega) ha');exact ((rr (cC t g) t (a+1) dp false (λ _=>E6 t g (a+1) (dp+1) (by omega))).ex hb).1
      .exact⟨ha,b4h _,by show dp<=102;omega⟩
def ew(t:List UInt8)(a dp:Int):RS:=cC t (100 - dp).toNat a.toNat dp.toNat
def gZ(t:List UInt8)(a dp:Int)(bad:Bool):RS:=dV (cC t (99 - dp).toNat) t a.toNat dp.toNat bad
def sE(t:List UInt8)(r:RS):Nat:=if r.bad=true then 0 else cI 42 (t.drop r.a)
def a8a(t:List UInt8)(r:RS):Cj t r=⟨cq 8 (sE t r) r.e,r.a+sE t r,r.dp - 1,r.bad⟩:=by
 unfold Cj sE;cases r.bad<;>rfl
def PJ(t:List UInt8)(a dp:Int)(h0:0<=a)(h1:a<=(t.length:Int))(h2:0<=dp)(h3:dp<=100):((ew t a dp).a:Int)<=(t.length:Int)/\dp<=((ew t a dp).dp:Int)/\((ew t a dp).dp:Int)<=102:=by
 have g:=yp t (100 - dp).toNat a.toNat dp.toNat (by omega) (by omega);have:=g.a;have:=g.lo;have:=g.hi;unfold ew;omega
def UB(t:List UInt8)(a dp:Int)(bad:Bool)(h0:0<=a)(h1:a<=(t.length:Int))(h2:0<=dp):((gZ t a dp bad).a:Int)<=(t.length:Int)/\dp<=((gZ t a dp bad).dp:Int)/\(((gZ t a dp bad).dp:Int)<=101\/((gZ t a dp bad).dp:Int)<=dp+1):=by
 have g:=JS (cC t (99 - dp).toNat) t a.toNat dp.toNat bad (by omega) (λ h _=>yp t (99 - dp).toNat a.toNat (dp.toNat+1) (by omega) (by omega));have:=g.a;have:=g.lo;have:=g.hi;unfold gZ;omega
def a1m(t:List UInt8)(a dp:Int)(bad:Bool)(h0:0<=a)(h2:0<=dp)(h:bad=true\/100<dp+1):(gZ t a dp bad).e=zX/\((gZ t a dp bad).a:Int)=a/\((gZ t a dp bad).dp:Int)=dp+1/\(gZ t a dp bad).bad=true:=by
 unfold gZ dV;rw[if_pos (by rcases h with h|h;exact .inl h;exact .inr (by omega))];exact⟨rfl,by show ((a.toNat:Nat):Int)=a;omega,by show ((dp.toNat+1:Nat):Int)=dp+1;omega,rfl⟩
def b0t(t:List UInt8)(a dp:Int)(bad:Bool)(h0:0<=a)(h2:0<=dp)(h:bad=false)(h':¬ 100<dp+1):gZ t a dp bad=Cj t (ew t a (dp+1)):=by
 unfold gZ dV ew;rw[if_neg (by rw[h];rintro (g|g);cases g;omega),show (100 - (dp+1)).toNat=(99 - dp).toNat by omega,show (dp+1).toNat=dp.toNat+1 by omega]
def a8w(t:List UInt8)(a dp:Int)(bad:Bool)(h0:0<=a)(h1:a<=(t.length:Int))(h2:0<=dp)(h:bad=false)(h':¬ 100<dp+1):(gZ t a dp bad).e=cq 8 (sE t (ew t a (dp+1))) (ew t a (dp+1)).e/\((gZ t a dp bad).a:Int)=((ew t a (dp+1)).a:Int)+(sE t (ew t a (dp+1)):Int) /\
  ((gZ t a dp bad).dp:Int)=((ew t a (dp+1)).dp:Int) - 1/\(gZ t a dp bad).bad=(ew t a (dp+1)).bad:=by
 have:=PJ t a (dp+1) h0 h1 (by omega) (by omega);rw[b0t t a dp bad h0 h2 h h',a8a];refine⟨rfl,by simp,?_,rfl⟩;show (((ew t a (dp+1)).dp - 1:Nat):Int)=_;omega
def b1c(t:List UInt8)(a dp:Int)(h0:0<=a)(h1:a<=(t.length:Int))(h2:0<=dp)(h3:dp<=100):((ew t a dp).a:Int)+(sE t (ew t a dp):Int)<=(t.length:Int):=by
 have:=PJ t a dp h0 h1 h2 h3;have h:=Vs 42 (t.drop (ew t a dp).a);simp only[List.length_drop] at h;unfold sE;split<;>omega
structure is4(r:RS)(e:J)(a dp:Int)(bad:Bool):Prop where
 e:r.e=e
 a:(r.a:Int)=a
 dp:(r.dp:Int)=dp
 bad:r.bad=bad
def b2u(t:List UInt8)(a dp:Int)(h0:0<=a)(h2:0<=dp)(h:cm t a.toNat=48):is4 (ew t a dp) (J.mk 1 0 []) (a+1) dp false:=by
 unfold ew;rw[iE,if_pos h];exact⟨rfl,by show ((a.toNat+1:Nat):Int)=_;omega,by show ((dp.toNat:Nat):Int)=_;omega,rfl⟩
def b2v(t:List UInt8)(a dp:Int)(h0:0<=a)(h2:0<=dp)(h:cm t a.toNat=49):is4 (ew t a dp) (J.mk 2 0 []) (a+1) dp false:=by
 unfold ew;rw[iE,if_neg (by rw[h];decide),if_pos h];exact⟨rfl,by show ((a.toNat+1:Nat):Int)=_;omega,by show ((dp.toNat:Nat):Int)=_;omega,rfl⟩
def a1D(t:List UInt8)(a dp:Int)(h:cm t a.toNat=116\/cm t a.toNat=97):ew t a dp=oR t a.toNat dp.toNat:=by
 unfold ew;rw[iE,if_neg (by rcases h with h|h<;>rw[h]<;>decide),if_neg (by rcases h with h|h<;>rw[h]<;>decide),if_pos h]
def a8I(t:List UInt8)(a dp:Int)(h0:0<=a)(h1:a+1<=(t.length:Int))(h2:0<=dp)(h3:¬ 100<dp+1)(h:cm t a.toNat=126):is4 (ew t a dp) (J.mk 5 0 [(ew t (a+1) (dp+1)).e]) ((ew t (a+1) (dp+1)).a:Int) (((ew t (a+1) (dp+1)).dp:Int) - 1) (ew t (a+1) (dp+1)).bad:=by
 have hb:=PJ t (a+1) (dp+1) (by omega) (by omega) (by omega) (by omega);have e:ew t a dp=⟨J.mk 5 0 [(ew t (a+1) (dp+1)).e],(ew t (a+1) (dp+1)).a,(ew t (a+1) (dp+1)).dp - 1,(ew t (a+1) (dp+1)).bad⟩:=by
  unfold ew;obtain⟨g,hg⟩:∃ g,(100 - dp).toNat=g+1:=⟨(99 - dp).toNat,by omega⟩;rw[show (100 - (dp+1)).toNat=g by omega,show (a+1).toNat=a.toNat+1 by omega,show (dp+1).toNat=dp.toNat+1 by omega,hg];conv=>lhs;rw[iE]
  rw[b3H (by rw[h];decide),b3H (by rw[h];decide),b3H (by rw[h];decide),b4d h]
 rw[e];exact⟨rfl,rfl,by show (((ew t (a+1) (dp+1)).dp - 1:Nat):Int)=_;omega,rfl⟩
def a7i(t:List UInt8)(a dp:Int)(h0:0<=a)(h2:0<=dp)(h3:100<dp+1)(h:cm t a.toNat=126):is4 (ew t a dp) zX (a+1) (dp+1) true:=by
 unfold ew;rw[show (100 - dp).toNat=0 by omega,iE,if_neg (by rw[h];decide),if_neg (by rw[h];decide),if_neg (by rw[h];decide),if_pos h];exact⟨rfl,by show ((a.toNat+1:Nat):Int)=_;omega,by show ((dp.toNat+1:Nat):Int)=_;omega,rfl⟩
def a7j(t:List UInt8)(a dp:Int)(h0:0<=a)(h2:0<=dp)(h:¬ cm t a.toNat=48/\¬ cm t a.toNat=49/\¬ cm t a.toNat=116/\¬ cm t a.toNat=97/\¬ cm t a.toNat=126/\¬ cm t a.toNat=40):is4 (ew t a dp) zX a dp true:=by
 unfold ew;rw[iE,if_neg h.1,if_neg h.2.1,if_neg (by rintro (g|g);exact h.2.2.1 g;exact h.2.2.2.1 g),if_neg h.2.2.2.2.1,if_neg h.2.2.2.2.2];exact⟨rfl,by show ((a.toNat:Nat):Int)=_;omega,by show ((dp.toNat:Nat):Int)=_;omega,rfl⟩
def yE(t:List UInt8)(x:RS)(a:Int)(bad:Bool):RS:=gZ t a (x.dp:Int) bad
def Zk(inner:Nat->Nat->RS)(t:List UInt8)(x:RS)(k:Int)(a:Nat)(bad:Bool)(hi:dV inner t a x.dp bad=yE t x (a:Int) bad) :
  is4 (Ce inner t x k a bad) (J.mk k 0 [x.e,(yE t x (a:Int) bad).e]) ((dG t (yE t x (a:Int) bad).a 41:Nat):Int) ((yE t x (a:Int) bad).dp:Int) (fK t (yE t x (a:Int) bad).a 41 (yE t x (a:Int) bad).bad):=by
 unfold Ce;rw[hi];exact⟨rfl,rfl,rfl,rfl⟩
def a7k(t:List UInt8)(a dp:Int)(h0:0<=a)(h1:a+1<=(t.length:Int))(h2:0<=dp)(h3:dp<=100)(h:cm t a.toNat=40)(X:RS)(hX:X=gZ t (a+1) dp false) :
  (cm t (dG t X.a 32)=43->is4 (ew t a dp) (J.mk 6 0 [X.e,(yE t X ((dG t (dG t X.a 32+1) 32:Nat):Int) (fK t (dG t X.a 32+1) 32 (fK t X.a 32 X.bad))).e]) ((dG t (yE t X ((dG t (dG t X.a 32+1) 32:Nat):Int) (fK t (dG t X.a 32+1) 32 (fK t X.a 32 X.bad))).a 41:Nat):Int)
   ((yE t X ((dG t (dG t X.a 32+1) 32:Nat):Int) (fK t (dG t X.a 32+1) 32 (fK t X.a 32 X.bad))).dp:Int) (fK t (yE t X ((dG t (dG t X.a 32+1) 32:Nat):Int) (fK t (dG t X.a 32+1) 32 (fK t X.a 32 X.bad))).a 41 (yE t X ((dG t (dG t X.a 32+1) 32:Nat):Int) (fK t (dG t X.a 32+1) 32 (fK t X.a 32 X.bad))).bad)) /\
  (¬ cm t (dG t X.a 32)=43->is4 (ew t a dp) (J.mk 7 0 [X.e,(yE t X ((dG t X.a 32:Nat):Int) (fK t X.a 32 X.bad)).e]) ((dG t (yE t X ((dG t X.a 32:Nat):Int) (fK t X.a 32 X.bad)).a 41:Nat):Int)
   ((yE t X ((dG t X.a 32:Nat):Int) (fK t X.a 32 X.bad)).dp:Int) (fK t (yE t X ((dG t X.a 32:Nat):Int) (fK t X.a 32 X.bad)).a 41 (yE t X ((dG t X.a 32:Nat):Int) (fK t X.a 32 X.bad)).bad)):=by
 have key:∃ inner:Nat->Nat->RS,ew t a dp=vI inner t X/\∀ (a:Nat) (bad:Bool),(bad=false->X.bad=false)->dV inner t a X.dp bad=yE t X (a:Int) bad:=by
  have hXd:X.bad=false->X.dp=dp.toNat:=by
   intro hb;rw[hX] at hb ⊢;exact ((rr (cC t (99 - dp).toNat) t (a+1).toNat dp.toNat false (λ h=>E6 t _ _ _ (by omega))).ex hb).1
  by_cases hd:dp<100
  .obtain⟨g,hg⟩:∃ g,(100 - dp).toNat=g+1:=⟨(99 - dp).toNat,by omega⟩;refine⟨cC t g,?_,λ a' bad hb=>?_⟩
   .have eX:X=dV (cC t g) t (a.toNat+1) dp.toNat false:=by
     rw[hX,gZ,show (99 - dp).toNat=g by omega,show (a+1).toNat=a.toNat+1 by omega]
    unfold ew;rw[hg];conv=>lhs;rw[iE]
    rw[b3H (by rw[h];decide),b3H (by rw[h];decide),b3H (by rw[h];decide),b3H (by rw[h];decide),b4d h,eX]
   .unfold yE gZ;rw[Int.toNat_natCast,Int.toNat_natCast];cases bad with
    | true=>rfl
    | false=>rw[hXd (hb rfl),show (99 - (dp.toNat:Int)).toNat=g by omega]
  .have hz:(100 - dp).toNat=0:=by omega
   refine⟨λ _ _=>⟨zX,0,0,true⟩,?_,λ a' bad hb=>?_⟩
   .have eX:X=dV (λ _ _=>⟨zX,0,0,true⟩) t (a.toNat+1) dp.toNat false:=by
     rw[hX,gZ,show (a+1).toNat=a.toNat+1 by omega];unfold dV;rw[if_pos (.inr (by omega)),if_pos (.inr (by omega))]
    unfold ew;rw[hz];conv=>lhs;rw[iE]
    rw[b3H (by rw[h];decide),b3H (by rw[h];decide),b3H (by rw[h];decide),b3H (by rw[h];decide),b4d h,eX]
   .have hlo:dp.toNat<=X.dp:=by
     have:=UB t (a+1) dp false (by omega) (by omega) h2;rw[<-hX] at this;omega
    unfold yE gZ;rw[Int.toNat_natCast,Int.toNat_natCast];unfold dV;rw[if_pos (.inr (by omega)),if_pos (.inr (by omega))]
 obtain⟨inner,k1,k2⟩:=key;rw[k1];unfold vI;refine⟨λ hp=>?_,λ hp=>?_⟩
 .rw[b4d hp];exact Zk inner t X 6 _ _ (k2 _ _ λ hb=>El t _ _ _ (El t _ _ _ hb))
 .rw[b3H hp];exact Zk inner t X 7 _ _ (k2 _ _ λ hb=>El t _ _ _ hb)
def Vq:∀ (l:List UInt8) (k:Nat),k<=nN l->(k<nN l↔∃ b r,l.drop k=b::r/\fA b=true)
 | [],k,h=>by simp[nN]
 | b::l,k,h=>by
  unfold nN at h ⊢;split at h
  .rename_i e;rw[b4d e];cases k with
   | zero=>exact⟨λ _=>⟨b,l,rfl,e⟩,λ _=>by omega⟩
   | succ k =>
    have:=Vq l k (by omega);rw[b6k,<-this];omega
  .rename_i e;rw[b3H e];have hk:k=0:=by omega
   subst hk;refine⟨λ h=>by omega,λ ⟨c,r,hr,hc⟩=>?_⟩;simp only[b5F,b3F] at hr;rw[hr.1] at e;exact absurd hc e
def a8U(t:List UInt8)(n k:Nat)(h:k<=nN (t.drop n)):(48<=cm t (n+k)/\cm t (n+k)<=57)↔k<nN (t.drop n):=by
 rw[Vq _ k h,b5j];constructor
 .intro hp;have hl:=sQ t (n+k) (by omega);refine⟨t.getD (n+k) 0,t.drop (n+k+1),?_,?_⟩
  .rw[b5m hl,b3N,b3Z hl];rfl
  .unfold cm at hp;rw[if_pos hl] at hp;unfold fA;rw[decide_eq_true (by omega),decide_eq_true (by omega)];rfl
 .rintro⟨b,r,h1,h2⟩;rw[fX h1];simp only[fA,b3A,b3v] at h2;omega
def nD(t:List UInt8)(a:Int):Nat:=nN (t.drop (a+1).toNat)
def b0V(t:List UInt8)(a:Int)(k:Nat)(h0:0<=a)(h:k<=nD t a):(48<=cm t (a+1+(k:Int)).toNat/\cm t (a+1+(k:Int)).toNat<=57)↔k<nD t a:=by
 rw[show (a+1+(k:Int)).toNat=(a+1).toNat+k by omega];exact a8U t _ k h
def b0R(t:List UInt8)(a:Int)(h0:0<=a)(h1:a+1<=(t.length:Int)):a+1+(nD t a:Int)<=(t.length:Int):=by
 have:=Vp (t.drop (a+1).toNat);simp only[List.length_drop] at this;unfold nD;omega
def nmE(t:List UInt8)(a:Int):List UInt8:=(t.drop (a+1).toNat).take (nD t a)
def nmK(t:List UInt8)(a:Int):Int:=if cm t a.toNat=97 then 4 else 3
def b0T(t:List UInt8)(a:Int)(h:cm t a.toNat=97):nmK t a=4:=b4d h
def b0S(t:List UInt8)(a:Int)(h:¬ cm t a.toNat=97):nmK t a=3:=b3H h
def WW(t:List UInt8)(a dp:Int)(h0:0<=a)(h2:0<=dp):is4 (oR t a.toNat dp.toNat) (J.mk (nmK t a) (kH 9 (nmE t a)) []) (a+1+(nD t a:Int)) dp (!ni 9 (nmE t a)):=by
 unfold oR nmE W3 nD;rw[show (a+1).toNat=a.toNat+1 by omega];exact⟨rfl,by show ((a.toNat+1+nN (t.drop (a.toNat+1)):Nat):Int)=_;omega,by show ((dp.toNat:Nat):Int)=_;omega,rfl⟩
def UI(t:List UInt8)(a:Int)(k:Nat)(h0:0<=a)(h:k=nD t a):(t.take (Int.toNat (a+1+(k:Int)))).drop (Int.toNat (a+1))=nmE t a:=by
 rw[List.drop_take];unfold nmE;congr 1;omega
def a9b(t:List UInt8)(r:RS)(h:r.bad=true):sE t r=0:=by unfold sE;rw[if_pos h]
def b1b(t:List UInt8)(r:RS)(m:Nat)(h:r.bad=false)(hm:m<=sE t r):cm t ((r.a:Int)+(m:Int)).toNat=42↔m<sE t r:=by
 have e:sE t r=cI 42 (t.drop r.a):=by unfold sE;rw[h];rfl
 rw[e] at hm ⊢;rw[show ((r.a:Int)+(m:Int)).toNat=r.a+m by omega];have key:∀ (l:List UInt8) (k:Nat),k<=cI 42 l->(k<cI 42 l↔∃ r,l.drop k=42::r):=by
  intro l;induction l with
  | nil=>intro k h;simp[cI]
  | cons b l ih =>
   intro k h;unfold cI at h ⊢;split at h
   .rename_i e;rw[b4d e];cases k with
    | zero=>exact⟨λ _=>⟨l,by rw[e];rfl⟩,λ _=>by omega⟩
    | succ k =>
     have:=ih k (by omega);rw[b6k,<-this];omega
   .rename_i e;rw[b3H e];have hk:k=0:=by omega
    subst hk;refine⟨λ h=>by omega,λ ⟨r,hr⟩=>?_⟩;simp only[b5F,b3F] at hr;exact absurd hr.1 e
 rw[key _ m hm,b5j];constructor
 .intro hp;exact tP t _ 42 (by decide) hp
 .rintro⟨r,hr⟩;exact fX hr
def b2K(t:List UInt8)(a c:Int)(h0:0<=a)(h:cm t a.toNat=c):((dG t a.toNat c:Nat):Int)=a+1/\fK t a.toNat c false=false:=by
 unfold dG fK;rw[if_pos h,if_pos h];exact⟨by omega,rfl⟩
def cK:gl:=⟨qy,[[.d .str, .d (.int .i64), .d (.int .i64), .d .bool]],[.b 0],[[.str,(.int .i64),(.int .i64), .bool]],λ (t:List UInt8) (a:Int) (dp:Int) (bad:Bool)=>⟨(some (0<=a/\a<=(t.length:Int)/\t.length<=10000),[⟨(.int .u8),cm t a.toNat⟩],[[⟨.str,t⟩,⟨(.int .i64),a⟩,⟨(.int .i64),dp⟩,⟨.bool,bad⟩]])⟩⟩
def DT(t:List UInt8)(a:Int)(dp:Int)(bad:Bool):Nat->az:=bI
def dO:gl.Good cK:=by
 refine⟨ar o8,?_⟩;intro (t:List UInt8) (a:Int) (dp:Int) (bad:Bool) (hp:0<=a/\a<=(t.length:Int)/\t.length<=10000);refine gK [] [] [] [] [] [] [] [] trivial trivial trivial trivial o8 zO (DT t a dp bad) rfl rfl (let v0:=(t=t/\(a=a/\(dp=dp/\bad=bad)))/\True;let v1:=decide (a<((t.length:Int)));((O a->(t.length<=140737488355328->(O ((t.length:Int))->((v1=true->(t.length<=140737488355328->(O a->(ak a t.length/\((((t.getD (Int.toNat a) 0).toNat:Int))=(cm t a.toNat)/\v0)))))/\(v1=false->((0:Int)=(cm t a.toNat)/\v0)))))))) ?_;refine λ _ _ _=>⟨λ _ _ _=>⟨?_,?_,⟨rfl,rfl,rfl,rfl⟩,ae⟩,λ _=>⟨?_,⟨rfl,rfl,rfl,rfl⟩,ae⟩⟩;all_goals try and_intros
 all_goals first|rfl|trivial|omega|(simp only[decide_eq_true_eq,decide_eq_false_iff_not,ak,O] at *;first|omega|grind [cm,dG,fK])
def jv:gl:=⟨qz,[[.d .str, .d (.int .i64), .d (.int .i64), .d .bool]],[.b 0, .v (.int .u8)],[[.str,(.int .i64),(.int .i64), .bool]],λ (b:Int) (t:List UInt8) (a:Int) (dp:Int) (bad:Bool)=>⟨(some (0<=a/\a<=(t.length:Int)/\t.length<=10000),[],[[⟨.str,t⟩,⟨(.int .i64),((dG t a.toNat b:Nat):Int)⟩,⟨(.int .i64),dp⟩,⟨.bool,fK t a.toNat b bad⟩]])⟩⟩
def DU(b:Int)(t:List UInt8)(a:Int)(dp:Int)(bad:Bool):Nat->az:=bI
def zp:gl.Good jv:=by
 refine⟨ar pb,?_⟩;intro (b:Int) (t:List UInt8) (a:Int) (dp:Int) (bad:Bool) (hp:0<=a/\a<=(t.length:Int)/\t.length<=10000);refine gK [] [] [] [cK] [] [] [] [] trivial trivial trivial ⟨dO,ae⟩ pb zP (DU b t a dp bad) rfl rfl (let v0 := !(decide ((cm t a.toNat)=b));let v1:=((dG t a.toNat b:Nat):Int);(((0<=a/\a<=(t.length:Int)/\t.length<=10000)/\((v0=true->(True/\((t=t/\(a=v1/\(dp=dp/\true=(fK t a.toNat b bad))))/\True)))/\(v0=false->(O a->(O (a+(1:Int))/\(True/\((t=t/\((a+(1:Int))=v1/\(dp=dp/\bad=(fK t a.toNat b bad))))/\True))))))))) ?_;obtain⟨h0,h1,h2⟩:=hp;by_cases h:cm t a.toNat=b
 .have e1:((dG t a.toNat b:Nat):Int)=a+1:=by unfold dG;rw[if_pos h];omega
  have e2:fK t a.toNat b bad=bad:=by unfold fK;rw[if_pos h]
  simp only[e1,e2,h,b4j,b4f,b3B,b3z,b3D,b3C,b3V,b3W,b4b,b4g,O];repeat' (first|intro _|apply And.intro)
  all_goals first|trivial|omega
 .have e1:((dG t a.toNat b:Nat):Int)=a:=by unfold dG;rw[if_neg h];omega
  have e2:fK t a.toNat b bad=true:=by unfold fK;rw[if_neg h]
  simp only[e1,e2,h,b4j,b4f,b3B,b3z,b3D,b3C,b3V,b3W,b4b,b4g,O];repeat' (first|intro _|apply And.intro)
  all_goals first|trivial|omega
def ju:gl:=⟨qw,[[.d .str, .d (.int .i64), .d (.int .i64), .d .bool]],[.b 0],[[.str,(.int .i64),(.int .i64), .bool]],λ (t:List UInt8) (a:Int) (dp:Int) (bad:Bool)=>⟨(some (0<=a/\a<=(t.length:Int)/\t.length<=10000/\0<=dp/\(cm t a.toNat=116\/cm t a.toNat=97)/\bad=false),[⟨(.st .expr),(oR t a.toNat dp.toNat).e⟩],[[⟨.str,t⟩,⟨(.int .i64),((oR t a.toNat dp.toNat).a:Int)⟩,⟨(.int .i64),dp⟩,⟨.bool,(oR t a.toNat dp.toNat).bad⟩]])⟩⟩
def DR(t:List UInt8)(a:Int)(dp:Int)(bad:Bool):Nat->az:=(cP 0 (.a (Nat) (λ k=>k<=nD t a) (λ k=>nD t a - k) [7,8,9,10,11,12,13,14,15,16,17,18,19,20,21,22] (λ k=>[(4, .aF ⟨(.int .i64),(a+1:Int)⟩)]) [2] (λ k=>[(400000, .box [.aF ⟨.str,(t:List UInt8)⟩, .aF ⟨(.int .i64),(a+1+(k:Int):Int)⟩, .aF ⟨(.int .i64),(dp:Int)⟩, .aF ⟨.bool,(bad:Bool)⟩]),(3, .box [.aF ⟨(.int .i64),(nmK t a:Int)⟩, .aF ⟨(.int .i64),((0:Int):Int)⟩, .nil])])) bI)
def zn:gl.Good ju:=by
 refine⟨ar o7,?_⟩;intro (t:List UInt8) (a:Int) (dp:Int) (bad:Bool) (hp:0<=a/\a<=(t.length:Int)/\t.length<=10000/\0<=dp/\(cm t a.toNat=116\/cm t a.toNat=97)/\bad=false);refine gK [A6] [] [] [cK] [] [] [] [] ⟨Iq,ae⟩ trivial trivial ⟨dO,ae⟩ o7 zM (DR t a dp bad) rfl rfl (let v0:=oR t a.toNat dp.toNat;let v2:=Int.toNat (a+1);let v3:=(0:Int)=(0:Int)/\(True/\True);let v4:=True/\(True/\(True/\((a+1)=(a+1)/\True)));let v5:=dp=dp/\(bad=bad/\True);let v6:=(1:Int);let v7:=dp=dp/\true=(v0.bad);let v8:=((0:Int)=(0:Int)/\v3)/\True;let v9:=nmK t a;let v1:=(v9=v9/\v3)/\v8;let va:=(v0.a:Int);let vc:=(t.length:Int);let vd:=decide ((cm t a.toNat)=(97:Int));let ve:=a+v6;let vb:=True/\(True/\(True/\(ve=(a+1)/\True)));(((0<=a/\a<=vc/\t.length<=10000)/\((vd=true->(O a->(O ve/\(O ve->((∃ k1:Nat,(k1<=nD t a/\(vb/\((t=t/\(ve=(a+1+(k1:Int))/\v5))/\(((4:Int)=v9/\v3)/\v8)))))/\(∀ k1:Nat,let vf:=a+1+(k1:Int);let vg:=(t.take (Int.toNat vf)).drop v2;let vh:=(J.mk v9 (kH 9 vg) [])=(v0.e)/\((t=t/\(vf=va/\(dp=dp/\(!(ni 9 vg))=(v0.bad))))/\True);let vi:=(J.mk v9 (kH 9 vg) [])=(v0.e)/\((t=t/\(vf=va/\v7))/\True);let vj:=0<=vf/\vf<=vc/\t.length<=10000;let vk:=decide ((48:Int)<=(cm t vf.toNat));let vl:=decide ((cm t vf.toNat)<=(57:Int));(k1<=nD t a->(vj/\((vk=true->(vj/\((vl=true->(O vf->(O (vf+v6)/\(∃ k2:Nat,(k2<=nD t a/\(nD t a - k2<nD t a - k1/\(v4/\((t=t/\((vf+v6)=(a+1+(k2:Int))/\v5))/\v1))))))))/\(vl=false->(cB (a+1) vf t.length/\(t.length<=140737488355328->(O vf->(O (kH 9 vg)->((bad=false->vh)/\(bad=(!false)->vi))))))))))/\(vk=(!true)->((false=true->(O vf->(O (vf+v6)/\(∃ k2:Nat,(k2<=nD t a/\(nD t a - k2<nD t a - k1/\(v4/\((t=t/\((vf+v6)=(a+1+(k2:Int))/\v5))/\v1))))))))/\(false=false->(cB (a+1) vf t.length/\(t.length<=140737488355328->(O vf->(O (kH 9 vg)->((bad=false->vh)/\(bad=(!false)->vi))))))))))))))))))/\(vd=false->(O a->(O ve/\(O ve->((∃ k1:Nat,(k1<=nD t a/\(vb/\((t=t/\(ve=(a+1+(k1:Int))/\v5))/\(((3:Int)=v9/\v3)/\v8)))))/\(∀ k1:Nat,let vf:=a+1+(k1:Int);let vg:=(t.take (Int.toNat vf)).drop v2;let vh:=(J.mk v9 (kH 9 vg) [])=(v0.e)/\((t=t/\(vf=va/\(dp=dp/\(!(ni 9 vg))=(v0.bad))))/\True);let vi:=(J.mk v9 (kH 9 vg) [])=(v0.e)/\((t=t/\(vf=va/\v7))/\True);let vj:=0<=vf/\vf<=vc/\t.length<=10000;let vk:=decide ((48:Int)<=(cm t vf.toNat));let vl:=decide ((cm t vf.toNat)<=(57:Int));(k1<=nD t a->(vj/\((vk=true->(vj/\((vl=true->(O vf->(O (vf+v6)/\(∃ k2:Nat,(k2<=nD t a/\(nD t a - k2<nD t a - k1/\(v4/\((t=t/\((vf+v6)=(a+1+(k2:Int))/\v5))/\v1))))))))/\(vl=false->(cB (a+1) vf t.length/\(t.length<=140737488355328->(O vf->(O (kH 9 vg)->((bad=false->vh)/\(bad=(!false)->vi))))))))))/\(vk=(!true)->((false=true->(O vf->(O (vf+v6)/\(∃ k2:Nat,(k2<=nD t a/\(nD t a - k2<nD t a - k1/\(v4/\((t=t/\((vf+v6)=(a+1+(k2:Int))/\v5))/\v1))))))))/\(false=false->(cB (a+1) vf t.length/\(t.length<=140737488355328->(O vf->(O (kH 9 vg)->((bad=false->vh)/\(bad=(!false)->vi)))))))))))))))))))))) ?_;obtain⟨h0,h1,h2,h3,h4,h5⟩:=hp;subst h5;have l0:=sQ t a.toNat (by omega);obtain⟨q1,q2,q3,q4⟩:=WW t a dp h0 h3;have z:=λ k h=>b0V t a k h0 h;have b:=b0R t a h0 (by omega);simp only[q1,q2,q4,cB,b4j,b4f,b3B,b3z,b3D,b3C,b3V,b3W,b4b,b4g,b3L,b4u,b3O,O,aJ];repeat' (first|intro _|apply And.intro)
 all_goals (try simp only[b3v,b3u] at *)
 all_goals first|exact True.intro|omega|with_reducible rfl|exact⟨0,b4G _,by omega,(b0T t a (by omega)).symm⟩|exact⟨0,b4G _,by omega,(b0S t a (by omega)).symm⟩|(rename_i k1 _ _ _ _;have g:=z k1 (by assumption);first|omega|exact⟨k1+1,by omega,by omega,by omega⟩|rw[UI t a k1 h0 (by omega)])|(rename_i k1 _ _ _ _ _;have g:=z k1 (by assumption);first|omega|exact⟨k1+1,by omega,by omega,by omega⟩|rw[UI t a k1 h0 (by omega)])|(rename_i k1 _ _ _ _ _ _;have g:=z k1 (by assumption);first|omega|exact⟨k1+1,by omega,by omega,by omega⟩|rw[UI t a k1 h0 (by omega)])|(rename_i k1 _ _ _ _ _ _ _;have g:=z k1 (by assumption);first|omega|exact⟨k1+1,by omega,by omega,by omega⟩|rw[UI t a k1 h0 (by omega)])
def dn(n:Nat):gl:=⟨pw,[[.d .str, .d (.int .i64), .d (.int .i64), .d .bool]],[.b 0],[[.str,(.int .i64),(.int .i64), .bool]],λ (t:List UInt8) (a:Int) (dp:Int) (bad:Bool)=>⟨(some (3 * (101 - dp).toNat+2<n/\0<=a/\a<=(t.length:Int)/\t.length<=10000/\0<=dp/\dp<=100/\bad=false),[⟨(.st .expr),(ew t a dp).e⟩],[[⟨.str,t⟩,⟨(.int .i64),((ew t a dp).a:Int)⟩,⟨(.int .i64),((ew t a dp).dp:Int)⟩,⟨.bool,(ew t a dp).bad⟩]])⟩⟩
def fG(n:Nat):gl:=⟨qx,[[.d .str, .d (.int .i64), .d (.int .i64), .d .bool]],[.b 0],[[.str,(.int .i64),(.int .i64), .bool]],λ (t:List UInt8) (a:Int) (dp:Int) (bad:Bool)=>⟨(some (3 * (101 - dp).toNat+1<n/\0<=a/\a<=(t.length:Int)/\t.length<=10000/\0<=dp/\dp<=100/\bad=false/\cm t a.toNat=40),[⟨(.st .expr),(ew t a dp).e⟩],[[⟨.str,t⟩,⟨(.int .i64),((ew t a dp).a:Int)⟩,⟨(.int .i64),((ew t a dp).dp:Int)⟩,⟨.bool,(ew t a dp).bad⟩]])⟩⟩
def fF(n:Nat):gl:=⟨kp,[[.d .str, .d (.int .i64), .d (.int .i64), .d .bool]],[.b 0],[[.str,(.int .i64),(.int .i64), .bool]],λ (t:List UInt8) (a:Int) (dp:Int) (bad:Bool)=>⟨(some (3 * (101 - dp).toNat<n/\0<=a/\a<=(t.length:Int)/\t.length<=10000/\0<=dp/\dp<=1000),[⟨(.st .expr),(gZ t a dp bad).e⟩],[[⟨.str,t⟩,⟨(.int .i64),((gZ t a dp bad).a:Int)⟩,⟨(.int .i64),((gZ t a dp bad).dp:Int)⟩,⟨.bool,(gZ t a dp bad).bad⟩]])⟩⟩
def pn:gl:=⟨kp,[[.d .str, .d (.int .i64), .d (.int .i64), .d .bool]],[.b 0],[[.str,(.int .i64),(.int .i64), .bool]],λ (t:List UInt8) (a:Int) (dp:Int) (bad:Bool)=>⟨(some (0<=a/\a<=(t.length:Int)/\t.length<=10000/\0<=dp/\dp<=1000),[⟨(.st .expr),(gZ t a dp bad).e⟩],[[⟨.str,t⟩,⟨(.int .i64),((gZ t a dp bad).a:Int)⟩,⟨(.int .i64),((gZ t a dp bad).dp:Int)⟩,⟨.bool,(gZ t a dp bad).bad⟩]])⟩⟩
def B6(t:List UInt8)(a:Int)(dp:Int)(bad:Bool):Nat->az:=bI
def z7(n:Nat)(hE:bD [])(hO:hJ [])(hM:jF [])(hS:im [cK,ju,fG n,dn n]):gl.Good (dn (n+1)):=by
 refine⟨ar iR,?_⟩;intro (t:List UInt8) (a:Int) (dp:Int) (bad:Bool) (hp:3 * (101 - dp).toNat+2<n+1/\0<=a/\a<=(t.length:Int)/\t.length<=10000/\0<=dp/\dp<=100/\bad=false);refine gK [] [] [] [cK,ju,fG n,dn n] [30,57,66,71] [] [] [] hE hO hM hS iR xF (B6 t a dp bad) rfl rfl (let v0:=ew t a dp;let v3:=dp+(1:Int);let v4:=a+(1:Int);let v6:=cm t a.toNat;let vb:=decide (v6=(116:Int));let vc:=decide (v6=(126:Int));let vd:=decide ((100:Int)<v3);let vf:=decide (v6=(40:Int));let vg:=(v0.dp:Int);let vh:=(v0.a:Int);let vi:=(t.length:Int);let v7:=3 * (101 - v3).toNat+2<n/\0<=v4/\v4<=vi/\t.length<=10000/\0<=v3/\v3<=100/\bad=false;let vj:=oR t a.toNat dp.toNat;let vk:=ew t v4 v3;let ve:=(vk.dp:Int);let vl:=v0.bad;let v1:=O (ve - (1:Int))/\((J.mk (5:Int) (0:Int) ([(aI (vk.e))]))=(v0.e)/\((t=t/\(((vk.a:Int))=vh/\((ve - (1:Int))=vg/\(vk.bad)=vl)))/\True));let v2:=(3 * (101 - dp).toNat+1<n/\0<=a/\a<=vi/\t.length<=10000/\0<=dp/\dp<=100/\bad=false/\cm t a.toNat=40)/\((aI (v0.e))=(v0.e)/\((t=t/\((vh)=vh/\((vg)=vg/\vl=vl)))/\True));let v5:=(aI (vj.e))=(v0.e)/\((t=t/\(((vj.a:Int))=vh/\(dp=vg/\(vj.bad)=vl)))/\True);let v8:=zE=(v0.e)/\((t=t/\(v4=vh/\(v3=vg/\true=vl)))/\True);let v9:=zE=(v0.e)/\((t=t/\(a=vh/\(dp=vg/\true=vl)))/\True);let va:=(t=t/\(v4=vh/\(dp=vg/\bad=vl)))/\True;(((0<=a/\a<=vi/\t.length<=10000)/\(((decide (v6=(48:Int)))=true->(O a->(O v4/\((J.mk (1:Int) (0:Int) [])=(v0.e)/\va))))/\((decide (v6=(48:Int)))=false->(((decide (v6=(49:Int)))=true->(O a->(O v4/\((J.mk (2:Int) (0:Int) [])=(v0.e)/\va))))/\((decide (v6=(49:Int)))=false->((vb=true->((vb=true->((0<=a/\a<=vi/\t.length<=10000/\0<=dp/\(cm t a.toNat=116\/cm t a.toNat=97)/\bad=false)/\v5))/\(vb=false->((vc=true->(O a->(O v4/\(O dp->(O v3/\(O v3->((vd=true->v8)/\(vd=false->(v7/\(O ve->v1))))))))))/\(vc=false->((vf=true->v2)/\(vf=false->v9)))))))/\(vb=false->(((decide (v6=(97:Int)))=true->((0<=a/\a<=vi/\t.length<=10000/\0<=dp/\(cm t a.toNat=116\/cm t a.toNat=97)/\bad=false)/\v5))/\((decide (v6=(97:Int)))=false->((vc=true->(O a->(O v4/\(O dp->(O v3/\(O v3->((vd=true->v8)/\(vd=false->(v7/\(O ve->v1))))))))))/\(vc=false->((vf=true->v2)/\(vf=false->v9))))))))))))))) ?_;obtain⟨hm,h0,h1,h2,h3,h4,h5⟩:=hp;subst h5;by_cases BM:cm t a.toNat=48
 .have l0:=sQ t a.toNat (by rw[BM];decide);obtain⟨q1,q2,q3,q4⟩:=b2u t a dp h0 h3 BM;simp only[b4k BM,(b3K (by omega):decide (cm t a.toNat=(49:Int))=false),(b3K (by omega):decide (cm t a.toNat=(116:Int))=false),(b3K (by omega):decide (cm t a.toNat=(97:Int))=false),(b3K (by omega):decide (cm t a.toNat=(126:Int))=false),(b3K (by omega):decide (cm t a.toNat=(40:Int))=false),q1,q2,q3,q4,b4j,b4f,b3B,b3z,b3D,b3C,b3V,b3W,b4b,b4g,b3L,b4u,b3O,O,aJ];repeat' (first|intro _|apply And.intro)
  all_goals first|exact True.intro|omega|with_reducible rfl
 .by_cases EM:cm t a.toNat=49
  .have l0:=sQ t a.toNat (by rw[EM];decide);obtain⟨q1,q2,q3,q4⟩:=b2v t a dp h0 h3 EM;simp only[(b3K (by omega):decide (cm t a.toNat=(48:Int))=false),b4k EM,(b3K (by omega):decide (cm t a.toNat=(116:Int))=false),(b3K (by omega):decide (cm t a.toNat=(97:Int))=false),(b3K (by omega):decide (cm t a.toNat=(126:Int))=false),(b3K (by omega):decide (cm t a.toNat=(40:Int))=false),q1,q2,q3,q4,b4j,b4f,b3B,b3z,b3D,b3C,b3V,b3W,b4b,b4g,b3L,b4u,b3O,O,aJ];repeat' (first|intro _|apply And.intro)
   all_goals first|exact True.intro|omega|with_reducible rfl
  .by_cases wa:cm t a.toNat=116
   .obtain⟨q1,q2,q3,q4⟩:=WW t a dp h0 h3;simp only[a1D t a dp (.inl wa),(b3K (by omega):decide (cm t a.toNat=(48:Int))=false),(b3K (by omega):decide (cm t a.toNat=(49:Int))=false),b4k wa,(b3K (by omega):decide (cm t a.toNat=(97:Int))=false),(b3K (by omega):decide (cm t a.toNat=(126:Int))=false),(b3K (by omega):decide (cm t a.toNat=(40:Int))=false),q3,b4j,b4f,b3B,b3z,b3D,b3C,b3V,b3W,b4b,b4g,b3L,b4u,b3O,O,aJ];repeat' (first|intro _|apply And.intro)
    all_goals first|exact True.intro|omega|with_reducible rfl
   .by_cases OX:cm t a.toNat=97
    .obtain⟨q1,q2,q3,q4⟩:=WW t a dp h0 h3;simp only[a1D t a dp (.inr OX),(b3K (by omega):decide (cm t a.toNat=(48:Int))=false),(b3K (by omega):decide (cm t a.toNat=(49:Int))=false),(b3K (by omega):decide (cm t a.toNat=(116:Int))=false),b4k OX,(b3K (by omega):decide (cm t a.toNat=(126:Int))=false),(b3K (by omega):decide (cm t a.toNat=(40:Int))=false),q3,b4j,b4f,b3B,b3z,b3D,b3C,b3V,b3W,b4b,b4g,b3L,b4u,b3O,O,aJ];repeat' (first|intro _|apply And.intro)
     all_goals first|exact True.intro|omega|with_reducible rfl
    .by_cases YI:cm t a.toNat=126
     .have l0:=sQ t a.toNat (by rw[YI];decide);by_cases hd:100<dp+1
      .obtain⟨q1,q2,q3,q4⟩:=a7i t a dp h0 h3 hd YI;simp only[hd,(b3K (by omega):decide (cm t a.toNat=(48:Int))=false),(b3K (by omega):decide (cm t a.toNat=(49:Int))=false),(b3K (by omega):decide (cm t a.toNat=(116:Int))=false),(b3K (by omega):decide (cm t a.toNat=(97:Int))=false),b4k YI,(b3K (by omega):decide (cm t a.toNat=(40:Int))=false),q1,q2,q3,q4,b4j,b4f,b3B,b3z,b3D,b3C,b3V,b3W,b4b,b4g,b3L,b4u,b3O,O,aJ];repeat' (first|intro _|apply And.intro)
       all_goals first|exact True.intro|omega|with_reducible rfl
      .obtain⟨q1,q2,q3,q4⟩:=a8I t a dp h0 (by omega) h3 hd YI;have b1:=PJ t (a+1) (dp+1) (by omega) (by omega) (by omega) (by omega);simp only[hd,(b3K (by omega):decide (cm t a.toNat=(48:Int))=false),(b3K (by omega):decide (cm t a.toNat=(49:Int))=false),(b3K (by omega):decide (cm t a.toNat=(116:Int))=false),(b3K (by omega):decide (cm t a.toNat=(97:Int))=false),b4k YI,(b3K (by omega):decide (cm t a.toNat=(40:Int))=false),q1,q2,q3,q4,b4j,b4f,b3B,b3z,b3D,b3C,b3V,b3W,b4b,b4g,b3L,b4u,b3O,O,aJ];repeat' (first|intro _|apply And.intro)
       all_goals first|exact True.intro|omega|with_reducible rfl
     .by_cases Vw:cm t a.toNat=40
      .simp only[(b3K (by omega):decide (cm t a.toNat=(48:Int))=false),(b3K (by omega):decide (cm t a.toNat=(49:Int))=false),(b3K (by omega):decide (cm t a.toNat=(116:Int))=false),(b3K (by omega):decide (cm t a.toNat=(97:Int))=false),(b3K (by omega):decide (cm t a.toNat=(126:Int))=false),b4k Vw,b4j,b4f,b3B,b3z,b3D,b3C,b3V,b3W,b4b,b4g,b3L,b4u,b3O,O,aJ];repeat' (first|intro _|apply And.intro)
       all_goals first|exact True.intro|omega|with_reducible rfl
      .obtain⟨q1,q2,q3,q4⟩:=a7j t a dp h0 h3 ⟨BM,EM,wa,OX,YI,Vw⟩;simp only[(b3K (by omega):decide (cm t a.toNat=(48:Int))=false),(b3K (by omega):decide (cm t a.toNat=(49:Int))=false),(b3K (by omega):decide (cm t a.toNat=(116:Int))=false),(b3K (by omega):decide (cm t a.toNat=(97:Int))=false),(b3K (by omega):decide (cm t a.toNat=(126:Int))=false),(b3K (by omega):decide (cm t a.toNat=(40:Int))=false),q1,q2,q3,q4,b4j,b4f,b3B,b3z,b3D,b3C,b3V,b3W,b4b,b4g,b3L,b4u,b3O,O,aJ];repeat' (first|intro _|apply And.intro)
       all_goals first|exact True.intro|omega|with_reducible rfl
def DS(t:List UInt8)(a:Int)(dp:Int)(bad:Bool):Nat->az:=bI
def Cd(n:Nat)(hE:bD [])(hO:hJ [])(hM:jF [])(hS:im [cK,jv,fF n]):gl.Good (fG (n+1)):=by
 refine⟨ar jh,?_⟩;intro (t:List UInt8) (a:Int) (dp:Int) (bad:Bool) (hp:3 * (101 - dp).toNat+1<n+1/\0<=a/\a<=(t.length:Int)/\t.length<=10000/\0<=dp/\dp<=100/\bad=false/\cm t a.toNat=40);refine gK [] [] [] [cK,jv,fF n] [9,27,32] [] [] [] hE hO hM hS jh zN (DS t a dp bad) rfl rfl (let v5:=(t.length:Int);let v7:=((dG t a.toNat (40:Int):Nat):Int);let v0:=gZ t v7 dp (fK t a.toNat (40:Int) bad);let v6:=(v0.dp:Int);let v8:=ew t a dp;let vc:=(v0.a:Int);let v1:=((dG t vc.toNat (32:Int):Nat):Int);let v9:=v1+(1:Int);let v4:=((dG t v9.toNat (32:Int):Nat):Int);let va:=fK t vc.toNat (32:Int) (v0.bad);let v2:=gZ t v4 v6 (fK t v9.toNat (32:Int) va);let v3:=gZ t v1 v6 va;let vb:=decide ((cm t v1.toNat)=(43:Int));let vd:=(v2.a:Int);let ve:=(v3.a:Int);(((0<=a/\a<=v5/\t.length<=10000)/\((3 * (101 - dp).toNat<n/\0<=v7/\v7<=v5/\t.length<=10000/\0<=dp/\dp<=1000)/\((0<=vc/\vc<=v5/\t.length<=10000)/\((0<=v1/\v1<=v5/\t.length<=10000)/\((vb=true->(O v1->(O v9/\((0<=v9/\v9<=v5/\t.length<=10000)/\((3 * (101 - v6).toNat<n/\0<=v4/\v4<=v5/\t.length<=10000/\0<=v6/\v6<=1000)/\((0<=vd/\vd<=v5/\t.length<=10000)/\((J.mk (6:Int) (0:Int) ([(aI (v0.e)),(aI (v2.e))]))=(v8.e)/\((t=t/\((((dG t vd.toNat (41:Int):Nat):Int))=(v8.a:Int)/\(((v2.dp:Int))=(v8.dp:Int)/\(fK t vd.toNat (41:Int) (v2.bad))=(v8.bad))))/\True))))))))/\(vb=false->((3 * (101 - v6).toNat<n/\0<=v1/\v1<=v5/\t.length<=10000/\0<=v6/\v6<=1000)/\((0<=ve/\ve<=v5/\t.length<=10000)/\((J.mk (7:Int) (0:Int) ([(aI (v0.e)),(aI (v3.e))]))=(v8.e)/\((t=t/\((((dG t ve.toNat (41:Int):Nat):Int))=(v8.a:Int)/\(((v3.dp:Int))=(v8.dp:Int)/\(fK t ve.toNat (41:Int) (v3.bad))=(v8.bad))))/\True)))))))))))) ?_;obtain⟨hm,h0,h1,h2,h3,h4,h5,h6⟩:=hp;subst h5;have l0:=sQ t a.toNat (by rw[h6];decide);obtain⟨g1,g2⟩:=b2K t a 40 h0 h6;have b1:=UB t (a+1) dp false (by omega) (by omega) h3;obtain⟨p1,p2⟩:=a7k t a dp h0 (by omega) h3 h4 h6 _ rfl;simp only[yE] at p1 p2;simp only[g1,g2,b3O];generalize gZ t (a+1) dp false=X at *
 have c1:=Fz t X.a 32 (by decide) (by omega);by_cases hs:cm t (dG t X.a 32)=43
 .obtain⟨q1,q2,q3,q4⟩:=p1 hs;have l1:=sQ t (dG t X.a 32) (by rw[hs];decide);have e1:(((dG t X.a 32:Nat):Int)+1).toNat=dG t X.a 32+1:=by omega
  have c2:=Fz t (dG t X.a 32+1) 32 (by decide) (by omega);have b2:=UB t ((dG t (dG t X.a 32+1) 32:Nat):Int) (X.dp:Int) (fK t (dG t X.a 32+1) 32 (fK t X.a 32 X.bad)) (by omega) (by omega) (by omega);simp only[hs,e1,q1,q2,q3,q4,b4j,b4f,b3B,b3z,b3D,b3C,b3V,b3W,b4b,b4g,b3L,b4u,b3O,O,aJ];generalize gZ t ((dG t (dG t X.a 32+1) 32:Nat):Int) (X.dp:Int) (fK t (dG t X.a 32+1) 32 (fK t X.a 32 X.bad))=Y at *
  have c3:=Fz t Y.a 41 (by decide) (by omega);repeat' (first|intro _|apply And.intro)
  all_goals first|exact True.intro|omega|with_reducible rfl
 .obtain⟨q1,q2,q3,q4⟩:=p2 hs;have b2:=UB t ((dG t X.a 32:Nat):Int) (X.dp:Int) (fK t X.a 32 X.bad) (by omega) (by omega) (by omega);simp only[hs,q1,q2,q3,q4,b4j,b4f,b3B,b3z,b3D,b3C,b3V,b3W,b4b,b4g,b3L,b4u,b3O,O,aJ];generalize gZ t ((dG t X.a 32:Nat):Int) (X.dp:Int) (fK t X.a 32 X.bad)=Y at *
  have c3:=Fz t Y.a 41 (by decide) (by omega);repeat' (first|intro _|apply And.intro)
  all_goals first|exact True.intro|omega|with_reducible rfl
def DQ(t:List UInt8)(a:Int)(dp:Int)(bad:Bool):Nat->az:=(cP 0 (.a (Nat) (λ m=>m<=sE t (ew t a (dp+1))) (λ m=>sE t (ew t a (dp+1)) - m) [4,5,6,7,8,9,10,11,12,13,14,15,16,17,18,19,20,21,26,27] (λ m=>[]) [2] (λ m=>[(400000, .box [.aF ⟨.str,(t:List UInt8)⟩, .aF ⟨(.int .i64),(((ew t a (dp+1)).a:Int)+(m:Int):Int)⟩, .aF ⟨(.int .i64),(((ew t a (dp+1)).dp:Int):Int)⟩, .aF ⟨.bool,((ew t a (dp+1)).bad:Bool)⟩]),(3, .box [.aF ⟨(.int .i64),((cq 8 m (ew t a (dp+1)).e).aq:Int)⟩, .aF ⟨(.int .i64),((cq 8 m (ew t a (dp+1)).e).aN:Int)⟩, .aw 7100]),(7100, .aw (.st .expr) ((cq 8 m (ew t a (dp+1)).e).M:List J))])) bI)
def Cc(n:Nat)(hE:bD [])(hO:hJ [])(hM:jF [])(hS:im [cK,dn n]):gl.Good (fF (n+1)):=by
 refine⟨ar fV,?_⟩;intro (t:List UInt8) (a:Int) (dp:Int) (bad:Bool) (hp:3 * (101 - dp).toNat<n+1/\0<=a/\a<=(t.length:Int)/\t.length<=10000/\0<=dp/\dp<=1000);refine gK [] [] [] [cK,dn n] [27,46] [] [] [] hE hO hM hS fV zL (DQ t a dp bad) rfl rfl (let v0:=ew t a (dp+1);let v3:=gZ t a dp bad;let v4:=(v0.a:Int);let v5:=(v0.dp:Int);let vc:=True/\True;let v6:=True/\(True/\vc);let vd:=(1:Int);let v2:=dp+vd;let v8:=3 * (101 - v2).toNat+2<n/\0<=a/\a<=(t.length:Int)/\t.length<=10000/\0<=v2/\v2<=100/\bad=false;let vb:=ew t a v2;let vf:=(0:Int);let v1:=(vf=vf/\(vf=vf/\vc))/\True;let vg:=(v3.a:Int);let va:=zE=(v3.e)/\((t=t/\(a=vg/\(v2=(v3.dp:Int)/\true=(v3.bad))))/\True);let vh:=v0.bad;let v7:=(v5 - vd)=(v3.dp:Int)/\vh=(v3.bad);let v9:=v5=v5/\(vh=vh/\True);let ve:=((vb.dp:Int))=v5/\((vb.bad)=vh/\True);((O dp->(O v2/\((bad=false->(O v2->(((decide ((100:Int)<v2))=true->va)/\((decide ((100:Int)<v2))=false->(v8/\((∃ m1:Nat,let vi:=cq 8 m1 v0.e;(m1<=sE t v0/\(v6/\((t=t/\(((vb.a:Int))=(v4+(m1:Int))/\ve))/\(((vb.e).aq=(vi.aq)/\((vb.e).aN=(vi.aN)/\vc))/\((vb.e).M=(vi.M)/\v1))))))/\(∀ m1:Nat,let vj:=v4+(m1:Int);let vl:=decide ((cm t vj.toNat)=(42:Int));let vm:=cq 8 m1 v0.e;let vi:=J.mk (vm.aq) (vm.aN) (vm.M);let vk:=O (v5 - vd)/\(vi=(v3.e)/\((t=t/\(vj=vg/\v7))/\True));(m1<=sE t v0->(((!vh)=true->((0<=vj/\vj<=(t.length:Int)/\t.length<=10000)/\((vl=true->(O vj->(O (vj+vd)/\(∃ m2:Nat,let vn:=cq 8 m2 v0.e;(m2<=sE t v0/\(sE t v0 - m2<sE t v0 - m1/\(v6/\((t=t/\((vj+vd)=(v4+(m2:Int))/\v9))/\(((8:Int)=(vn.aq)/\(vf=(vn.aN)/\vc))/\(([vi])=(vn.M)/\v1))))))))))/\(vl=false->(O v5->vk)))))/\((!vh)=(!true)->((false=true->(O vj->(O (vj+vd)/\(∃ m2:Nat,let vn:=cq 8 m2 v0.e;(m2<=sE t v0/\(sE t v0 - m2<sE t v0 - m1/\(v6/\((t=t/\((vj+vd)=(v4+(m2:Int))/\v9))/\(((8:Int)=(vn.aq)/\(vf=(vn.aN)/\vc))/\(([vi])=(vn.M)/\v1))))))))))/\(false=false->(O v5->vk)))))))))))))/\(bad=(!false)->((true=true->va)/\(true=false->(v8/\((∃ m1:Nat,let vi:=cq 8 m1 v0.e;(m1<=sE t v0/\(v6/\((t=t/\(((vb.a:Int))=(v4+(m1:Int))/\ve))/\(((vb.e).aq=(vi.aq)/\((vb.e).aN=(vi.aN)/\vc))/\((vb.e).M=(vi.M)/\v1))))))/\(∀ m1:Nat,let vj:=v4+(m1:Int);let vl:=decide ((cm t vj.toNat)=(42:Int));let vm:=cq 8 m1 v0.e;let vi:=J.mk (vm.aq) (vm.aN) (vm.M);let vk:=O (v5 - vd)/\(vi=(v3.e)/\((t=t/\(vj=vg/\v7))/\True));(m1<=sE t v0->(((!vh)=true->((0<=vj/\vj<=(t.length:Int)/\t.length<=10000)/\((vl=true->(O vj->(O (vj+vd)/\(∃ m2:Nat,let vn:=cq 8 m2 v0.e;(m2<=sE t v0/\(sE t v0 - m2<sE t v0 - m1/\(v6/\((t=t/\((vj+vd)=(v4+(m2:Int))/\v9))/\(((8:Int)=(vn.aq)/\(vf=(vn.aN)/\vc))/\(([vi])=(vn.M)/\v1))))))))))/\(vl=false->(O v5->vk)))))/\((!vh)=(!true)->((false=true->(O vj->(O (vj+vd)/\(∃ m2:Nat,let vn:=cq 8 m2 v0.e;(m2<=sE t v0/\(sE t v0 - m2<sE t v0 - m1/\(v6/\((t=t/\((vj+vd)=(v4+(m2:Int))/\v9))/\(((8:Int)=(vn.aq)/\(vf=(vn.aN)/\vc))/\(([vi])=(vn.M)/\v1))))))))))/\(false=false->(O v5->vk))))))))))))))))) ?_;obtain⟨hm,h0,h1,h2,h3,h4⟩:=hp;cases bad with
 | true =>
  obtain⟨q1,q2,q3,q4⟩:=a1m t a dp true h0 h3 (.inl rfl);simp only[q1,q2,q3,q4,b4j,b4f,b3B,b3z,b3D,b3C,b3V,b3W,b4b,b4g,b3L,b4u,b3O,O,aJ];repeat' (first|intro _|apply And.intro)
  all_goals first|exact True.intro|omega|with_reducible rfl
 | false =>
  by_cases hd:100<dp+1
  .obtain⟨q1,q2,q3,q4⟩:=a1m t a dp false h0 h3 (.inr hd);simp only[hd,q1,q2,q3,q4,b4j,b4f,b3B,b3z,b3D,b3C,b3V,b3W,b4b,b4g,b3L,b4u,b3O,O,aJ];repeat' (first|intro _|apply And.intro)
   all_goals first|exact True.intro|omega|with_reducible rfl
  .obtain⟨q1,q2,q3,q4⟩:=a8w t a dp false h0 h1 h3 rfl hd;have b1:=PJ t a (dp+1) h0 h1 (by omega) (by omega);have b2:=b1c t a (dp+1) h0 h1 (by omega) (by omega);simp only[hd,q1,q2,q3,q4,b4j,b4f,b3B,b3z,b3D,b3C,b3V,b3W,b4b,b4g,b3L,b4u,b3O,O,aJ];generalize ew t a (dp+1)=R at *
   cases hB:R.bad with
   | true =>
    have z:=a9b t R hB;simp only[hB,z,b4j,b4f,b3B,b3z,b3D,b3C,b3V,b3W,b4b,b4g,b3L,b4u,b3O,O,aJ];repeat' (first|intro _|apply And.intro)
    all_goals first|exact True.intro|omega|with_reducible rfl|exact⟨0,b4G _,by omega,⟨rfl,rfl⟩,rfl⟩|(simp only[J.eta];congr 1;omega)
   | false =>
    have z:=λ m h=>b1b t R m hB h;simp only[hB,b4j,b4f,b3B,b3z,b3D,b3C,b3V,b3W,b4b,b4g,b3L,b4u,b3O,O,aJ];repeat' (first|intro _|apply And.intro)
    all_goals (try simp only[b3v,b3u] at *)
    all_goals first|exact True.intro|omega|with_reducible rfl|exact⟨0,b4G _,by omega,⟨rfl,rfl⟩,rfl⟩|(rename_i m1 _ _ _;have g:=z m1 (by assumption);first|omega|(simp only[J.eta];congr 1;omega)|exact⟨m1+1,by omega,by omega,by omega,⟨by rw[dQ],by rw[dQ]⟩,by rw[dQ,J.eta]⟩)
def Yx:∀ n,im [dn n,fG n,fF n]
 | 0=>⟨⟨ar iR,λ _ _ _ _ h=>absurd h.1 (b4q _)⟩,⟨ar jh,λ _ _ _ _ h=>absurd h.1 (b4q _)⟩,⟨ar fV,λ _ _ _ _ h=>absurd h.1 (b4q _)⟩,ae⟩
 | n+1=>by
  have ih:=Yx n;exact⟨z7 n trivial trivial trivial ⟨dO,zn,ih.2.1,ih.1,ae⟩,Cd n trivial trivial trivial ⟨dO,zp,ih.2.2.1,ae⟩,Cc n trivial trivial trivial ⟨dO,ih.1,ae⟩,ae⟩
def zm:gl.Good pn :=
 ⟨ar fV,λ t a dp bad hp=>(Yx (3 * (101 - dp).toNat+1)).2.2.1.2 t a dp bad (⟨b4m _,hp⟩)⟩
end
end Go.Proofs.YtmjfpcajohhbeaaGreatDoor

set_option maxRecDepth 4000
set_option maxHeartbeats 4000000
namespace Go.Proofs.YtmjfpcajohhbeaaGreatDoor
noncomputable section
def Qw(gg:aU)(t:List UInt8):J:=bif bP gg&&decide (t.length<=4000) then oT gg t else zX
def Uq(gg:aU)(t:List UInt8):Int:=bif bP gg then (bif decide (t.length<=4000) then (bif fb gg t then 0 else 5) else 2) else 1
def a6J(t:List UInt8):gZ t 0 0 false=zB t:=rfl
def A8:aL:=⟨D2,[.v (.st .sig), .v .str],λ (gg:aU) (t:List UInt8)=>⟨(some (bP gg=true/\t.length<=8000),[⟨(.st .expr),oT gg t⟩,⟨.bool,fb gg t⟩])⟩⟩
def P3(gg:aU)(t:List UInt8):Nat->az:=bI
def Jq:aL.cS A8:=by
 refine⟨ar Am,?_⟩;intro (gg:aU) (t:List UInt8) (hp:bP gg=true/\t.length<=8000);refine bX [l9,IH] [] [] [tG] [12] [] [] [2] ⟨lp,Pe,ae⟩ trivial trivial ⟨Ek,ae⟩ Am Km (P3 gg t) (let v1:=zE=(oT gg t)/\false=(fb gg t);let v5:=xE t (40:Int) (0:Int);let v0:=aI (v5.e);let v2:=v0=(oT gg t)/\true=(fb gg t);let v3 := !decide ((bV v0)=t);let v4:=ec v0=true/\(bV v0).length<=1000000;let v6 := !(decide (((v5.a:Int))=((t.length:Int))));let v7 := !(cD gg v0);let v8 := !false;(((0<=(0:Int)/\(0:Int)<=(t.length:Int)/\t.length<=10000 /\ -1<=(40:Int)/\(40:Int)<=40)/\(((!(v5.ok))=false->(O ((v5.a:Int))->(O ((t.length:Int))->((v6=false->((v7=false->(v4/\((bV v0).length<=140737488355328->((v3=true->v1)/\(v3=false->v2)))))/\(v7=v8->((true=true->v1)/\(true=false->v2)))))/\(v6=v8->((true=false->(v4/\((bV v0).length<=140737488355328->((v3=true->v1)/\(v3=false->v2)))))/\(true=v8->((true=true->v1)/\(true=false->v2)))))))))/\((!(v5.ok))=v8->((true=false->((v7=false->(v4/\((bV v0).length<=140737488355328->((v3=true->v1)/\(v3=false->v2)))))/\(v7=v8->((true=true->v1)/\(true=false->v2)))))/\(true=v8->((true=false->(v4/\((bV v0).length<=140737488355328->((v3=true->v1)/\(v3=false->v2)))))/\(true=v8->((true=true->v1)/\(true=false->v2))))))))))) ?_;obtain⟨hg,hl⟩:=hp;have r1:fb gg t=((xE t 40 0).ok&&decide ((xE t 40 0).a=t.length)&&cD gg (xE t 40 0).e&&decide (bV (xE t 40 0).e=t)):=rfl;have r2:oT gg t=bif fb gg t then (xE t 40 0).e else zX:=rfl
 have r3:=E7 gg (xE t 40 0).e hg;rcases b4w (xE t 40 0).ok with h1|h1
 .by_cases h2:(xE t 40 0).a=t.length
  .have d2:decide (((xE t 40 0).a:Int)=(t.length:Int))=true:=b4k (by omega);rcases b4w (cD gg (xE t 40 0).e) with h3|h3
   .obtain⟨g1,g2,g3⟩:=r3 h3;by_cases h4:bV (xE t 40 0).e=t
    .have k1:fb gg t=true:=by rw[r1,h1,b4k h2,h3,b4k h4];rfl
     have k2:oT gg t=(xE t 40 0).e:=by rw[r2,k1];rfl
     simp only[h1,d2,h3,b4k h4,g1,k1,k2,b4j,b4f,b3B,b3z,b3D,b3C,b3V,b3W,b4b,b4g,b3L,b4u,b3O,O,aJ];repeat' (first|intro _|apply And.intro)
     all_goals first|exact True.intro|omega|with_reducible rfl
    .have k1:fb gg t=false:=by rw[r1,b3K h4];simp
     have k2:oT gg t=zX:=by rw[r2,k1];rfl
     simp only[h1,d2,h3,b3K h4,g1,k1,k2,b4j,b4f,b3B,b3z,b3D,b3C,b3V,b3W,b4b,b4g,b3L,b4u,b3O,O,aJ];repeat' (first|intro _|apply And.intro)
     all_goals first|exact True.intro|omega|with_reducible rfl
   .have k1:fb gg t=false:=by rw[r1,h3];simp
    have k2:oT gg t=zX:=by rw[r2,k1];rfl
    simp only[h1,d2,h3,k1,k2,b4j,b4f,b3B,b3z,b3D,b3C,b3V,b3W,b4b,b4g,b3L,b4u,b3O,O,aJ];repeat' (first|intro _|apply And.intro)
    all_goals first|exact True.intro|omega|with_reducible rfl
  .have d2:decide (((xE t 40 0).a:Int)=(t.length:Int))=false:=b3K (by omega);have k1:fb gg t=false:=by rw[r1,b3K h2];simp
   have k2:oT gg t=zX:=by rw[r2,k1];rfl
   simp only[h1,d2,k1,k2,b4j,b4f,b3B,b3z,b3D,b3C,b3V,b3W,b4b,b4g,b3L,b4u,b3O,O,aJ];repeat' (first|intro _|apply And.intro)
   all_goals first|exact True.intro|omega|with_reducible rfl
 .have k1:fb gg t=false:=by rw[r1,h1];rfl
  have k2:oT gg t=zX:=by rw[r2,k1];rfl
  simp only[h1,k1,k2,b4j,b4f,b3B,b3z,b3D,b3C,b3V,b3W,b4b,b4g,b3L,b4u,b3O,O,aJ];repeat' (first|intro _|apply And.intro)
  all_goals first|exact True.intro|omega|with_reducible rfl
def Bc:aL:=⟨D8,[.v (.st .sig), .v .str],λ (gg:aU) (t:List UInt8)=>⟨(none,[⟨(.st .expr),Qw gg t⟩,⟨(.int .i64),Uq gg t⟩])⟩⟩
def P7(gg:aU)(t:List UInt8):Nat->az:=bI
def Ju:aL.cS Bc:=by
 refine⟨ar As,?_⟩;intro (gg:aU) (t:List UInt8) _;refine bX [qm,sK] [] [] [pn] [20] [] [] [2] ⟨pZ,mH,ae⟩ trivial trivial ⟨zm,ae⟩ As Kt (P7 gg t) (let v2:=zE=(Qw gg t)/\(5:Int)=(Uq gg t);let v3:=(t.length:Int);let v5:=(0:Int);let v0:=gZ t v5 v5 false;let v1:=(aI (v0.e))=(Qw gg t)/\v5=(Uq gg t);let v4 := !(z6 gg (aI (v0.e)));let v6 := !(decide (((v0.a:Int))=(v3)));((((!(bP gg))=true->(zE=(Qw gg t)/\(1:Int)=(Uq gg t)))/\((!(bP gg))=false->(O (v3)->(((decide ((4000:Int)<(v3)))=true->(zE=(Qw gg t)/\(2:Int)=(Uq gg t)))/\((decide ((4000:Int)<(v3)))=false->((0<=v5/\v5<=v3/\t.length<=10000/\0<=v5/\v5<=1000)/\(((v0.bad)=false->(O ((v0.a:Int))->(O (v3)->((v6=false->((v4=true->v2)/\(v4=false->v1)))/\(v6=(!false)->((true=true->v2)/\(true=false->v1)))))))/\((v0.bad)=(!false)->((true=false->((v4=true->v2)/\(v4=false->v1)))/\(true=(!false)->((true=true->v2)/\(true=false->v1)))))))))))))) ?_;have r1:Qw gg t=bif bP gg&&decide (t.length<=4000) then oT gg t else zX:=rfl
 have r2:Uq gg t=bif bP gg then (bif decide (t.length<=4000) then (bif fb gg t then 0 else 5) else 2) else 1:=rfl
 have r3:fb gg t=false->oT gg t=zX:=λ h=>by unfold oT;rw[h];rfl
 rcases b4w (bP gg) with hg|hg
 .by_cases hl:t.length<=4000
  .have d1:decide ((4000:Int)<((t.length:Int)))=false:=decide_eq_false (by omega);have s0:=a7G gg t hg;rw[<-a6J] at s0;obtain⟨s1,s2⟩:=s0;have s3:z6 gg (gZ t 0 0 false).e=cD gg (gZ t 0 0 false).e:=by unfold z6;rw[hg];rfl
   simp only[r1,r2,hg,d1,b4k hl,s3,b6O,b6K,b4j,b4f,b3B,b3z,b3D,b3C,b3V,b3W,b4b,b4g,b3L,b4u,b3O,O,aJ];rcases b4w (gZ t 0 0 false).bad with h1|h1
   .have k:fb gg t=false:=by rw[<-s1,h1];rfl
    simp only[h1,k,r3 k,b6X,b4j,b4f,b3B,b3z,b3D,b3C,b3V,b3W,b4b,b4g,b3L,b4u,b3O,O,aJ];repeat' (first|intro _|apply And.intro)
    all_goals first|exact True.intro|omega|with_reducible rfl|with_reducible assumption
   .by_cases h2:(gZ t 0 0 false).a=t.length
    .have d2:decide (((gZ t 0 0 false).a:Int)=(t.length:Int))=true:=b4k (by omega);rcases b4w (cD gg (gZ t 0 0 false).e) with h3|h3
     .have k:fb gg t=true:=by rw[<-s1,h1,b4k h2,h3];rfl
      have k2:=s2 k;simp only[h1,d2,h3,k,b6K,b4j,b4f,b3B,b3z,b3D,b3C,b3V,b3W,b4b,b4g,b3L,b4u,b3O,O,aJ];repeat' (first|intro _|apply And.intro)
      all_goals first|exact True.intro|omega|with_reducible rfl|with_reducible assumption
     .have k:fb gg t=false:=by rw[<-s1,h3];simp
      simp only[h1,d2,h3,k,r3 k,b6X,b4j,b4f,b3B,b3z,b3D,b3C,b3V,b3W,b4b,b4g,b3L,b4u,b3O,O,aJ];repeat' (first|intro _|apply And.intro)
      all_goals first|exact True.intro|omega|with_reducible rfl|with_reducible assumption
    .have d2:decide (((gZ t 0 0 false).a:Int)=(t.length:Int))=false:=b3K (by omega);have k:fb gg t=false:=by rw[<-s1,b3K h2];simp
     simp only[h1,d2,k,r3 k,b6X,b4j,b4f,b3B,b3z,b3D,b3C,b3V,b3W,b4b,b4g,b3L,b4u,b3O,O,aJ];repeat' (first|intro _|apply And.intro)
     all_goals first|exact True.intro|omega|with_reducible rfl|with_reducible assumption
  .have d1:decide ((4000:Int)<((t.length:Int)))=true:=b4k (by omega);simp only[r1,r2,hg,d1,b3K hl,b4U,b6K,b6X,b4j,b4f,b3B,b3z,b3D,b3C,b3V,b3W,b4b,b4g,b3L,b4u,b3O,O,aJ];repeat' (first|intro _|apply And.intro)
   all_goals first|exact True.intro|omega|with_reducible rfl|with_reducible assumption
 .simp only[r1,r2,hg,b4P,b6X,b4j,b4f,b3B,b3z,b3D,b3C,b3V,b3W,b4b,b4g,b3L,b4u,b3O,O,aJ];repeat' (first|intro _|apply And.intro)
  all_goals first|exact True.intro|omega|with_reducible rfl|with_reducible assumption
end
end Go.Proofs.YtmjfpcajohhbeaaGreatDoor

set_option maxRecDepth 4000
set_option maxHeartbeats 4000000
namespace Go.Proofs.YtmjfpcajohhbeaaGreatDoor
noncomputable section
def eqL(t:List UInt8):List UInt8:=pd t [32,61,32]
def eqR(t:List UInt8):List UInt8:=ky t [32,61,32]
def eqC(t:List UInt8):Bool:=s9 t [32,61,32]
def zQ:au:=au.mk zE zE
def tS(gg:aU)(t:List UInt8):Bool:=eqC t&&fb gg (eqL t)&&fb gg (eqR t)
def NQ(gg:aU)(t:List UInt8):au:=bif tS gg t then au.mk (oT gg (eqL t)) (oT gg (eqR t)) else zQ
def Sj(gg:aU)(t:List UInt8):au:=bif eqC t then au.mk (Qw gg (eqL t)) (Qw gg (eqR t)) else zQ
def a5L(gg:aU)(t:List UInt8)(hg:bP gg=true)(h:fb gg t=true):t.length<=1000:=by
 simp only[fb,b3A,b3v] at h;obtain⟨⟨_,h2⟩,h3⟩:=h;have:=E7 gg _ hg h2;have e:=congrArg List.length h3;omega
def a0C(gg:aU)(t:List UInt8)(hg:bP gg=true):(decide (Uq gg t=0)=fb gg t)/\(fb gg t=true->Qw gg t=oT gg t):=by
 unfold Uq Qw;rw[hg];rcases Bool.eq_false_or_eq_true (fb gg t) with h|h
 .have:=a5L gg t hg h;rw[h,b4k (show t.length<=4000 by omega)];exact⟨rfl,λ _=>rfl⟩
 .rw[h];refine⟨?_,λ q=>by cases q⟩;cases decide (t.length<=4000)<;>rfl
def a9a(gg:aU)(t:List UInt8)(hg:bP gg=true)(h:tS gg t=true):Sj gg t=NQ gg t:=by
 unfold Sj NQ;rw[h];simp only[tS,Bool.and_eq_true] at h;rw[h.1.1,(a0C gg _ hg).2 h.1.2,(a0C gg _ hg).2 h.2]
def Zt(gg:aU)(t:List UInt8):tS gg t=(s9 t [32,61,32]&&fb gg (pd t [32,61,32])&&fb gg (ky t [32,61,32])) /\
  (tS gg t=true->NQ gg t=au.mk (oT gg (pd t [32,61,32])) (oT gg (ky t [32,61,32])))/\(tS gg t=false->NQ gg t=au.mk zE zE):=by
 refine⟨rfl,λ h=>?_,λ h=>?_⟩<;>· unfold NQ;rw[h];rfl
def a3O(gg:aU)(t:List UInt8):(s9 t [32,61,32]=true->C3 t [32,61,32]=pd t [32,61,32]/\Sj gg t=au.mk (Qw gg (pd t [32,61,32])) (Qw gg (ky t [32,61,32]))) /\
  (s9 t [32,61,32]=false->Sj gg t=au.mk zE zE):=by
 refine⟨λ h=>⟨?_,?_⟩,λ h=>?_⟩
 .unfold C3;rw[h];rfl
 .unfold Sj eqC;rw[h];rfl
 .unfold Sj eqC;rw[h];rfl
def qZ:aL:=⟨tK,[.v (.st .sig), .v .str],λ (gg:aU) (t:List UInt8)=>⟨(some (bP gg=true/\t.length<=8000),[⟨(.st .equation),NQ gg t⟩,⟨.bool,tS gg t⟩])⟩⟩
def Ht(gg:aU)(t:List UInt8):Nat->az:=bI
abbrev pf(gg:aU)(t:List UInt8):Prop:=(let v0:=ky t ([32,61,32]);(((!(fb gg v0))=true ->
 ((au.mk zE zE)=(NQ gg t)/\false=(tS gg t)))/\((!(fb gg v0))=false ->
 ((au.mk (aI (oT gg (pd t ([32,61,32])))) (aI (oT gg v0)))=(NQ gg t)/\true=(tS gg t)))))
abbrev pg(gg:aU)(t:List UInt8):Prop:=((true=true ->
 ((au.mk zE zE)=(NQ gg t)/\false=(tS gg t)))/\(true=false ->
 ((au.mk (aI (oT gg (pd t ([32,61,32])))) (aI (oT gg (ky t ([32,61,32])))))=(NQ gg t)/\true=(tS gg t))))
def Ca:aL.cS qZ:=by
 refine⟨ar qN,?_⟩;intro (gg:aU) (t:List UInt8) (hp:bP gg=true/\t.length<=8000);refine bX [IN] [A8] [] [] [22,28] [] [] [2] ⟨Pn,ae⟩ ⟨Jq,ae⟩ trivial trivial qN CQ (Ht gg t) (let v0:=[32,61,32];((t.length<=1048576/\((pd t v0).length<=140737488355328->((ky t v0).length<=140737488355328->((bP gg=true/\(pd t v0).length<=8000)/\((bP gg=true/\(ky t v0).length<=8000)/\(((!(s9 t v0))=false->(((!(fb gg (pd t v0)))=false->(pf gg t))/\((!(fb gg (pd t v0)))=(!false)->(pg gg t))))/\((!(s9 t v0))=(!false)->((true=false->(pf gg t))/\(true=(!false)->(pg gg t)))))))))))) ?_;obtain⟨f2,f3,f4⟩:=Zt gg t;have f0:(pd t [32,61,32]).length<=t.length/\(ky t [32,61,32]).length<=t.length:=YH t _;refine⟨?_,λ _ _=>⟨?_,?_,λ _=>⟨λ _=>⟨λ _=>⟨?_,?_⟩,λ _=>⟨?_,?_⟩⟩,λ _=>⟨λ _=>⟨?_,?_⟩,λ _=>⟨?_,?_⟩⟩⟩,λ _=>⟨λ _=>⟨λ _=>⟨?_,?_⟩,λ _=>⟨?_,?_⟩⟩,λ _=>⟨λ _=>⟨?_,?_⟩,λ _=>⟨?_,?_⟩⟩⟩⟩⟩;all_goals try and_intros
 all_goals try (first|with_reducible rfl|with_reducible assumption)
 all_goals try simp only[J.eta,ag.eta,au.eta,aJ,bm,bH] at *
 all_goals first|rfl|trivial|omega|(simp only[b3v,b3u,b3I,b3Q,b3z,b3B,ak,O,b3G,b3T] at *;first|omega|grind)|grind
def sb:aL:=⟨GL,[.v (.st .sig), .v .str],λ (gg:aU) (t:List UInt8)=>⟨(some (bP gg=true/\t.length<=8000),[⟨(.st .equation),Sj gg t⟩,⟨.bool,tS gg t⟩])⟩⟩
def RX(gg:aU)(t:List UInt8):Nat->az:=bI
def Lf:aL.cS sb:=by
 refine⟨ar CI,?_⟩;intro (gg:aU) (t:List UInt8) (hp:bP gg=true/\t.length<=8000);refine bX [IM] [Bc] [] [] [25,31] [] [] [2] ⟨Pk,ae⟩ ⟨Ju,ae⟩ trivial trivial CI Mm (RX gg t) (let v0:=[32,61,32];let v1:=au.mk (aI (Qw gg (C3 t v0))) (aI (Qw gg (ky t v0)));let v2:=decide ((Uq gg (C3 t v0))=(0:Int));(((t.length<=1048576/\1<=v0.length/\v0.length<=100)/\((C3 t v0).length<=140737488355328->((ky t v0).length<=140737488355328->(((!(s9 t v0))=true->((au.mk zE zE)=(Sj gg t)/\false=(tS gg t)))/\((!(s9 t v0))=false->(O (Uq gg (C3 t v0))->(O (Uq gg (ky t v0))->((v2=true->(v1=(Sj gg t)/\(decide ((Uq gg (ky t v0))=(0:Int)))=(tS gg t)))/\(v2=(!true)->(v1=(Sj gg t)/\false=(tS gg t))))))))))))) ?_;obtain⟨f3,f4⟩:=a3O gg t;have f5:=(Zt gg t).1;have f1:=(a0C gg (pd t [32,61,32]) hp.1).1;have f2:=(a0C gg (ky t [32,61,32]) hp.1).1;refine⟨?_,λ _ _=>⟨λ _=>⟨?_,?_⟩,λ _ _ _=>⟨λ _=>⟨?_,?_⟩,λ _=>⟨?_,?_⟩⟩⟩⟩;all_goals try and_intros
 all_goals try (first|with_reducible rfl|with_reducible assumption)
 all_goals try simp only[J.eta,ag.eta,au.eta,aJ,bm,bH] at *
 all_goals first|rfl|trivial|omega|(simp only[b3v,b3u,b3I,b3Q,b3z,b3B,ak,O,b3G,b3T] at *;first|omega|grind)|grind
end
end Go.Proofs.YtmjfpcajohhbeaaGreatDoor

set_option maxRecDepth 4000
set_option maxHeartbeats 4000000
namespace Go.Proofs.YtmjfpcajohhbeaaGreatDoor
noncomputable section
def gP:aU:=aU.mk (3:Int) (4:Int)
def om:List (List UInt8):=[[40,97,48,32,43,32,40,97,49,32,43,32,97,50,41,41,32,61,32,40,40,97,48,32,43,32,97,49,41,32,43,32,97,50,41],[40,97,48,32,43,32,97,49,41,32,61,32,40,97,49,32,43,32,97,48,41],[40,97,48,32,43,32,48,41,32,61,32,97,48],[40,97,48,32,43,32,97,48,41,32,61,32,97,48],[40,97,48,32,40,97,49,32,97,50,41,41,32,61,32,40,40,97,48,32,97,49,41,32,97,50,41],[40,49,32,97,48,41,32,61,32,97,48],[40,97,48,32,49,41,32,61,32,97,48],[40,97,48,32,40,97,49,32,43,32,97,50,41,41,32,61,32,40,40,97,48,32,97,49,41,32,43,32,40,97,48,32,97,50,41,41],[40,40,97,48,32,43,32,97,49,41,32,97,50,41,32,61,32,40,40,97,48,32,97,50,41,32,43,32,40,97,49,32,97,50,41,41],[40,48,32,97,48,41,32,61,32,48],[40,97,48,32,48,41,32,61,32,48],[40,49,32,43,32,40,97,48,32,97,48,42,41,41,32,61,32,97,48,42],[40,49,32,43,32,40,97,48,42,32,97,48,41,41,32,61,32,97,48,42],[40,116,48,32,116,48,41,32,61,32,116,48],[40,116,48,32,116,49,41,32,61,32,40,116,49,32,116,48,41],[40,116,48,32,43,32,126,116,48,41,32,61,32,49],[40,116,48,32,126,116,48,41,32,61,32,48],[126,126,116,48,32,61,32,116,48],[126,40,116,48,32,43,32,116,49,41,32,61,32,40,126,116,48,32,126,116,49,41],[126,40,116,48,32,116,49,41,32,61,32,40,126,116,48,32,43,32,126,116,49,41],[126,48,32,61,32,49],[126,49,32,61,32,48],[40,116,48,32,43,32,49,41,32,61,32,49],[40,40,116,48,32,43,32,116,49,41,32,40,116,48,32,43,32,116,50,41,41,32,61,32,40,116,48,32,43,32,40,116,49,32,116,50,41,41]]
def GU:List au:=om.map (NQ gP)
def nM:om.length=24:=rfl
def b0h:om.all (λ t=>tS gP t&&decide (t.length<=100))=true:=by kernel_rfl
def a2E(i:Nat)(h:i<24):tS gP (om.getD i [])=true/\(om.getD i []).length<=100/\Sj gP (om.getD i [])=NQ gP (om.getD i []):=by
 have hm:om.getD i []∈om:=by
  rw[b3N,b3Z (by rw[nM];exact h)];exact b4Q _
 have:=b4r.1 b0h _ hm;rw[b3A,b3v] at this;exact⟨this.1,this.2,a9a gP _ (by decide) this.1⟩
def Ot(i:Nat):List au:=(om.take i).map (NQ gP)
def a5f(i:Nat)(h:i<24):Ot (i+1)=Ot i++[NQ gP (om.getD i [])]:=by
 unfold Ot;rw[cj [] om i (by rw[nM];exact h)];simp
def a6t(i:Nat)(h:24<=i):Ot i=GU:=by
 unfold Ot GU;rw[List.take_of_length_le (by rw[nM];exact h)]
def a6u(i:Nat)(h:i<=24):(Ot i).length=i:=by
 unfold Ot;rw[List.length_map,List.length_take,nM];omega
def yK:aL:=⟨yX,[],⟨(none,[⟨(.st .sig),gP⟩])⟩⟩
def Nk :Nat->az:=bI
def Hf:aL.Good yK:=by
 refine⟨ar vO,?_⟩;intro  _;refine aV [] [] [] [] trivial vO GY (Nk ) ((aU.mk (3:Int) (4:Int))=gP) ?_;refine ?_;all_goals try and_intros
 all_goals first|rfl|trivial|omega|(simp only[b3v,b3u,ak,O,bS,cB,bJ,aY] at *;omega)|(simp[ak,O] at *;omega)|grind
def Gp:aL:=⟨GP,[],⟨(none,[⟨(.st .sig),gP⟩])⟩⟩
def T8 :Nat->az:=bI
def M0:aL.Good Gp:=by
 refine⟨ar CN,?_⟩;intro  _;refine aV [] [] [] [] trivial CN Mq (T8 ) ((aU.mk (3:Int) (4:Int))=gP) ?_;refine ?_;all_goals try and_intros
 all_goals first|rfl|trivial|omega|(simp only[b3v,b3u,ak,O,bS,cB,bJ,aY] at *;omega)|(simp[ak,O] at *;omega)|grind
def kW:aL:=⟨ri,[],⟨(none,[⟨(.slice .str),om⟩])⟩⟩
def Hr :Nat->az:=bI
def nO:aL.Good kW:=by
 refine⟨ar pI,?_⟩;intro  _;refine aV [] [] [] [] trivial pI BE (Hr ) (([([40,97,48,32,43,32,40,97,49,32,43,32,97,50,41,41,32,61,32,40,40,97,48,32,43,32,97,49,41,32,43,32,97,50,41]),([40,97,48,32,43,32,97,49,41,32,61,32,40,97,49,32,43,32,97,48,41]),([40,97,48,32,43,32,48,41,32,61,32,97,48]),([40,97,48,32,43,32,97,48,41,32,61,32,97,48]),([40,97,48,32,40,97,49,32,97,50,41,41,32,61,32,40,40,97,48,32,97,49,41,32,97,50,41]),([40,49,32,97,48,41,32,61,32,97,48]),([40,97,48,32,49,41,32,61,32,97,48]),([40,97,48,32,40,97,49,32,43,32,97,50,41,41,32,61,32,40,40,97,48,32,97,49,41,32,43,32,40,97,48,32,97,50,41,41]),([40,40,97,48,32,43,32,97,49,41,32,97,50,41,32,61,32,40,40,97,48,32,97,50,41,32,43,32,40,97,49,32,97,50,41,41]),([40,48,32,97,48,41,32,61,32,48]),([40,97,48,32,48,41,32,61,32,48]),([40,49,32,43,32,40,97,48,32,97,48,42,41,41,32,61,32,97,48,42]),([40,49,32,43,32,40,97,48,42,32,97,48,41,41,32,61,32,97,48,42]),([40,116,48,32,116,48,41,32,61,32,116,48]),([40,116,48,32,116,49,41,32,61,32,40,116,49,32,116,48,41]),([40,116,48,32,43,32,126,116,48,41,32,61,32,49]),([40,116,48,32,126,116,48,41,32,61,32,48]),([126,126,116,48,32,61,32,116,48]),([126,40,116,48,32,43,32,116,49,41,32,61,32,40,126,116,48,32,126,116,49,41]),([126,40,116,48,32,116,49,41,32,61,32,40,126,116,48,32,43,32,126,116,49,41]),([126,48,32,61,32,49]),([126,49,32,61,32,48]),([40,116,48,32,43,32,49,41,32,61,32,49]),([40,40,116,48,32,43,32,116,49,41,32,40,116,48,32,43,32,116,50,41,41,32,61,32,40,116,48,32,43,32,40,116,49,32,116,50,41,41])])=om) ?_;refine ?_;all_goals try and_intros
 all_goals first|rfl|trivial|omega|(simp only[b3v,b3u,ak,O,bS,cB,bJ,aY] at *;omega)|(simp[ak,O] at *;omega)|grind
def uV:aL:=⟨I4,[],⟨(none,[⟨(.slice (.st .equation)),GU⟩])⟩⟩
def Ub :Nat->az:=(cP 0 (.mk (Nat) (λ i=>i<=24) (λ i=>24 - i) [7] [0,6] (λ i=>[(9, .aF ⟨(.int .i64),((i:Int):Int)⟩),(8, .aF ⟨(.int .i64),((24:Int):Int)⟩),(7, .aF ⟨(.slice .str),(om:List (List UInt8))⟩),(1, .aw 2300)]) [] (λ i=>[(2300, .aw (.st .equation) (Ot i:List au))]) [] [] (λ i=>bI)) bI)
def NA:aL.cS uV:=by
 refine⟨ar FE,?_⟩;intro  _;refine bX [yK] [qZ] [] [] [6,16,21,22] [] [] [] ⟨Hf,ae⟩ ⟨Ca,ae⟩ trivial trivial FE Ou (Ub ) (let v0:=[([40,97,48,32,43,32,40,97,49,32,43,32,97,50,41,41,32,61,32,40,40,97,48,32,43,32,97,49,41,32,43,32,97,50,41]),([40,97,48,32,43,32,97,49,41,32,61,32,40,97,49,32,43,32,97,48,41]),([40,97,48,32,43,32,48,41,32,61,32,97,48]),([40,97,48,32,43,32,97,48,41,32,61,32,97,48]),([40,97,48,32,40,97,49,32,97,50,41,41,32,61,32,40,40,97,48,32,97,49,41,32,97,50,41]),([40,49,32,97,48,41,32,61,32,97,48]),([40,97,48,32,49,41,32,61,32,97,48]),([40,97,48,32,40,97,49,32,43,32,97,50,41,41,32,61,32,40,40,97,48,32,97,49,41,32,43,32,40,97,48,32,97,50,41,41]),([40,40,97,48,32,43,32,97,49,41,32,97,50,41,32,61,32,40,40,97,48,32,97,50,41,32,43,32,40,97,49,32,97,50,41,41]),([40,48,32,97,48,41,32,61,32,48]),([40,97,48,32,48,41,32,61,32,48]),([40,49,32,43,32,40,97,48,32,97,48,42,41,41,32,61,32,97,48,42]),([40,49,32,43,32,40,97,48,42,32,97,48,41,41,32,61,32,97,48,42]),([40,116,48,32,116,48,41,32,61,32,116,48]),([40,116,48,32,116,49,41,32,61,32,40,116,49,32,116,48,41]),([40,116,48,32,43,32,126,116,48,41,32,61,32,49]),([40,116,48,32,126,116,48,41,32,61,32,48]),([126,126,116,48,32,61,32,116,48]),([126,40,116,48,32,43,32,116,49,41,32,61,32,40,126,116,48,32,126,116,49,41]),([126,40,116,48,32,116,49,41,32,61,32,40,126,116,48,32,43,32,126,116,49,41]),([126,48,32,61,32,49]),([126,49,32,61,32,48]),([40,116,48,32,43,32,49,41,32,61,32,49]),([40,40,116,48,32,43,32,116,49,41,32,40,116,48,32,43,32,116,50,41,41,32,61,32,40,116,48,32,43,32,40,116,49,32,116,50,41,41])];((O ((v0.length:Int))->((∃ i1:Nat,(i1<=24/\((True/\(v0=om/\(((v0.length:Int))=(24:Int)/\((0:Int)=(i1:Int)/\True))))/\([]=(Ot i1)/\True))))/\(∀ i1:Nat,let v1:=[(lL (NQ (gP) (om.getD i1 [])))];let v2:=decide ((i1:Int)<(24:Int));(i1<=24->((v2=true->(ak (i1:Int) om.length/\((om.getD i1 []).length<=140737488355328->((bP (gP)=true/\(om.getD i1 []).length<=8000)/\(aY ((Ot i1).length+v1.length) 80/\(O ((i1:Int)+(1:Int))/\(∃ i2:Nat,(i2<=24/\(24 - i2<24 - i1/\((True/\(om=om/\((24:Int)=(24:Int)/\(((i1:Int)+(1:Int))=(i2:Int)/\True))))/\(((Ot i1)++v1)=(Ot i2)/\True)))))))))))/\(v2=false->(Ot i1)=GU)))))))) ?_;have f0:=nM;have f1:bP gP=true:=by decide
 have f2:Ot 0=[]:=rfl;refine λ _=>⟨⟨0,?_,⟨ae,?_,?_,?_,ae⟩,?_,ae⟩,λ i1 _=>have HO:=a2E i1;have HP:=a5f i1;have HQ:=a6t i1;have Vh:=a6u i1;⟨λ _=>⟨?_,λ _=>⟨?_,?_,?_,i1+1,?_,?_,⟨ae,rfl,rfl,?_,ae⟩,?_,ae⟩⟩,λ _=>?_⟩⟩;all_goals try and_intros
 all_goals try (first|with_reducible rfl|with_reducible assumption)
 all_goals try simp only[J.eta,ag.eta,au.eta,aJ,bm,bH] at *
 all_goals first|rfl|trivial|omega|(simp only[b3v,b3u,aY,ak,O,b3G,b3T] at *;first|omega|grind)|grind
end
end Go.Proofs.YtmjfpcajohhbeaaGreatDoor

/- VmPf1, VmSame2, VmShelf3, VmCut, VmWe, VmText, VmWord2, VmRExpr, VmRExpr2, VmRdm, VmRds, VmRdx, VmEqn, VmAxi. -/
import Derived.Test.YtmjfpcajohhbeaaGreatDoorVmWord
import Derived.Shelf.Strings.Builder1
import Derived.Shelf.Strconv.Itoa0
import Derived.Shelf.Strconv.Itoa1
import Derived.Shelf.LaysM
import Derived.Shelf.Strconv.Itoa2
import Derived.Shelf.Strconv.Itoa3
import Derived.Shelf.Strings.Search1
import Derived.Shelf.Strings.Search2
import Derived.Shelf.Strings.Cut
import Derived.Shelf.Strings.Shaped
import Derived.Shelf.Strings.Prefix
import Derived.Test.YtmjfpcajohhbeaaGreatDoorProg
set_option linter.all false
set_option maxRecDepth 4000
set_option maxHeartbeats 4000000
namespace Go.Proofs.YtmjfpcajohhbeaaGreatDoor
def b3M:=@Bool.true_eq_false
def b7F:=@Go.Lib.size_eq
def b7G:=@Nat.le_succ
def b6R:=@UInt8.toNat_ofNat'
def b6q:=@List.drop_succ_cons
def b4t:=@decide_true
def b6W:=@Bool.and_self
def b6S:=@cond_true
def b4o:=@decide_false
def b4c:=@not_true_eq_false
def b4d:=@not_false_eq_true
def b4k:=@false_implies
def b4p:=@true_implies
def b4G:=@Bool.eq_false_or_eq_true
def b5o:=@Bool.and_true
def b6w:=@cond_false
noncomputable section
def HX(x:J)(ps:List Int):J:=bif er x ps then dN x ps else J.mk (0:Int) (0:Int) []
def Fa(x:J)(ps:List Int):Bool:=er x ps&&p7 x ps
def DY.no{x:J}{ks:List Int}{k:Nat}(h:DY x ks k)(hk:k<ks.length)(hb:¬ (0<=ks.getD k 0/\ks.getD k 0<=((dN x (ks.take k)).M.length:Int) - 1)):HX x ks=J.mk (0:Int) (0:Int) []/\Fa x ks=false/\er x ks=false:=by
 have:=h.bad hk hb;unfold HX Fa;rw[this];exact⟨rfl,rfl,rfl⟩
def DY.yes{x:J}{ks:List Int}{k:Nat}(h:DY x ks k)(hk:ks.length<=k):HX x ks=dN x (ks.take k)/\Fa x ks=p7 x (ks.take k)/\er x ks=true:=by
 have:=h.done hk;have e:=a1i x ks k hk;unfold HX Fa;rw[this,e.2.1,e.2.2];exact⟨rfl,rfl,rfl⟩
def rH:aH:=⟨A7,[.v (.st .expr), .v (.slice (.int .i64))],λ (x:J) (ps:List Int)=>⟨(none,[⟨(.st .expr),HX x ps⟩,⟨.bool,Fa x ps⟩,⟨.bool,er x ps⟩])⟩⟩
def Xt(x:J)(ps:List Int):Nat->aE:=(λ zb=>if Nat.beq zb 0 then .mk (Nat) (λ k=>DY x ps k) (λ k=>ps.length - k) [] [0,1] (λ k=>[(11, .aI ⟨(.int .i64),((k:Int):Int)⟩),(5, .aI ⟨.bool,(p7 x (ps.take k):Bool)⟩)]) [4] (λ k=>[(2, .box [.aI ⟨(.int .i64),((dN x (ps.take k)).aq:Int)⟩, .aI ⟨(.int .i64),((dN x (ps.take k)).aM:Int)⟩, .aI ⟨(.slice (.st .expr)),((dN x (ps.take k)).M:List J)⟩])]) [] [] (λ k=>λ _ => .none) else .none)
abbrev EW(x:J)(ps:List Int)(k1:Nat)(k2:Nat):Prop:=(let v0:=((dN x (ps.take k1)).M).getD (Int.toNat (ps.getD k1 (0:Int))) zE;let v1:=dN x (ps.take k2);((v0.aq=(v1.aq)/\(v0.aM=(v1.aM)/\(v0.M=(v1.M)/\True)))/\(((0:Int)=(0:Int)/\((0:Int)=(0:Int)/\(True/\True)))/\True)))
def Vm(hE:aC [fb]):aH.Good rH:=by
 refine⟨au GW rfl (by decide),?_⟩;show ∀ (x:J) (ps:List Int),True->bd prog A7 [.val ⟨(.st .expr),x⟩, .val ⟨(.slice (.int .i64)),ps⟩] (·=[⟨(.st .expr),HX x ps⟩,⟨.bool,Fa x ps⟩,⟨.bool,er x ps⟩]);intro x ps _;refine aU (wr:=[]) (cl:=[]) (ro:=[]) hE GW O7 (Xt x ps) (let v0:=(ps.length:Int);let v1:=(0:Int);let v2:=(1:Int);((O v0->((∃ k1:Nat,let v3:=dN x (ps.take k1);(DY x ps k1/\((True/\(True/\(false=(p7 x (ps.take k1))/\(ps=ps/\(v0=v0/\(v1=(k1:Int)/\True))))))/\((x.aq=(v3.aq)/\(x.aM=(v3.aM)/\(x.M=(v3.M)/\True)))/\((v1=v1/\(v1=v1/\(True/\True)))/\True)))))/\(∀ k1:Nat,let v3:=dN x (ps.take k1);let v5:=ps.getD k1 v1;let v6:=v3.M;let v7:=(k1:Int)+v2;let v8:=p7 x (ps.take k1);let v9:=(v6.length:Int);let v4 := !(decide (v1<=v5/\v5<=(v9 - v2)));(DY x ps k1->(((decide ((k1:Int)<v0))=true->(ak (k1:Int) ps.length/\(O v5->(v6.length<=140737488355328->(O v9->(O (v9 - v2)/\(((v4=true)->(zE=(HX x ps)/\(false=(Fa x ps)/\false=(er x ps))))/\((v4=false)->((v8=false->(O (v3.aq)->(v6.length<=140737488355328->(ak v5 v6.length/\(O v7/\(∃ k2:Nat,(DY x ps k2/\(ps.length - k2<ps.length - k1/\((True/\(True/\((decide ((v3.aq)=(5:Int)))=(p7 x (ps.take k2))/\(ps=ps/\(v0=v0/\(v7=(k2:Int)/\True))))))/\(EW x ps k1 k2))))))))))/\(v8=(!false)->(v6.length<=140737488355328->(ak v5 v6.length/\(O v7/\(∃ k2:Nat,(DY x ps k2/\(ps.length - k2<ps.length - k1/\((True/\(True/\(true=(p7 x (ps.take k2))/\(ps=ps/\(v0=v0/\(v7=(k2:Int)/\True))))))/\(EW x ps k1 k2))))))))))))))))))/\((decide ((k1:Int)<v0))=false->((J.mk (v3.aq) (v3.aM) v6)=(HX x ps)/\(v8=(Fa x ps)/\true=(er x ps))))))))))) (by kernel_rfl) ?_;have f0:dN x (ps.take 0)=x:=by rw[b4I];rfl
 have f1:p7 x (ps.take 0)=false:=by rw[b4I];rfl
 refine λ _=>⟨⟨0,?_,⟨U,U,?_,rfl,rfl,?_,U⟩,⟨?_,?_,?_,U⟩,⟨rfl,rfl,U,U⟩,U⟩,λ k1 _=>⟨λ _=>⟨?_,λ _ _ _=>⟨?_,λ _=>⟨?_,?_,?_⟩,λ _=>⟨λ _ _ _=>⟨?_,?_,k1+1,?_,?_,⟨U,U,?_,rfl,rfl,?_,U⟩,⟨?_,?_,?_,U⟩,⟨rfl,rfl,U,U⟩,U⟩,λ _ _=>⟨?_,?_,k1+1,?_,?_,⟨U,U,?_,rfl,rfl,?_,U⟩,⟨?_,?_,?_,U⟩,⟨rfl,rfl,U,U⟩,U⟩⟩⟩⟩,λ _=>⟨?_,?_,?_⟩⟩⟩;all_goals try and_intros
 all_goals first|with_reducible rfl|with_reducible assumption|exact True.intro|((try simp only[b4i,J.eta,b3E,b3D,b3K,b3I,b3S,b4f,ak,O,aY,b3U,b3P,b4b,b3Y,b4e] at *);first|exact True.intro|omega|exact DY.zero _ _|(rw[f0];done)|(rw[f1];done)|(have h:DY x ps k1:=(by with_reducible assumption);first|exact (h.no (by omega) (by with_reducible assumption)).1|exact ((h.no (by omega) (by with_reducible assumption)).1).symm|exact (h.no (by omega) (by with_reducible assumption)).2.1|exact ((h.no (by omega) (by with_reducible assumption)).2.1).symm|exact (h.no (by omega) (by with_reducible assumption)).2.2|exact ((h.no (by omega) (by with_reducible assumption)).2.2).symm|exact h.next (by omega) (by with_reducible assumption)|exact (h.yes (by omega)).1|exact ((h.yes (by omega)).1).symm|exact (h.yes (by omega)).2.1|exact ((h.yes (by omega)).2.1).symm|exact (h.yes (by omega)).2.2|exact ((h.yes (by omega)).2.2).symm|(rw[(Bi x ps k1 (by omega)).2.1];done)|(rw[(Bi x ps k1 (by omega)).2.2];simp only[isN, *,Bool.true_or,b7x];done)|(rw[(Bi x ps k1 (by omega)).2.2];simp only[isN, *,Bool.true_or,b7x];simp[*];done)))
def Cl:aH.Good rH:=Vm ⟨eW,U⟩
def uH{t a:Int}{x:J}(h:bc t a x=true)(i:Nat)(hi:i<x.M.length):bc t a (x.M.getD i zE)=true:=by
 rw[ik,b3J] at h;have hm:x.M.getD i zE∈x.M:=by
  rw[b3V,b4j hi];exact b4Z _
 have:∀ xs:List J,bg (bc t a) xs=true->∀ y∈xs,bc t a y=true:=by
  intro xs;induction xs with
  | nil=>intro _ y hy;cases hy
  | cons z zs ih =>
   intro h y hy;simp only[bg,b3J] at h;rcases b3Z.1 hy with rfl|hy
   .exact h.1
   .exact ih h.2 y hy
 exact this _ h.2 _ hm
def YG{t a:Int}{x:J}(h:bc t a x=true):x.M.length<=2:=by
 rw[ik,Bool.and_eq_true] at h;have h1:=h.1;unfold pD at h1;simp only[Bool.and_eq_true,decide_eq_true_eq] at h1;have h2:=h1.1.1;unfold cS at h2;split at h2
 .omega
 .split at h2
  .omega
  .split at h2<;>omega
def lq{x:J}(h:bc 62 62 x=true)(hk:x.aq=3\/x.aq=4):0<=x.aM/\x.aM<=62:=by
 rw[ik,Bool.and_eq_true] at h;have h1:=h.1;unfold pD at h1;rcases hk with hk|hk<;>simp[hk] at h1<;>omega
def Ui:∀ (xs:List J) (y:J),bM (xs++[y])=(max (bM xs).1 (dh y).1,max (bM xs).2 (dh y).2)
 | [],y=>by
  rw[b4i];simp only[bM];rw[Int.max_comm,Int.max_comm (dh y).2]
 | x::xs,y=>by
  rw[b4U,bM,Ui xs y,bM];simp only[Int.max_assoc]
def Uj(x:J)(i:Nat)(hi:i<x.M.length):bM (x.M.take (i+1))=(max (bM (x.M.take i)).1 (dh (x.M.getD i zE)).1,max (bM (x.M.take i)).2 (dh (x.M.getD i zE)).2):=by
 rw[cr zE x.M i hi,Ui]
def a8x(x:J)(h:x.aq=3):dh x=(x.aM+1,0):=by rw[Fl,b4n h]
def a8y(x:J)(h3:¬ x.aq=3)(h:x.aq=4):dh x=(0,x.aM+1):=by rw[Fl,b3R h3,b4n h]
def a4A(x:J)(h3:¬ x.aq=3)(h:¬ x.aq=4)(i:Nat)(hi:x.M.length<=i):dh x=bM (x.M.take i):=by rw[Fl,b3R h3,b3R h,b4a hi]
def b1U{ts as_:List J}{x:J}(h:x.aq=3):cQ ts as_ x=ts.getD x.aM.toNat zE:=by rw[a0P,b4n h]
def b1V{ts as_:List J}{x:J}(h3:¬ x.aq=3)(h:x.aq=4):cQ ts as_ x=as_.getD x.aM.toNat zE:=by rw[a0P,b3R h3,b4n h]
def b1W{ts as_:List J}{x:J}(h3:¬ x.aq=3)(h:¬ x.aq=4)(i:Nat)(hi:x.M.length<=i):cQ ts as_ x=J.mk x.aq x.aM ((x.M.take i).map (cQ ts as_)):=by rw[a0P,b3R h3,b3R h,b4a hi]
def a2d(ts as_:List J)(x:J)(i:Nat)(hi:i<x.M.length):(x.M.take (i+1)).map (cQ ts as_)=(x.M.take i).map (cQ ts as_)++[cQ ts as_ (x.M.getD i zE)]:=by
 rw[cr zE x.M i hi];simp
def ZM{ts as_:List J}{x:J}(h:eV ts as_ x)(h3:¬ x.aq=3)(h4:¬ x.aq=4)(i:Nat)(hi:i<x.M.length):eV ts as_ (x.M.getD i zE) :=
 ZN (a3D h h3 h4) _ (by
  rw[b3V,b4j hi];exact b4Z _)
structure Ig(ts as_:List J):Prop where
 t:∀ y∈ts,av y<=1048576
 a:∀ y∈as_,av y<=1048576
def Ig.gt{ts as_:List J}(h:Ig ts as_){n:Int}(h0:0<=n)(h1:n<(ts.length:Int)):av (ts.getD n.toNat zE)<=1048576:=h.t _ (by
 rw[b3V,b4j (by omega)];exact b4Z _)
def Ig.ga{ts as_:List J}(h:Ig ts as_){n:Int}(h0:0<=n)(h1:n<(as_.length:Int)):av (as_.getD n.toNat zE)<=1048576:=h.a _ (by
 rw[b3V,b4j (by omega)];exact b4Z _)
def zc:aH:=⟨r9,[.v (.int .i64), .v (.slice (.st .expr))],λ (k:Int) (ks:List J)=>⟨(none,[⟨(.st .expr),J.mk k 0 ks⟩])⟩⟩
def a1b(k:Int)(ks:List J):Nat->aE:=λ _ => .none
def Zc(hE:aC []):aH.Good zc:=by
 refine⟨au uJ rfl (by decide),?_⟩;show ∀ (k:Int) (ks:List J),True->bd prog r9 [.val ⟨(.int .i64),k⟩, .val ⟨(.slice (.st .expr)),ks⟩] (·=[⟨(.st .expr),J.mk k 0 ks⟩]);intro k ks _;refine aU (wr:=[]) (cl:=[]) (ro:=[]) hE uJ G9 (a1b k ks) ((J.mk k (0:Int) ks)=(J.mk k 0 ks)) (by kernel_rfl) ?_;refine ?_;all_goals try and_intros
 all_goals first|rfl|trivial|omega|(simp only[b3E,b3D,ak,O,bQ,cw,bI,aY] at *;omega)|(simp[ak,O] at *;omega)|grind
def Hb:aH.Good zc:=Zc trivial
mutual
def Fm:∀ x:J,bc 62 62 x=true->(0<=(dh x).1/\(dh x).1<=63)/\0<=(dh x).2/\(dh x).2<=63
 | ⟨k,n,ks⟩=>λ h=>by
  have h1:=lq h;rw[bc,Bool.and_eq_true] at h;have h2:=OJ ks h.2;rw[dh];dsimp only at h1;by_cases h3:k=3
  .have:=h1 (.inl h3);rw[if_pos h3];dsimp only;omega
  .by_cases h4:k=4
   .have:=h1 (.inr h4);rw[if_neg h3,if_pos h4];dsimp only;omega
   .rw[b3R h3,b3R h4];exact h2
def OJ:∀ xs:List J,nL 62 62 xs=true->(0<=(bM xs).1/\(bM xs).1<=63)/\0<=(bM xs).2/\(bM xs).2<=63
 | []=>λ _=>by rw[bM];dsimp only;omega
 | x::xs=>λ h=>by
  rw[nL,Bool.and_eq_true] at h;have h1:=Fm x h.1;have h2:=OJ xs h.2;rw[bM];dsimp only;omega
end
def Rn{t a:Int}:∀ (xs:List J) (i:Nat),nL t a xs=true->nL t a (xs.take i)=true
 | _,0,_=>by rw[b4I];rfl
 | [],i+1,_=>by rw[List.take_nil];rfl
 | x::xs,i+1,h=>by
  rw[nL,b3J] at h;rw[b6J,nL,h.1,Rn xs i h.2];rfl
def Tt(x:J)(h:bc 62 62 x=true)(i:Nat):(0<=(bM (x.M.take i)).1/\(bM (x.M.take i)).1<=63)/\0<=(bM (x.M.take i)).2/\(bM (x.M.take i)).2<=63:=by
 cases x with
 | mk k n ks =>
  rw[bc,b3J] at h;exact OJ _ (Rn ks i h.2)
def Dw(n:Nat):aH:=⟨zf,[.v (.st .expr)],λ (x:J)=>⟨(some (cf x<n/\bc 62 62 x=true),[⟨(.int .i64),(dh x).1⟩,⟨(.int .i64),(dh x).2⟩])⟩⟩
def Ql:aH:=⟨zf,[.v (.st .expr)],λ (x:J)=>⟨(some (bc 62 62 x=true),[⟨(.int .i64),(dh x).1⟩,⟨(.int .i64),(dh x).2⟩])⟩⟩
def a1a(x:J):Nat->aE:=(λ zb=>if Nat.beq zb 1 then .mk (Nat) (λ i=>i<=x.M.length) (λ i=>x.M.length - i) [] [0,1,2,3,10,11,12,13,17,18,22] (λ i=>[(25, .aI ⟨(.int .i64),((i:Int):Int)⟩),(4, .aI ⟨(.int .i64),((bM (x.M.take i)).1:Int)⟩),(5, .aI ⟨(.int .i64),((bM (x.M.take i)).2:Int)⟩)]) [] (λ i=>[]) [] [] (λ i=>λ _ => .none) else .none)
def Zb(n:Nat)(hE:aC [Dw n]):aH.Good (Dw (n+1)):=by
 refine⟨au uI rfl (by decide),?_⟩;show ∀ (x:J),(cf x<n+1/\bc 62 62 x=true)->bd prog zf [.val ⟨(.st .expr),x⟩] (·=[⟨(.int .i64),(dh x).1⟩,⟨(.int .i64),(dh x).2⟩]);intro x hp;refine aU (wr:=[]) (cl:=[]) (ro:=[1]) hE uI Ur (a1a x) (let v0:=(x.M.length:Int);let v1:=x.aM+(1:Int);((O x.aq->(((decide (x.aq=(3:Int)))=true->(O x.aM->(O v1/\(v1=((dh x).1)/\(0:Int)=((dh x).2)))))/\((decide (x.aq=(3:Int)))=false->(((decide (x.aq=(4:Int)))=true->(O v1/\(O x.aM->((0:Int)=((dh x).1)/\v1=((dh x).2)))))/\((decide (x.aq=(4:Int)))=false->(x.M.length<=140737488355328->(O v0->((∃ i1:Nat,(i1<=x.M.length/\(((0:Int)=((bM (x.M.take i1)).1)/\((0:Int)=((bM (x.M.take i1)).2)/\(x.M=x.M/\(v0=v0/\((0:Int)=(i1:Int)/\True)))))/\True)))/\(∀ i1:Nat,let v2:=aJ (x.M.getD i1 zE);let v3:=bM (x.M.take i1);let v4:=dh v2;(i1<=x.M.length->(((decide ((i1:Int)<v0))=true->(ak (i1:Int) x.M.length/\((cf v2<n/\bc 62 62 v2=true)/\(O (v4.1)->(O (v4.2)->(O (max (v3.1) (v4.1))->(O (max (v3.2) (v4.2))->(O ((i1:Int)+(1:Int))/\(∃ i2:Nat,(i2<=x.M.length/\(x.M.length - i2<x.M.length - i1/\(((max (v3.1) (v4.1))=((bM (x.M.take i2)).1)/\((max (v3.2) (v4.2))=((bM (x.M.take i2)).2)/\(x.M=x.M/\(v0=v0/\(((i1:Int)+(1:Int))=(i2:Int)/\True)))))/\True))))))))))))/\((decide ((i1:Int)<v0))=false->((v3.1)=((dh x).1)/\(v3.2)=((dh x).2)))))))))))))))) (by kernel_rfl) ?_;have f0:=λ i (h:i<x.M.length)=>cb zE x.M i h;have f1:=dn x;have f2:bM (x.M.take 0)=(0,0):=by rw[b4I];rfl
 refine λ _=>⟨λ _ _=>⟨?_,?_,?_⟩,λ _=>⟨λ _=>⟨?_,λ _=>⟨?_,?_⟩⟩,λ _ _ _=>⟨⟨0,?_,⟨?_,?_,rfl,rfl,?_,U⟩,U⟩,λ i1 _=>⟨λ _=>⟨?_,?_,λ _ _ _ _=>⟨?_,i1+1,?_,?_,⟨?_,?_,rfl,rfl,?_,U⟩,U⟩⟩,λ _=>⟨?_,?_⟩⟩⟩⟩⟩;all_goals try and_intros
 all_goals try (first|with_reducible rfl|with_reducible assumption)
 all_goals try simp only[J.eta,ag.eta,ar.eta,aK,br,bG] at *
 all_goals first|with_reducible rfl|with_reducible assumption|exact True.intro|(simp only[b3M,b3L,b3K,b3I] at *;done)|((try simp only[b4i,J.eta,b3E,b3D,b3K,b3I,b3S,b4f,ak,O,aY,b3U,b3P,b4b,b3Y,b4e] at *);first|exact True.intro|omega|(rw[f2];done)|(rw[a8x x (by with_reducible assumption)];done)|(rw[a8y x (by with_reducible assumption) (by with_reducible assumption)];done)|(have h1:=lq hp.2 (.inl (by with_reducible assumption));omega)|(have h1:=lq hp.2 (.inr (by with_reducible assumption));omega)|(rw[a4A x (by with_reducible assumption) (by with_reducible assumption) i1 (by omega)];done)|exact uH hp.2 _ (by omega)|(have h1:=f0 i1 (by omega);omega)|(rw[Uj x i1 (by omega)];done)|(have h1:=Fm _ (uH hp.2 i1 (by omega));have h2:=Tt x hp.2 i1;omega))
def VY :∀ n,aC [Dw n]
 | 0=>⟨⟨au uI rfl (by decide),λ _ h=>absurd h.1 (b4y _)⟩,U⟩
 | n+1=>by
  have ih:=VY  n;exact⟨Zb n ⟨ih.1,U⟩,U⟩
def Uu :aH.Good Ql :=
 ⟨au uI rfl (by decide),λ x hp=>(VY  (cf x+1)).1.2 x (⟨b4v _,hp⟩)⟩
def tW(n:Nat):aH:=⟨r6,[.v (.st .expr), .v (.slice (.st .expr)), .v (.slice (.st .expr))],λ (x:J) (ts:List J) (as_:List J)=>⟨(some (cf x<n/\eV ts as_ x/\bc 62 62 x=true/\Ig ts as_),[⟨(.st .expr),cQ ts as_ x⟩])⟩⟩
def Hi:aH:=⟨r6,[.v (.st .expr), .v (.slice (.st .expr)), .v (.slice (.st .expr))],λ (x:J) (ts:List J) (as_:List J)=>⟨(some (eV ts as_ x/\bc 62 62 x=true/\Ig ts as_),[⟨(.st .expr),cQ ts as_ x⟩])⟩⟩
def U9(x:J)(ts:List J)(as_:List J):Nat->aE:=(λ zb=>if Nat.beq zb 1 then .mk (Nat) (λ i=>i<=x.M.length) (λ i=>x.M.length - i) [] [0,3,10,11,12,13,14,15,16,17,24,25,26,27,28,29,30,31,38,39,40,41,42,43] (λ i=>[(46, .aI ⟨(.int .i64),((i:Int):Int)⟩)]) [6] (λ i=>[(7, .box [.aI ⟨(.int .i64),(x.aq:Int)⟩, .aI ⟨(.int .i64),(x.aM:Int)⟩, .aw 5800]),(5800, .aw (.st .expr) ((x.M.take i).map (cQ ts as_):List J))]) [] [] (λ i=>λ _ => .none) else .none)
abbrev CG(x:J)(ts:List J)(as_:List J):Prop:=(let v0:=ts.getD (Int.toNat x.aM) zE;(O x.aM ->
 (ak x.aM ts.length/\(av v0<=1048576/\(aJ v0)=(cQ ts as_ x)))))
abbrev CH(x:J)(ts:List J)(as_:List J):Prop:=(let v0:=as_.getD (Int.toNat x.aM) zE;(O x.aM ->
 (ak x.aM as_.length/\(av v0<=1048576/\(aJ v0)=(cQ ts as_ x)))))
abbrev CI(n:Nat)(x:J)(ts:List J)(as_:List J):Prop:=(let v0:=(x.M.length:Int);let v1:=((0:Int)=(0:Int)/\((0:Int)=(0:Int)/\(True/\True)))/\True;let v2:=(7:Nat)=7/\(2:Nat)=2;let v3:=x.aq=x.aq/\(x.aM=x.aM/\(True/\True));let v4:=cQ ts as_;(O x.aq ->
 (O x.aM ->
 (x.M.length<=140737488355328 ->
 (O v0 ->
 ((∃ i1:Nat,(i1<=x.M.length/\((ts=ts/\(as_=as_/\(True/\(True/\(x.M=x.M/\(v0=v0/\((0:Int)=(i1:Int)/\True)))))))/\(v3/\(((x.M.take i1).map v4)=[]/\v1)))))/\(∀ i1:Nat,let v5:=x.M.getD i1 zE;let v6:=(x.M.take i1).map v4;let v7:=[(aJ (cQ ts as_ (aJ v5)))];(i1<=x.M.length ->
 (((decide ((i1:Int)<v0))=true ->
 (ak (i1:Int) x.M.length/\(ts.length<=140737488355328 ->
 (as_.length<=140737488355328 ->
 (v2/\((5800:Nat)=5800/\((v5.aq=v5.aq/\(v5.aM=v5.aM/\(v5.M=v5.M/\True)))/\(ts=ts/\(as_=as_/\((cf (aJ v5)<n/\eV ts as_ (aJ v5)/\bc 62 62 (aJ v5)=true/\Ig ts as_)/\(v2/\((5800:Nat)=5800/\(v2/\((5800:Nat)=5800/\(aY (v6.length+v7.length) 40/\(O ((i1:Int)+(1:Int))/\(∃ i2:Nat,(i2<=x.M.length/\(x.M.length - i2<x.M.length - i1/\((ts=ts/\(as_=as_/\(True/\(True/\(x.M=x.M/\(v0=v0/\(((i1:Int)+(1:Int))=(i2:Int)/\True)))))))/\(v3/\((v6++v7)=((x.M.take i2).map v4)/\v1))))))))))))))))))))))/\((decide ((i1:Int)<v0))=false ->
 (J.mk x.aq x.aM v6)=(cQ ts as_ x)))))))))))
abbrev CJ(n:Nat)(x:J)(ts:List J)(as_:List J):Prop:=(O x.aq ->
 (((decide (x.aq=(4:Int)))=true ->
 (1<=as_.length/\((true=true ->
 (CH x ts as_))/\(true=false ->
 (CI n x ts as_)))))/\((decide (x.aq=(4:Int)))=(!true) ->
 ((false=true ->
 (CH x ts as_))/\(false=false ->
 (CI n x ts as_))))))
def Tf(n:Nat)(hE:aC [])(hO:cO [tW n,iF])(hM:cT [])(hS:cR []):aH.bX (tW (n+1)):=by
 refine⟨au oT rfl (by decide),?_⟩;show ∀ (x:J) (ts:List J) (as_:List J),(cf x<n+1/\eV ts as_ x/\bc 62 62 x=true/\Ig ts as_)->cY prog r6 [.val ⟨(.st .expr),x⟩, .val ⟨(.slice (.st .expr)),ts⟩, .val ⟨(.slice (.st .expr)),as_⟩] [⟨(.st .expr),cQ ts as_ x⟩];intro x ts as_ hp;refine cj (own:=[23,37,55,56,57]) (wr:=[]) (cl:=[]) (ro:=[3]) hE hO hM hS oT O2 (U9 x ts as_) ((O x.aq->(((decide (x.aq=(3:Int)))=true->(1<=ts.length/\((true=true->(CG x ts as_))/\(true=false->(CJ n x ts as_)))))/\((decide (x.aq=(3:Int)))=(!true)->((false=true->(CG x ts as_))/\(false=false->(CJ n x ts as_))))))) (by kernel_rfl) ?_;obtain⟨hm,g0,g1,g2⟩:=hp;have f0:=λ i (h:i<x.M.length)=>cb zE x.M i h;have f1:=dn x;have f2:(x.M.take 0).map (cQ ts as_)=[]:=by simp
 have f3:=YG g1;refine λ _=>⟨λ _=>⟨?_,λ _ _=>⟨?_,?_,?_⟩,λ _ _=>⟨λ _=>⟨?_,λ _ _=>⟨?_,?_,?_⟩,λ _ _ _ _ _=>⟨⟨0,?_,⟨rfl,rfl,U,U,rfl,rfl,?_,U⟩,⟨rfl,rfl,U,U⟩,?_,⟨rfl,rfl,U,U⟩,U⟩,λ i1 _=>⟨λ _=>⟨?_,λ _ _=>⟨⟨?_,?_⟩,?_,⟨rfl,rfl,rfl,?_⟩,rfl,rfl,?_,⟨?_,?_⟩,?_,⟨?_,?_⟩,?_,?_,?_,i1+1,?_,?_,⟨rfl,rfl,U,U,rfl,rfl,?_,U⟩,⟨rfl,rfl,U,U⟩,?_,⟨rfl,rfl,U,U⟩,U⟩⟩,λ _=>?_⟩⟩⟩,λ _=>⟨λ _ _=>⟨?_,?_,?_⟩,λ _ _ _ _ _=>⟨⟨0,?_,⟨rfl,rfl,U,U,rfl,rfl,?_,U⟩,⟨rfl,rfl,U,U⟩,?_,⟨rfl,rfl,U,U⟩,U⟩,λ i1 _=>⟨λ _=>⟨?_,λ _ _=>⟨⟨?_,?_⟩,?_,⟨rfl,rfl,rfl,?_⟩,rfl,rfl,?_,⟨?_,?_⟩,?_,⟨?_,?_⟩,?_,?_,?_,i1+1,?_,?_,⟨rfl,rfl,U,U,rfl,rfl,?_,U⟩,⟨rfl,rfl,U,U⟩,?_,⟨rfl,rfl,U,U⟩,U⟩⟩,λ _=>?_⟩⟩⟩⟩⟩,λ _=>⟨λ _ _=>⟨?_,?_,?_⟩,λ _ _=>⟨λ _=>⟨?_,λ _ _=>⟨?_,?_,?_⟩,λ _ _ _ _ _=>⟨⟨0,?_,⟨rfl,rfl,U,U,rfl,rfl,?_,U⟩,⟨rfl,rfl,U,U⟩,?_,⟨rfl,rfl,U,U⟩,U⟩,λ i1 _=>⟨λ _=>⟨?_,λ _ _=>⟨⟨?_,?_⟩,?_,⟨rfl,rfl,rfl,?_⟩,rfl,rfl,?_,⟨?_,?_⟩,?_,⟨?_,?_⟩,?_,?_,?_,i1+1,?_,?_,⟨rfl,rfl,U,U,rfl,rfl,?_,U⟩,⟨rfl,rfl,U,U⟩,?_,⟨rfl,rfl,U,U⟩,U⟩⟩,λ _=>?_⟩⟩⟩,λ _=>⟨λ _ _=>⟨?_,?_,?_⟩,λ _ _ _ _ _=>⟨⟨0,?_,⟨rfl,rfl,U,U,rfl,rfl,?_,U⟩,⟨rfl,rfl,U,U⟩,?_,⟨rfl,rfl,U,U⟩,U⟩,λ i1 _=>⟨λ _=>⟨?_,λ _ _=>⟨⟨?_,?_⟩,?_,⟨rfl,rfl,rfl,?_⟩,rfl,rfl,?_,⟨?_,?_⟩,?_,⟨?_,?_⟩,?_,?_,?_,i1+1,?_,?_,⟨rfl,rfl,U,U,rfl,rfl,?_,U⟩,⟨rfl,rfl,U,U⟩,?_,⟨rfl,rfl,U,U⟩,U⟩⟩,λ _=>?_⟩⟩⟩⟩⟩⟩;all_goals try and_intros
 all_goals try (first|with_reducible rfl|with_reducible assumption)
 all_goals try simp only[J.eta,ag.eta,ar.eta,aK,br,bG] at *
 all_goals first|with_reducible rfl|with_reducible assumption|exact True.intro|(simp only[b3M,b3L,b3K,b3I] at *;done)|((try simp only[b4i,J.eta,b3E,b3D,b3K,b3I,b3S,b4f,ak,O,aY,b3U,b3P,b4b,b3Y,b4e] at *);first|exact True.intro|omega|(rw[f2];done)|(rw[b1U (by with_reducible assumption)];done)|(rw[b1V (by with_reducible assumption) (by with_reducible assumption)];done)|(have h1:=lq g1 (.inl (by with_reducible assumption));have h2:=a4T g0 (by with_reducible assumption);first|omega|exact g2.gt h1.1 h2)|(have h1:=lq g1 (.inr (by with_reducible assumption));have h2:=a4S g0 (by with_reducible assumption);first|omega|exact g2.ga h1.1 h2)|(rw[b1W (by with_reducible assumption) (by with_reducible assumption) i1 (by omega)];done)|exact uH g1 _ (by omega)|(have h1:=f0 i1 (by omega);omega)|exact ZM g0 (by with_reducible assumption) (by with_reducible assumption) i1 (by omega)|exact a2d _ _ _ _ (by omega)|exact (a2d _ _ _ _ (by omega)).symm)
def TC:∀ n,cO [tW n]
 | 0=>⟨⟨au oT rfl (by decide),λ _ _ _ h=>absurd h.1 (b4y _)⟩,U⟩
 | n+1=>by
  have ih:=TC n;exact⟨Tf n trivial ⟨ih.1,iN,U⟩ trivial trivial,U⟩
def N4:aH.bX Hi :=
 ⟨au oT rfl (by decide),λ x ts as_ hp=>(TC (cf x+1)).1.2 x ts as_ (⟨b4v _,hp⟩)⟩
def a6y{l r:J}(h1:bc 62 62 l=true)(h2:bc 62 62 r=true):bc 62 62 (J.mk 6 0 [l,r])=true:=by
 rw[ik];simp only[bg,h1,h2,pD,cS];simp
def a8z(l r:J):dh (J.mk 6 0 [l,r])=bM [l,r]:=by rw[dh];simp
def gn(gg:aT)(x:J)(ts as_:List J):J:=bif bW gg (cQ ts as_ x) then cQ ts as_ x else J.mk (0:Int) (0:Int) []
def mA(gg:aT)(x:J)(ts as_:List J):Int:=bif bW gg (cQ ts as_ x) then 0 else 3
def R8{gg:aT}{x:J}{ts as_:List J}(h:bW gg (cQ ts as_ x)=true):gn gg x ts as_=cQ ts as_ x/\mA gg x ts as_=0:=by unfold gn mA;rw[h];exact⟨rfl,rfl⟩
def a3T{gg:aT}{x:J}{ts as_:List J}(h:bW gg (cQ ts as_ x)=false):gn gg x ts as_=J.mk (0:Int) (0:Int) []/\mA gg x ts as_=3:=by unfold gn mA;rw[h];exact⟨rfl,rfl⟩
def rpK(y x:J)(ps:List Int):List J:=(fS y x ps).M
def b2N(y x:J)(ps:List Int)(h:ps.length=0):fS y x ps=y:=by rw[b4L h];rfl
def a8j(y x:J)(ps:List Int)(h:¬ ps.length=0):rpK y x ps=x.M.set (ps.getD 0 0).toNat (fS y (x.M.getD (ps.getD 0 0).toNat zE) (ps.drop 1))/\fS y x ps=J.mk x.aq x.aM (rpK y x ps):=by
 match ps,h with
 | k::ks,_=>exact⟨rfl,rfl⟩
def a2T(y x:J)(ps:List Int)(h:¬ ps.length=0):(rpK y x ps).length=x.M.length:=by rw[(a8j y x ps h).1,b5e]
def a5v(y x:J)(ps:List Int)(h:¬ ps.length=0)(i:Nat)(hi:i<x.M.length)(h0:0<=ps.getD 0 0):(rpK y x ps).take (i+1)=(rpK y x ps).take i++[if (i:Int)=ps.getD 0 0 then fS y (x.M.getD i zE) (ps.drop 1) else x.M.getD i zE]:=by
 rw[cr zE _ i (by rw[a2T y x ps h];exact hi)];congr 2;rw[(a8j y x ps h).1,b3V,b6z];by_cases e:(i:Int)=ps.getD 0 0
 .rw[b4n e];have e2:(ps.getD 0 0).toNat=i:=by omega
  rw[b4n e2,e2,b4n hi];rfl
 .rw[b3R e,b3R (by omega),b3V]
def a2S(y x:J)(ps:List Int)(h:¬ ps.length=0)(i:Nat)(hi:x.M.length<=i):fS y x ps=J.mk x.aq x.aM ((rpK y x ps).take i):=by
 rw[b4a (by rw[a2T y x ps h];exact hi)];exact (a8j y x ps h).2
def a4b{x:J}{ps:List Int}(h:¬ ps.length=0)(ho:er x ps=true):(0<=ps.getD 0 0/\ps.getD 0 0<=(x.M.length:Int) - 1)/\er (x.M.getD (ps.getD 0 0).toNat zE) (ps.drop 1)=true:=by
 match ps,h with
 | k::ks,_ =>
  simp only[er,b3J,R7,b3E] at ho;exact ho
def Bm(gg:aT)(x:J)(ps:List Int)(y:J):J:=bif er x ps && !(p7 x ps && !bh y)&&bW gg (fS y x ps) then fS y x ps else J.mk (0:Int) (0:Int) []
def p9(gg:aT)(x:J)(ps:List Int)(y:J):Int:=bif er x ps then (bif p7 x ps && !bh y then 4 else (bif bW gg (fS y x ps) then 0 else 3)) else 2
def a8i{gg:aT}{x y:J}{ps:List Int}(h:er x ps=false):Bm gg x ps y=J.mk (0:Int) (0:Int) []/\p9 gg x ps y=2:=by unfold Bm p9;rw[h];exact⟨rfl,rfl⟩
def a4t{gg:aT}{x y:J}{ps:List Int}(h:er x ps=true)(h2:Fa x ps=true)(h3:bh y=false):Bm gg x ps y=J.mk (0:Int) (0:Int) []/\p9 gg x ps y=4:=by
 unfold Fa at h2;rw[h,Bool.true_and] at h2;unfold Bm p9;rw[h,h2,h3];exact⟨rfl,rfl⟩
def JV{gg:aT}{x y:J}{ps:List Int}(h:er x ps=true)(h2:Fa x ps=false\/bh y=true)(b:Bool)(h3:bW gg (fS y x ps)=b):Bm gg x ps y=(bif b then fS y x ps else J.mk (0:Int) (0:Int) [])/\p9 gg x ps y=bif b then 0 else 3:=by
 have e:(p7 x ps && !bh y)=false:=by
  unfold Fa at h2;rw[h,Bool.true_and] at h2;rcases h2 with g|g<;>rw[g]<;>simp
 unfold Bm p9;rw[h,e,h3];exact⟨rfl,rfl⟩
def rG:aH:=⟨A3,[.v (.st .equation)],λ (q:ar)=>⟨(some (bc 62 62 q.left=true/\bc 62 62 q.right=true),[⟨(.int .i64),(bM [q.left,q.right]).1⟩,⟨(.int .i64),(bM [q.left,q.right]).2⟩])⟩⟩
def Xp(q:ar):Nat->aE:=λ _ => .none
def Vi(hE:aC [Ql,zc]):aH.Good rG:=by
 refine⟨au GQ rfl (by decide),?_⟩;show ∀ (q:ar),(bc 62 62 q.left=true/\bc 62 62 q.right=true)->bd prog A3 [.val ⟨(.st .equation),q⟩] (·=[⟨(.int .i64),(bM [q.left,q.right]).1⟩,⟨(.int .i64),(bM [q.left,q.right]).2⟩]);intro q hp;refine aU (wr:=[]) (cl:=[]) (ro:=[1]) hE GQ O3 (Xp q) (let v0:=J.mk (6:Int) 0 ([q.left,q.right]);((bc 62 62 v0=true/\(O ((dh v0).1)->(O ((dh v0).2)->(((dh v0).1)=((bM [q.left,q.right]).1)/\((dh v0).2)=((bM [q.left,q.right]).2))))))) (by kernel_rfl) ?_;have f0:=a6y hp.1 hp.2;have f1:=a8z q.left q.right;refine⟨?_,λ _ _=>⟨?_,?_⟩⟩;all_goals try and_intros
 all_goals first|with_reducible rfl|trivial|exact f0|omega|(rw[f1];done)|(simp only[b4i,J.eta,b3E,b3D,b3K,b3I,b3S,b4f,ak,O,aY,b3U,b3P,b4b,b3Y,b4e] at *;omega)
def Ck:aH.Good rG:=Vi ⟨Uu,Hb,U⟩
def iG:aH:=⟨uj,[.v (.st .sig), .v (.st .expr), .v (.slice (.st .expr)), .v (.slice (.st .expr))],λ (gg:aT) (x:J) (ts:List J) (as_:List J)=>⟨(some (eV ts as_ x/\bc 62 62 x=true/\Ig ts as_/\ts.length<=1000/\as_.length<=1000),[⟨(.st .expr),gn gg x ts as_⟩,⟨(.int .i64),mA gg x ts as_⟩])⟩⟩
def Qu(gg:aT)(x:J)(ts:List J)(as_:List J):Nat->aE:=λ _ => .none
abbrev Lg(gg:aT)(x:J)(ts:List J)(as_:List J):Prop:=(let v0:=aJ (cQ ([]++ts) ([]++as_) x);(x=x/\(as_=as_/\(aY ((@List.nil J).length+as_.length) 40/\(x=x/\((eV ([]++ts) ([]++as_) x/\bc 62 62 x=true/\Ig ([]++ts) ([]++as_))/\(((!(bW gg v0))=true ->
 (zE=(gn gg x ts as_)/\(3:Int)=(mA gg x ts as_)))/\((!(bW gg v0))=false ->
 (v0=(gn gg x ts as_)/\(0:Int)=(mA gg x ts as_))))))))))
def Oe(hE:aC [jz])(hO:cO [Hi])(hM:cT [])(hS:cR []):aH.bX iG:=by
 refine⟨au B3 rfl (by decide),?_⟩;show ∀ (gg:aT) (x:J) (ts:List J) (as_:List J),(eV ts as_ x/\bc 62 62 x=true/\Ig ts as_/\ts.length<=1000/\as_.length<=1000)->cY prog uj [.val ⟨(.st .sig),gg⟩, .val ⟨(.st .expr),x⟩, .val ⟨(.slice (.st .expr)),ts⟩, .val ⟨(.slice (.st .expr)),as_⟩] [⟨(.st .expr),gn gg x ts as_⟩,⟨(.int .i64),mA gg x ts as_⟩];intro gg x ts as_ hp;refine cj (own:=[18]) (wr:=[]) (cl:=[]) (ro:=[4,5]) hE hO hM hS B3 KH (Qu gg x ts as_) (let v1:=(@List.nil J).length+ts.length;let v2:=Lg gg x ts as_;let v0:=x=x/\(ts=ts/\(as_=as_/\(aY v1 40/\v2)));((ts.length<=140737488355328->(as_.length<=140737488355328->(x=x/\(ts=ts/\(as_=as_/\((x=x/\(ts=ts/\(as_=as_/\((aY v1 40/\(x=x/\(as_=as_/\v2)))/\(v0/\True)))))/\((x=x/\(ts=ts/\(as_=as_/\v0)))/\True))))))))) (by kernel_rfl) ?_;refine λ _ _=>⟨rfl,rfl,rfl,⟨rfl,rfl,rfl,⟨?_,rfl,rfl,rfl,rfl,?_,rfl,?_,λ _=>⟨?_,?_⟩,λ _=>⟨?_,?_⟩⟩,⟨rfl,rfl,rfl,?_,rfl,rfl,?_,rfl,?_,λ _=>⟨?_,?_⟩,λ _=>⟨?_,?_⟩⟩,U⟩,⟨rfl,rfl,rfl,rfl,rfl,rfl,?_,rfl,rfl,?_,rfl,?_,λ _=>⟨?_,?_⟩,λ _=>⟨?_,?_⟩⟩,U⟩;all_goals try and_intros
 all_goals try (first|with_reducible rfl|with_reducible assumption)
 all_goals try simp only[J.eta,ag.eta,ar.eta,aK,br,bG] at *
 all_goals first|with_reducible rfl|with_reducible assumption|exact True.intro|omega|((first|have Q:=R8 (gg:=gg) (x:=x) (ts:=ts) (as_:=as_) (by with_reducible assumption)|have Q:=a3T (gg:=gg) (x:=x) (ts:=ts) (as_:=as_) (by with_reducible assumption));first|exact Q.1|exact Q.2|exact Q.1.symm|exact Q.2.symm)|exact hp.1|exact hp.2.1|exact hp.2.2.1|(simp only[b4i,J.eta,b3E,b3D,b3K,b3I,b3S,b4f,ak,O,aY,b3U,b3P,b4b,b3Y,b4e] at *;first|omega|((first|have Q:=R8 (gg:=gg) (x:=x) (ts:=ts) (as_:=as_) (by with_reducible assumption)|have Q:=a3T (gg:=gg) (x:=x) (ts:=ts) (as_:=as_) (by with_reducible assumption));first|exact Q.1|exact Q.2|exact Q.1.symm|exact Q.2.symm))
def wu:aH.bX iG:=Oe ⟨lZ,U⟩ ⟨N4,U⟩ trivial trivial
def pR(n:Nat):aH:=⟨nG,[.v (.st .expr), .v (.slice (.int .i64)), .v (.st .expr)],λ (x:J) (ps:List Int) (y:J)=>⟨(some (ps.length<n/\er x ps=true/\av x<=1048576/\av y<=1048576/\ps.length<=1000),[⟨(.st .expr),fS y x ps⟩])⟩⟩
def CP:aH:=⟨nG,[.v (.st .expr), .v (.slice (.int .i64)), .v (.st .expr)],λ (x:J) (ps:List Int) (y:J)=>⟨(some (er x ps=true/\av x<=1048576/\av y<=1048576/\ps.length<=1000),[⟨(.st .expr),fS y x ps⟩])⟩⟩
def Qw(x:J)(ps:List Int)(y:J):Nat->aE:=(λ zb=>if Nat.beq zb 0 then .mk (Nat) (λ i=>i<=x.M.length) (λ i=>x.M.length - i) [] [0,2,3,10,11,12,15,16,17,18,19,20] (λ i=>[(23, .aI ⟨(.int .i64),((i:Int):Int)⟩)]) [6] (λ i=>[(7, .box [.aI ⟨(.int .i64),(x.aq:Int)⟩, .aI ⟨(.int .i64),(x.aM:Int)⟩, .aw 5800]),(5800, .aw (.st .expr) ((rpK y x ps).take i:List J))]) [] [] (λ i=>λ _ => .none) else .none)
abbrev Lh(x:J)(i1:Nat):Prop:=(let v0:=x.M.getD i1 zE;(v0.aq=v0.aq/\(v0.aM=v0.aM/\(v0.M=v0.M/\True))))
abbrev yO(x:J)(ps:List Int)(y:J)(i1:Nat)(i2:Nat):Prop:=(ps=ps/\(y=y/\(True/\(True/\(x.M=x.M/\(((x.M.length:Int))=((x.M.length:Int))/\(((i1:Int)+(1:Int))=(i2:Int)/\True)))))))
def Oh(n:Nat)(hE:aC [])(hO:cO [pR n,iF])(hM:cT [])(hS:cR []):aH.bX (pR (n+1)):=by
 refine⟨au lT rfl (by decide),?_⟩;show ∀ (x:J) (ps:List Int) (y:J),(ps.length<n+1/\er x ps=true/\av x<=1048576/\av y<=1048576/\ps.length<=1000)->cY prog nG [.val ⟨(.st .expr),x⟩, .val ⟨(.slice (.int .i64)),ps⟩, .val ⟨(.st .expr),y⟩] [⟨(.st .expr),fS y x ps⟩];intro x ps y hp;refine cj (own:=[14,39,40,41,46,47,48]) (wr:=[]) (cl:=[]) (ro:=[3,5]) hE hO hM hS lT KJ (Qw x ps y) (let v1:=(7:Nat)=7/\(2:Nat)=2;let v3:=x.aq=x.aq/\(x.aM=x.aM/\(True/\True));let v4:=(x.M.length:Int);let v5:=(ps.length:Int);let v0:=(ps.take (Int.toNat v5)).drop 1;let v6:=rpK y x ps;let v7:=(0:Int);let v2:=(v7=v7/\(v7=v7/\(True/\True)))/\True;let v8:=(5800:Nat);((O v5->(((decide (v5=v7))=true->(av y<=1048576/\(aJ y)=(fS y x ps)))/\((decide (v5=v7))=false->(O x.aq->(O x.aM->(x.M.length<=140737488355328->(O v4->((∃ i1:Nat,(i1<=x.M.length/\((ps=ps/\(y=y/\(True/\(True/\(x.M=x.M/\(v4=v4/\(v7=(i1:Int)/\True)))))))/\(v3/\((v6.take i1)=[]/\v2)))))/\(∀ i1:Nat,let v9:=aJ (x.M.getD i1 zE);let va:=Lh x i1;let vb:=(i1:Int);let vc:=v6.take i1;(i1<=x.M.length->(((decide (vb<v4))=true->(ak vb x.M.length/\(ak v7 ps.length/\(O (ps.getD 0 v7)->(((decide (vb=(ps.getD 0 v7)))=true->(ps.length<=140737488355328->(v1/\(v8=5800/\(va/\(ps=ps/\(y=y/\(cw (1:Int) v5 ps.length/\(v1/\(v8=5800/\(va/\(y=y/\((v0.length<n/\er v9 v0=true/\av v9<=1048576/\av y<=1048576/\v0.length<=1000)/\(v1/\(v8=5800/\(v1/\(v8=5800/\(aY (vc.length+([(aJ (fS y v9 v0))]).length) 40/\(O (vb+(1:Int))/\(∃ i2:Nat,(i2<=x.M.length/\(x.M.length - i2<x.M.length - i1/\((yO x ps y i1 i2)/\(v3/\((vc++([(aJ (fS y v9 v0))]))=(v6.take i2)/\v2)))))))))))))))))))))))))/\((decide (vb=(ps.getD 0 v7)))=false->(v1/\(v8=5800/\(va/\(av v9<=1048576/\(v1/\(v8=5800/\(v1/\(v8=5800/\(aY (vc.length+([v9]).length) 40/\(O (vb+(1:Int))/\(∃ i2:Nat,(i2<=x.M.length/\(x.M.length - i2<x.M.length - i1/\((yO x ps y i1 i2)/\(v3/\((vc++([v9]))=(v6.take i2)/\v2))))))))))))))))))))))/\((decide (vb<v4))=false->(J.mk x.aq x.aM vc)=(fS y x ps))))))))))))))) (by kernel_rfl) ?_;obtain⟨hm,g0,g1,g2,g3⟩:=hp;rw[j8] at g1;have f1:=λ i (h:i<x.M.length)=>eJ av zE x.M i h;have f9:ps.take (Int.toNat (ps.length:Int))=ps:=by simp
 have f8:(rpK y x ps).take 0=[]:=b4I;refine λ _=>⟨λ _=>⟨?_,?_⟩,λ _ _ _ _ _=>⟨⟨0,?_,⟨rfl,rfl,U,U,rfl,rfl,?_,U⟩,⟨rfl,rfl,U,U⟩,?_,⟨rfl,rfl,U,U⟩,U⟩,λ i1 _=>⟨λ _=>⟨?_,?_,λ _=>⟨λ _ _=>⟨⟨?_,?_⟩,?_,⟨rfl,rfl,rfl,?_⟩,rfl,rfl,?_,⟨?_,?_⟩,?_,⟨rfl,rfl,rfl,?_⟩,rfl,?_,⟨?_,?_⟩,?_,⟨?_,?_⟩,?_,?_,?_,i1+1,?_,?_,⟨rfl,rfl,U,U,rfl,rfl,?_,U⟩,⟨rfl,rfl,U,U⟩,?_,⟨rfl,rfl,U,U⟩,U⟩,λ _=>⟨⟨?_,?_⟩,?_,⟨rfl,rfl,rfl,?_⟩,?_,⟨?_,?_⟩,?_,⟨?_,?_⟩,?_,?_,?_,i1+1,?_,?_,⟨rfl,rfl,U,U,rfl,rfl,?_,U⟩,⟨rfl,rfl,U,U⟩,?_,⟨rfl,rfl,U,U⟩,U⟩⟩⟩,λ _=>?_⟩⟩⟩;all_goals try and_intros
 all_goals try (first|with_reducible rfl|with_reducible assumption)
 all_goals try simp only[J.eta,ag.eta,ar.eta,aK,br,bG] at *
 all_goals first|with_reducible rfl|with_reducible assumption|exact True.intro|((try simp only[b4i,J.eta,b3E,b3D,b3K,b3I,b3S,b4f,ak,O,aY,b3U,b3P,b4b,b3Y,b4e] at *);(try simp only[f9]);first|exact True.intro|omega|exact f8.symm|(rw[b4V];omega)|(rw[b2N y x ps (by omega)];done)|(rw[a5v y x ps (by omega) i1 (by omega) (a4b (by omega) g0).1.1,b4n (by omega)];done)|(rw[a5v y x ps (by omega) i1 (by omega) (a4b (by omega) g0).1.1,b3R (by omega)];done)|exact a2S y x ps (by omega) i1 (by omega)|exact (a2S y x ps (by omega) i1 (by omega)).symm|(have h1:=(a4b (by omega) g0).2;rw[show (ps.getD 0 0).toNat=i1 by omega] at h1;exact h1)|(have h1:=f1 i1 (by omega);omega)|(have h1:=b4V (l:=ps) (i:=1);omega)|(rw[b4V];omega))
def V1:∀ n,cO [pR n]
 | 0=>⟨⟨au lT rfl (by decide),λ _ _ _ h=>absurd h.1 (b4y _)⟩,U⟩
 | n+1=>by
  have ih:=V1 n;exact⟨Oh n trivial ⟨ih.1,iN,U⟩ trivial trivial,U⟩
def JE:aH.bX CP :=
 ⟨au lT rfl (by decide),λ x ps y hp=>(V1 (ps.length+1)).1.2 x ps y (⟨b4v _,hp⟩)⟩
def pP:aH:=⟨r7,[.v (.st .sig), .v (.st .expr), .v (.slice (.int .i64)), .v (.st .expr)],λ (gg:aT) (x:J) (ps:List Int) (y:J)=>⟨(some (av x<=1048576/\av y<=1048576/\ps.length<=1000),[⟨(.st .expr),Bm gg x ps y⟩,⟨(.int .i64),p9 gg x ps y⟩])⟩⟩
def NZ(gg:aT)(x:J)(ps:List Int)(y:J):Nat->aE:=λ _ => .none
abbrev I9(gg:aT)(x:J)(ps:List Int)(y:J):Prop:=(let v0:=aJ (fS y x ps);((er x ps=true/\av x<=1048576/\av y<=1048576/\ps.length<=1000)/\(((!(bW gg v0))=true ->
 (zE=(Bm gg x ps y)/\(3:Int)=(p9 gg x ps y)))/\((!(bW gg v0))=false ->
 (v0=(Bm gg x ps y)/\(0:Int)=(p9 gg x ps y))))))
def LI(hE:aC [jz,rH,gp])(hO:cO [CP])(hM:cT [])(hS:cR []):aH.bX pP:=by
 refine⟨au zG rfl (by decide),?_⟩;show ∀ (gg:aT) (x:J) (ps:List Int) (y:J),(av x<=1048576/\av y<=1048576/\ps.length<=1000)->cY prog r7 [.val ⟨(.st .sig),gg⟩, .val ⟨(.st .expr),x⟩, .val ⟨(.slice (.int .i64)),ps⟩, .val ⟨(.st .expr),y⟩] [⟨(.st .expr),Bm gg x ps y⟩,⟨(.int .i64),p9 gg x ps y⟩];intro gg x ps y hp;refine cj (own:=[34]) (wr:=[]) (cl:=[]) (ro:=[4,5,7]) hE hO hM hS zG Iz (NZ gg x ps y) (let v0:=zE=(Bm gg x ps y)/\(4:Int)=(p9 gg x ps y);let v1:=I9 gg x ps y;((((!(er x ps))=true->(zE=(Bm gg x ps y)/\(2:Int)=(p9 gg x ps y)))/\((!(er x ps))=false->(((Fa x ps)=true->(((!(bh y))=true->v0)/\((!(bh y))=false->v1)))/\((Fa x ps)=(!true)->((false=true->v0)/\(false=false->v1)))))))) (by kernel_rfl) ?_;refine⟨λ _=>⟨?_,?_⟩,λ _=>⟨λ _=>⟨λ _=>⟨?_,?_⟩,λ _=>⟨?_,λ _=>⟨?_,?_⟩,λ _=>⟨?_,?_⟩⟩⟩,λ _=>⟨λ _=>⟨?_,?_⟩,λ _=>⟨?_,λ _=>⟨?_,?_⟩,λ _=>⟨?_,?_⟩⟩⟩⟩⟩;all_goals try and_intros
 all_goals try (first|with_reducible rfl|with_reducible assumption)
 all_goals try simp only[J.eta,ag.eta,ar.eta,aK,br,bG] at *
 all_goals first|with_reducible rfl|with_reducible assumption|exact True.intro|(simp only[b3M,b3L,b3K,b3I] at *;done)|((try simp only[b4i,J.eta,b3E,b3D,b3K,b3I,b3S,b4f,ak,O,aY,b3U,b3P,b4b,b3Y,b4e] at *);first|exact True.intro|omega|((first|have Q:=a8i (gg:=gg) (x:=x) (y:=y) (ps:=ps) (by with_reducible assumption)|have Q:=a4t (gg:=gg) (x:=x) (y:=y) (ps:=ps) (by with_reducible assumption) (by with_reducible assumption) (by with_reducible assumption));first|exact Q.1|exact Q.2|exact Q.1.symm|exact Q.2.symm)|((first|have Q:=JV (gg:=gg) (x:=x) (y:=y) (ps:=ps) (by with_reducible assumption) (.inl (by with_reducible assumption)) true (by with_reducible assumption)|have Q:=JV (gg:=gg) (x:=x) (y:=y) (ps:=ps) (by with_reducible assumption) (.inl (by with_reducible assumption)) false (by with_reducible assumption)|have Q:=JV (gg:=gg) (x:=x) (y:=y) (ps:=ps) (by with_reducible assumption) (.inr (by with_reducible assumption)) true (by with_reducible assumption)|have Q:=JV (gg:=gg) (x:=x) (y:=y) (ps:=ps) (by with_reducible assumption) (.inr (by with_reducible assumption)) false (by with_reducible assumption));first|exact Q.1|exact Q.2|exact Q.1.symm|exact Q.2.symm))
def H2:aH.bX pP:=LI ⟨lZ,Cl,gA,U⟩ ⟨JE,U⟩ trivial trivial
end
end Go.Proofs.YtmjfpcajohhbeaaGreatDoor

set_option maxRecDepth 4000
set_option maxHeartbeats 4000000
namespace Go.Proofs.YtmjfpcajohhbeaaGreatDoor
noncomputable section
def a1G{α:Type}(F:α->α->Prop×Bool)(z:α)(xs ys:List α):Prop:=∀ i,i<xs.length->i<ys.length->(F (xs.getD i z) (ys.getD i z)).1
def dI{α:Type}(f:α->α->Bool):List α->List α->Bool
 | [],[]=>true
 | x::xs,y::ys=>f x y&&dI f xs ys
 | _,_=>false
def Zp{α:Type}(f:α->α->Bool):∀ xs ys:List α,dI f xs ys=true->xs.length=ys.length
 | [],[],_=>rfl
 | x::xs,y::ys,h=>by
  simp only[dI,b3J] at h;simp[Zp f xs ys h.2]
 | [],_::_,h=>by cases h
 | _::_,[],h=>by cases h
def a6M{α:Type}(f:α->α->Bool)(xs ys:List α)(h:xs.length≠ys.length):dI f xs ys=false:=by
 cases hb:dI f xs ys
 .rfl
 .exact absurd (Zp f xs ys hb) h
def Rz{α:Type}(f:α->α->Bool)(z:α):∀ xs ys:List α,dI f xs ys=true↔xs.length=ys.length/\∀ i,i<xs.length->f (xs.getD i z) (ys.getD i z)=true
 | [],[]=>by simp[dI]
 | [],_::_=>by simp[dI]
 | _::_,[]=>by simp[dI]
 | x::xs,y::ys=>by
  simp only[dI,b3J,Rz f z xs ys,b3P,Nat.add_right_cancel_iff];constructor
  .rintro⟨h1,h2,h3⟩;refine⟨h2,λ i hi=>?_⟩;cases i with
   | zero=>simpa using h1
   | succ i=>simpa using h3 i (by omega)
  .rintro⟨h1,h2⟩;exact⟨by simpa using h2 0 (by omega),h1,λ i hi=>by simpa using h2 (i+1) (by omega)⟩
def a6L{α:Type}(f:α->α->Bool)(z:α)(xs ys:List α)(k:Nat)(h:xs.length=ys.length)(hk:k<xs.length)(hf:f (xs.getD k z) (ys.getD k z)=false):dI f xs ys=false:=by
 cases hb:dI f xs ys
 .rfl
 .have:=((Rz f z xs ys).1 hb).2 k hk;rw[this] at hf;cases hf
def a3i{α:Type}(f:α->α->Bool)(z:α)(xs ys:List α)(k:Nat)(h:xs.length=ys.length)(hk:xs.length<=k)(ha:dI f (xs.take k) (ys.take k)=true):dI f xs ys=true:=by
 rwa [b4a hk,b4a (by omega)] at ha
def a3h{α:Type}(f:α->α->Bool)(z:α)(xs ys:List α)(k:Nat)(h1:k<xs.length)(h2:k<ys.length)(ha:dI f (xs.take k) (ys.take k)=true)(hf:f (xs.getD k z) (ys.getD k z)=true):dI f (xs.take (k+1)) (ys.take (k+1))=true:=by
 rw[Rz f z] at ha ⊢;simp only[b4e,b3V] at ha hf ⊢;refine⟨by omega,λ i hi=>?_⟩;rcases b4J i k with hik|hik
 .have:=ha.2 i (by omega);simpa [List.getElem?_take,hik,show i<k+1 by omega] using this
 .have:i=k:=by omega
  subst this;simpa [List.getElem?_take] using hf
def Zo{α:Type}:∀ xs ys:List α,dI bC xs ys=bC xs ys
 | [],[]=>by simp[dI]
 | [],_::_=>by simp[dI,bC]
 | _::_,[]=>by simp[dI,bC]
 | x::xs,y::ys=>by
  rw[dI,Zo xs ys];refine b5A.2 ?_;simp
def ZH(x y:J):bC x y=(decide (x.aq=y.aq)&&decide (x.aM=y.aM)&&bC x.M y.M):=by
 refine b5A.2 ?_;cases x;cases y;simp[and_assoc]
def iY:aH:=⟨jd,[.v (.slice (.st .expr)), .v (.slice (.st .expr)), .c [(.st .expr),(.st .expr)] .bool],λ (xs:List J) (ys:List J) (F:J->J->Prop×Bool)=>⟨(some (a1G F zE xs ys),[⟨.bool,dI (λ x y=>(F x y).2) xs ys⟩])⟩⟩
def Dy(xs:List J)(ys:List J)(F:J->J->Prop×Bool):Nat->aE:=(λ zb=>if Nat.beq zb 0 then .mk (Nat) (λ k=>k<=xs.length/\xs.length=ys.length/\dI (λ x y=>(F x y).2) (xs.take k) (ys.take k)=true) (λ k=>xs.length - k) [] [0,10,11,12,13,14] (λ k=>[(17, .aI ⟨(.int .i64),((k:Int):Int)⟩)]) [] (λ k=>[]) [] [] (λ k=>λ _ => .none) else .none)
def BQ(hE:aC []):aH.Good iY:=by
 refine⟨au nO rfl (by decide),?_⟩;show ∀ (xs:List J) (ys:List J) (F:J->J->Prop×Bool),(a1G F zE xs ys)->bd prog jd [.val ⟨(.slice (.st .expr)),xs⟩, .val ⟨(.slice (.st .expr)),ys⟩, .di ⟨[(.st .expr),(.st .expr)], .bool,F⟩] (·=[⟨.bool,dI (λ x y=>(F x y).2) xs ys⟩]);intro xs ys F hp;refine aU (wr:=[]) (cl:=[]) (ro:=[]) hE nO yX (Dy xs ys F) (let v0:=J.mk (0:Int) (0:Int) [];let v1:=(xs.length:Int);let v2 := !(decide (v1=((ys.length:Int))));((O v1->(O ((ys.length:Int))->((v2=true->false=(dI (λ x y=>(F x y).2) xs ys))/\(v2=false->(O v1->((∃ k1:Nat,((k1<=xs.length/\xs.length=ys.length/\dI (λ x y=>(F x y).2) (xs.take k1) (ys.take k1)=true)/\((ys=ys/\(F=F/\(xs=xs/\(v1=v1/\((0:Int)=(k1:Int)/\True)))))/\True)))/\(∀ k1:Nat,let v3:=F (aJ (xs.getD k1 v0)) (aJ (ys.getD k1 v0));let v4:=(k1:Int);((k1<=xs.length/\xs.length=ys.length/\dI (λ x y=>(F x y).2) (xs.take k1) (ys.take k1)=true)->(((decide (v4<v1))=true->(ak v4 xs.length/\(ak v4 ys.length/\(v3.1/\(((!(v3.2))=true->false=(dI (λ x y=>(F x y).2) xs ys))/\((!(v3.2))=false->(O (v4+(1:Int))/\(∃ k2:Nat,((k2<=xs.length/\xs.length=ys.length/\dI (λ x y=>(F x y).2) (xs.take k2) (ys.take k2)=true)/\(xs.length - k2<xs.length - k1/\((ys=ys/\(F=F/\(xs=xs/\(v1=v1/\((v4+(1:Int))=(k2:Int)/\True)))))/\True)))))))))))/\((decide (v4<v1))=false->true=(dI (λ x y=>(F x y).2) xs ys))))))))))))) (by kernel_rfl) ?_;have f0:=a6M (λ x y=>(F x y).2) xs ys;refine λ _ _=>⟨λ _=>?_,λ _ _=>⟨⟨0,?_,⟨rfl,rfl,rfl,rfl,?_,U⟩,U⟩,λ k1 _=>have b1x:=hp k1;have b1y:=a6L (λ x y=>(F x y).2) zE xs ys k1;have b1z:=a3i (λ x y=>(F x y).2) zE xs ys k1;have b1A:=a3h (λ x y=>(F x y).2) zE xs ys k1;⟨λ _=>⟨?_,?_,?_,λ _=>?_,λ _=>⟨?_,k1+1,?_,?_,⟨rfl,rfl,rfl,rfl,?_,U⟩,U⟩⟩,λ _=>?_⟩⟩⟩;all_goals try and_intros
 all_goals try (first|with_reducible rfl|with_reducible assumption)
 all_goals try simp only[J.eta,ag.eta,ar.eta,aK,br,bG] at *
 all_goals first|rfl|trivial|(simp only[b3E,b3D,ak,O] at *;first|omega|grind)|(simp[dI];done)|grind
def y7:aH.Good iY:=BQ trivial
def ka(n:Nat):J->J->Prop×Bool:=λ (x:J) (y:J)=>((cf x<n),bC x y)
def Tm:Nat×vA:=(jG,⟨[(.st .expr),(.st .expr)], .bool,[]⟩)
def a3m(n:Nat)(xs ys:List J)(h:cf xs<=n):a1G (ka n) zE xs ys:=λ i hi _=>by
 have:=cb zE xs i hi;show cf (xs.getD i _)<n;omega
def a3j(n:Nat)(xs ys:List J):dI (λ x y=>(ka n x y).2) xs ys=bC xs ys:=Zo xs ys
def rM(n:Nat):aH:=⟨jG,[.v (.st .expr), .v (.st .expr)],λ (x:J) (y:J)=>⟨(some (cf x<n),[⟨.bool,bC x y⟩])⟩⟩
def jy:aH:=⟨jG,[.v (.st .expr), .v (.st .expr)],λ (x:J) (y:J)=>⟨(none,[⟨.bool,bC x y⟩])⟩⟩
def Sg(x:J)(y:J):Nat->aE:=λ _ => .none
abbrev AG(n:Nat)(x:J)(y:J):Prop:=(x.M.length<=140737488355328 ->
 (y.M.length<=140737488355328 ->
 (a1G (ka n) zE x.M y.M/\(dI (λ x y=>((ka n) x y).2) x.M y.M)=(bC x y))))
def QG(n:Nat)(hE:aC [rM n,iY]):aH.Good (rM (n+1)):=by
 refine⟨au lR rfl (by decide),?_⟩;show ∀ (x:J) (y:J),(cf x<n+1)->bd prog jG [.val ⟨(.st .expr),x⟩, .val ⟨(.st .expr),y⟩] (·=[⟨.bool,bC x y⟩]);intro x y hp;refine aU (wr:=[]) (cl:=[Tm]) (ro:=[2,3]) hE lR KB (Sg x y) ((O x.aq->(O y.aq->(((decide (x.aq=y.aq))=true->(O x.aM->(O y.aM->(((decide (x.aM=y.aM))=true->(AG n x y))/\((decide (x.aM=y.aM))=(!true)->false=(bC x y))))))/\((decide (x.aq=y.aq))=(!true)->((false=true->(AG n x y))/\(false=(!true)->false=(bC x y)))))))) (by kernel_rfl) ?_;have f0:=dn x;have f1:=a3m n x.M y.M;have f2:=a3j n x.M y.M;have f3:=ZH x y;refine λ _ _=>⟨λ _ _ _=>⟨λ _ _ _=>⟨?_,?_⟩,λ _=>?_⟩,λ _=>⟨λ _ _ _=>⟨?_,?_⟩,λ _=>?_⟩⟩;all_goals try and_intros
 all_goals first|rfl|trivial|(simp only[decide_eq_true_eq,decide_eq_false_iff_not,ak,O] at *;first|omega|grind)|grind [a1G]
def Tx :∀ n,aC [rM n]
 | 0=>⟨⟨au lR rfl (by decide),λ _ _ h=>absurd h (b4y _)⟩,U⟩
 | n+1=>by
  have ih:=Tx  n;exact⟨QG n ⟨ih.1,y7,U⟩,U⟩
def jh :aH.Good jy :=
 ⟨au lR rfl (by decide),λ x y hp=>(Tx  (cf x+1)).1.2 x y (b4v _)⟩
def tQ(n:Nat):aH:=⟨pf,[.r (.st .expr), .r (.st .expr)],λ (x:J) (y:J)=>⟨(some (cf x<n),[⟨.bool,bC x y⟩])⟩⟩
def o6:aH:=⟨pf,[.r (.st .expr), .r (.st .expr)],λ (x:J) (y:J)=>⟨(none,[⟨.bool,bC x y⟩])⟩⟩
def UW(x:J)(y:J):Nat->aE:=(λ zb=>if Nat.beq zb 0 then .mk (Nat) (λ k=>k<=x.M.length/\x.M.length=y.M.length/\x.M.take k=y.M.take k/\x.aq=y.aq/\x.aM=y.aM) (λ k=>x.M.length - k) [] [6,7,8,9,10,11,12,13,14,15,16,17,18,19,20,21,22,23,24,25,26,27,28,29,30,31,32,33,34,35,36,37,38] (λ k=>[(5, .aI ⟨(.int .i64),((k:Int):Int)⟩)]) [] (λ k=>[]) [] [] (λ k=>λ _ => .none) else .none)
abbrev rr(n:Nat)(x:J)(y:J):Prop:=(let v0:=J.mk (0:Int) (0:Int) [];let v1:=(x.M.length:Int);((∃ k1:Nat,((k1<=x.M.length/\x.M.length=y.M.length/\x.M.take k1=y.M.take k1/\x.aq=y.aq/\x.aM=y.aM)/\((x=x/\(y=y/\((0:Int)=(k1:Int)/\True)))/\True)))/\(∀ k1:Nat,let v2 := !(bC (x.M.getD k1 v0) (y.M.getD k1 v0));let v3:=(k1:Int);((k1<=x.M.length/\x.M.length=y.M.length/\x.M.take k1=y.M.take k1/\x.aq=y.aq/\x.aM=y.aM) ->
 (x.M.length<=140737488355328 ->
 (O v1 ->
 (((decide (v3<v1))=true ->
 (ak v3 x.M.length/\(ak v3 y.M.length/\(x.M.length<=140737488355328 ->
 (y.M.length<=140737488355328 ->
 (cf (x.M.getD k1 v0)<n/\((v2=true ->
 false=(bC x y))/\(v2=false ->
 (O (v3+(1:Int))/\(∃ k2:Nat,((k2<=x.M.length/\x.M.length=y.M.length/\x.M.take k2=y.M.take k2/\x.aq=y.aq/\x.aM=y.aM)/\(x.M.length - k2<x.M.length - k1/\((x=x/\(y=y/\((v3+(1:Int))=(k2:Int)/\True)))/\True)))))))))))))/\((decide (v3<v1))=false ->
 true=(bC x y)))))))))
abbrev Cy(n:Nat)(x:J)(y:J):Prop:=(let v0 := !(decide (((x.M.length:Int))=((y.M.length:Int))));(x.M.length<=140737488355328 ->
 (O ((x.M.length:Int)) ->
 (y.M.length<=140737488355328 ->
 (O ((y.M.length:Int)) ->
 ((v0=true ->
 false=(bC x y))/\(v0=false ->
 (rr n x y))))))))
def S4(n:Nat)(hE:aC [tQ n]):aH.Good (tQ (n+1)):=by
 refine⟨au np rfl (by decide),?_⟩;show ∀ (x:J) (y:J),(cf x<n+1)->bd prog pf [.ref ⟨(.st .expr),x⟩, .ref ⟨(.st .expr),y⟩] (·=[⟨.bool,bC x y⟩]);intro x y hp;refine aU (wr:=[]) (cl:=[]) (ro:=[]) hE np MI (UW x y) ((((!(decide (x.aq=y.aq)))=false->(((!(decide (x.aM=y.aM)))=false->(O x.aq->(O y.aq->(O x.aM->(O y.aM->(Cy n x y))))))/\((!(decide (x.aM=y.aM)))=(!false)->(O x.aq->(O y.aq->(O x.aM->(O y.aM->((true=true->false=(bC x y))/\(true=false->(rr n x y))))))))))/\((!(decide (x.aq=y.aq)))=(!false)->((true=false->(O x.aq->(O y.aq->(Cy n x y))))/\(true=(!false)->(O x.aq->(O y.aq->((true=true->false=(bC x y))/\(true=false->(rr n x y)))))))))) (by kernel_rfl) ?_;have f0:=dn x;have f3:=ZH x y;refine⟨λ _=>⟨λ _ _ _ _ _ _ _ _ _=>⟨λ _=>?_,λ _=>⟨⟨0,?_,⟨rfl,rfl,?_,U⟩,U⟩,λ k1 _=>have a3p:=gh zE x.M y.M k1;have a3q:=dy x.M y.M k1;have a3r:=cb zE x.M k1;λ _ _=>⟨λ _=>⟨?_,?_,λ _ _=>⟨?_,λ _=>?_,λ _=>⟨?_,k1+1,?_,?_,⟨rfl,rfl,?_,U⟩,U⟩⟩⟩,λ _=>?_⟩⟩⟩,λ _ _ _ _ _=>⟨λ _=>?_,λ _=>⟨⟨0,?_,⟨rfl,rfl,?_,U⟩,U⟩,λ k1 _=>have a6X:=gh zE x.M y.M k1;have a6Y:=dy x.M y.M k1;have a6Z:=cb zE x.M k1;λ _ _=>⟨λ _=>⟨?_,?_,λ _ _=>⟨?_,λ _=>?_,λ _=>⟨?_,k1+1,?_,?_,⟨rfl,rfl,?_,U⟩,U⟩⟩⟩,λ _=>?_⟩⟩⟩⟩,λ _=>⟨λ _ _ _ _ _ _ _=>⟨λ _=>?_,λ _=>⟨⟨0,?_,⟨rfl,rfl,?_,U⟩,U⟩,λ k1 _=>have a9F:=gh zE x.M y.M k1;have a9G:=dy x.M y.M k1;have a9H:=cb zE x.M k1;λ _ _=>⟨λ _=>⟨?_,?_,λ _ _=>⟨?_,λ _=>?_,λ _=>⟨?_,k1+1,?_,?_,⟨rfl,rfl,?_,U⟩,U⟩⟩⟩,λ _=>?_⟩⟩⟩,λ _ _ _=>⟨λ _=>?_,λ _=>⟨⟨0,?_,⟨rfl,rfl,?_,U⟩,U⟩,λ k1 _=>have b1B:=gh zE x.M y.M k1;have b1C:=dy x.M y.M k1;have b1D:=cb zE x.M k1;λ _ _=>⟨λ _=>⟨?_,?_,λ _ _=>⟨?_,λ _=>?_,λ _=>⟨?_,k1+1,?_,?_,⟨rfl,rfl,?_,U⟩,U⟩⟩⟩,λ _=>?_⟩⟩⟩⟩⟩;all_goals try and_intros
 all_goals first|rfl|trivial|(simp only[decide_eq_true_eq,decide_eq_false_iff_not,Bool.not_eq_false',Bool.not_eq_true',decide_not,ak,O] at *;first|omega|grind)|grind [iA,a5L]
def Tz :∀ n,aC [tQ n]
 | 0=>⟨⟨au np rfl (by decide),λ _ _ h=>absurd h (b4y _)⟩,U⟩
 | n+1=>by
  have ih:=Tz  n;exact⟨S4 n ⟨ih.1,U⟩,U⟩
def pC :aH.Good o6 :=
 ⟨au np rfl (by decide),λ x y hp=>(Tz  (cf x+1)).1.2 x y (b4v _)⟩
end
end Go.Proofs.YtmjfpcajohhbeaaGreatDoor

namespace Go.Proofs
open Go.Shelf
def Tryz.a1c:Go.Shelf.Ren:=⟨λ|145=>144|220=>148|219=>153|217=>160|225=>161|224=>162|267=>163|266=>169|314=>170|n=>n,λ|9=>9|4=>4|59=>175|3=>3|5=>5|46=>203|146=>214|51=>213|n=>n,λ|1=>0|n=>n⟩
def Tryz.a7Q:Go.Proofs.Lays.n145 Tryz.prog Tryz.a1c:={
 mixed:=by kernel_rfl
 f145:=Tryz.func144.trans (congrArg some (by kernel_rfl))
 f217:=Tryz.func160.trans (congrArg some (by kernel_rfl))
 f219:=Tryz.func153.trans (congrArg some (by kernel_rfl))
 f220:=Tryz.func148.trans (congrArg some (by kernel_rfl))
 f224:=Tryz.func162.trans (congrArg some (by kernel_rfl))
 f225:=Tryz.func161.trans (congrArg some (by kernel_rfl))
 f266:=Tryz.func169.trans (congrArg some (by kernel_rfl))
 f267:=Tryz.func163.trans (congrArg some (by kernel_rfl))
 f314:=Tryz.func170.trans (congrArg some (by kernel_rfl))
 t3:=Tryz.underlying3
 a3:=Tryz.isAgg3
 z3:=Tryz.sizeOf3
 v3:=Tryz.zeroValue3
 t4:=Tryz.underlying4
 a4:=Tryz.isAgg4
 z4:=Tryz.sizeOf4
 v4:=Tryz.zeroValue4
 t5:=Tryz.underlying5
 a5:=Tryz.isAgg5
 z5:=Tryz.sizeOf5
 v5:=Tryz.zeroValue5
 t9:=Tryz.underlying9
 a9:=Tryz.isAgg9
 z9:=Tryz.sizeOf9
 v9:=Tryz.zeroValue9
 t46:=Tryz.underlying203
 a46:=Tryz.isAgg203
 z46:=Tryz.sizeOf203
 v46:=Tryz.zeroValue203
 t51:=Tryz.underlying213
 a51:=Tryz.isAgg213
 z51:=Tryz.sizeOf213
 v51:=Tryz.zeroValue213
 t59:=Tryz.underlying175
 a59:=Tryz.isAgg175
 z59:=Tryz.sizeOf175
 v59:=Tryz.zeroValue175
 t146:=Tryz.underlying214
 a146:=Tryz.isAgg214
 z146:=Tryz.sizeOf214
 v146:=Tryz.zeroValue214
 g1:=by kernel_rfl }
open Go.RowKit Go.Lib in
def Tryz.strings_Cut(s sep:ByteArray)(m:Int)(w:World)(hs:s.size<4294967281)(hm:w.cell? ⟨0,0,none⟩=some (.int .i64 m)) :
  Calls Tryz.prog 144 #[.string s, .string sep] w λ e w'=>e = .returned (.tuple #[.string ⟨(Lib.cut s.data.toList sep.data.toList).1.toArray⟩, .string ⟨(Lib.cut s.data.toList sep.data.toList).2.1.toArray⟩, .bool (Lib.cut s.data.toList sep.data.toList).2.2])/\∃ n,w'=w.drewN n:=Any.strings_Cut Tryz.a7Q s sep m w hs hm
end Go.Proofs

set_option maxRecDepth 4000
set_option maxHeartbeats 4000000
namespace Go.Proofs.YtmjfpcajohhbeaaGreatDoor
noncomputable section
open Go.RowKit Go.Proofs
def qp(s p:List UInt8):List UInt8:=(Lib.cut s p).1
def jS(s p:List UInt8):List UInt8:=(Lib.cut s p).2.1
def sK(s p:List UInt8):Bool:=(Lib.cut s p).2.2
def Ch(s p:List UInt8):List UInt8:=bif sK s p then qp s p else []
def a2E(s p:List UInt8)(i:Nat):Lib.occAt s p i=true↔(s.take (i+p.length)).drop i=p:=by
 unfold Lib.occAt;rw[List.isPrefixOf_iff_prefix,List.prefix_iff_eq_take,List.drop_take,Nat.add_sub_cancel_left];exact eq_comm
def a7i(s p:List UInt8)(i:Nat)(h:Lib.NoOcc s p i)(hi:i+p.length<=s.length)(e:(s.take (i+p.length)).drop i=p):Ch s p=s.take i/\jS s p=s.drop (i+p.length)/\sK s p=true:=by
 have hx:=Lib.index_hit h (by omega) ((a2E s p i).2 e);have hc:Lib.cut s p=(s.take i,s.drop (i+p.length),true):=by
  unfold Lib.cut;rw[hx,if_pos (by omega),Int.toNat_natCast]
 simp[Ch,jS,sK,qp,hc]
def a8O(s p:List UInt8)(i:Nat)(h:Lib.NoOcc s p i)(e:¬ (s.take (i+p.length)).drop i=p):Lib.NoOcc s p (i+1) :=
 h.succ (by
  cases q:Lib.occAt s p i with
  | false=>rfl
  | true=>exact absurd ((a2E s p i).1 q) e)
def a7h(s p:List UInt8)(i:Nat)(h:Lib.NoOcc s p i)(hp:1<=p.length)(hi:s.length<i+p.length):Ch s p=[]/\jS s p=[]/\sK s p=false:=by
 have hx:=Lib.index_past (λ e=>by rw[e] at hp;simp at hp) h hi;have hc:Lib.cut s p=(s,[],false):=by
  unfold Lib.cut;rw[hx];rfl
 simp[Ch,jS,sK,qp,hc]
def natAdd(a b:Nat):((a:Int)+(b:Int)).toNat=a+b:=by omega
def ZF(s p:List UInt8):(qp s p).length<=s.length/\(jS s p).length<=s.length:=by
 unfold qp jS Lib.cut;split
 .simp only[b4e,b4V];omega
 .simp
def AW:aH:=⟨Bf,[.v .str, .v .str],λ (s:List UInt8) (p:List UInt8)=>⟨(some (s.length<=1048576/\1<=p.length/\p.length<=100),[⟨.str,Ch s p⟩,⟨.str,jS s p⟩,⟨.bool,sK s p⟩])⟩⟩
def XC(s:List UInt8)(p:List UInt8):Nat->aE:=(λ zb=>if Nat.beq zb 0 then .mk (Nat) (λ i=>Lib.NoOcc s p i/\i<=s.length) (λ i=>s.length - i) [] [] (λ i=>[(7, .aI ⟨(.int .i64),((i:Int):Int)⟩)]) [] (λ i=>[]) [] [] (λ i=>λ _ => .none) else .none)
def Vv(hE:aC []):aH.Good AW:=by
 refine⟨au G7 rfl (by decide),?_⟩;show ∀ (s:List UInt8) (p:List UInt8),(s.length<=1048576/\1<=p.length/\p.length<=100)->bd prog Bf [.val ⟨.str,s⟩, .val ⟨.str,p⟩] (·=[⟨.str,Ch s p⟩,⟨.str,jS s p⟩,⟨.bool,sK s p⟩]);intro s p hp;refine aU (wr:=[]) (cl:=[]) (ro:=[]) hE G7 Ph (XC s p) (let v0:=(p.length:Int);let v1:=(s.length:Int);(((∃ i1:Nat,((Lib.NoOcc s p i1/\i1<=s.length)/\((s=s/\(p=p/\((0:Int)=(i1:Int)/\True)))/\True)))/\(∀ i1:Nat,let v2:=(i1:Int)+v0;let v3:=decide (((s.take (Int.toNat v2)).drop i1)=p);((Lib.NoOcc s p i1/\i1<=s.length)->(O v0->(O v2/\(O v1->(((decide (v2<=v1))=true->(O v0->(O v2/\(cw (i1:Int) v2 s.length/\((v3=true->(cw (0:Int) (i1:Int) s.length/\(O v2/\(cw v2 v1 s.length/\(O v0->(((s.take i1).drop 0)=(Ch s p)/\(((s.take (Int.toNat v1)).drop (Int.toNat v2))=(jS s p)/\true=(sK s p))))))))/\(v3=false->(O ((i1:Int)+(1:Int))/\(∃ i2:Nat,((Lib.NoOcc s p i2/\i2<=s.length)/\(s.length - i2<s.length - i1/\((s=s/\(p=p/\(((i1:Int)+(1:Int))=(i2:Int)/\True)))/\True)))))))))))/\((decide (v2<=v1))=false->([]=(Ch s p)/\([]=(jS s p)/\false=(sK s p))))))))))))) (by kernel_rfl) ?_;have f0:=Lib.NoOcc.zero s p;refine⟨⟨0,?_,⟨rfl,rfl,?_,U⟩,U⟩,λ i1 _=>have El:=a7i s p i1;have qO:=a8O s p i1;have yD:=a7h s p i1;λ _=>⟨?_,λ _=>⟨λ _ _=>⟨?_,?_,λ _=>⟨?_,?_,?_,λ _=>⟨?_,?_,?_⟩⟩,λ _=>⟨?_,i1+1,?_,?_,⟨rfl,rfl,?_,U⟩,U⟩⟩,λ _=>⟨?_,?_,?_⟩⟩⟩⟩;all_goals try and_intros
 all_goals first|rfl|trivial|omega|(simp only[b3E,b3D,ak,O,cw,natAdd,b3W,b6i] at *;first|omega|grind)|grind
def PT:aH.Good AW:=Vv trivial
def Jg:aH:=⟨Jx,[.v .str, .v .str],λ (s:List UInt8) (p:List UInt8)=>⟨(some (s.length<=1048576),[⟨.str,qp s p⟩,⟨.str,jS s p⟩,⟨.bool,sK s p⟩])⟩⟩
def PV:aH.Good Jg:=by
 refine⟨au Up rfl (by decide),?_⟩;intro (s:List UInt8) (p:List UInt8) hp w S cI hS ha;match cI,ha with
 | [v,u],ha =>
  obtain⟨⟨x,hv,hx,xp⟩,⟨y,hu,hy,hyl⟩,_⟩:=ha;simp only[b3O,b3T] at hv hu;subst hv hu;have hp2:s.length<=1048576:=hp;obtain⟨_,m,hm⟩:=hS.2 0 (b4m.2 rfl);have lB:x.size<4294967281:=by
   have:x.data.toList.length=s.length:=congrArg List.length hx;rw[b7F,this];omega
  have hl:=ZF s p;have ex:x.data.toList=s:=hx;have ey:y.data.toList=p:=hy;refine (Tryz.strings_Cut x y m w lB hm).mono ?_;rw[ex,ey];rintro e w' ⟨rfl,n,rfl⟩;refine⟨_,S,_,rfl,rfl,⟨rfl,rfl,rfl,b4r _,λ b _ _=>rfl⟩,λ b _=>b5G,λ b h=>hS.1 b h,[_,_,_],rfl,?_,?_,rfl,U⟩
  .refine⟨_,rfl,rfl,?_⟩;have:(⟨(Lib.cut s p).1.toArray⟩:ByteArray).size=(qp s p).length:=by rw[b7F];rfl
   rw[this];omega
  .refine⟨_,rfl,rfl,?_⟩;have:(⟨(Lib.cut s p).2.1.toArray⟩:ByteArray).size=(jS s p).length:=by rw[b7F];rfl
   rw[this];omega
end
end Go.Proofs.YtmjfpcajohhbeaaGreatDoor

set_option maxRecDepth 4000
set_option maxHeartbeats 4000000
namespace Go.Proofs.YtmjfpcajohhbeaaGreatDoor
open Go.RowKit Go.Proofs
def Wj{B b:Nat}{p:Value}{bs:List Value}{w:World}(h:Lib.BuilderAt 196 5 B b p bs w)(o:Obj):Lib.BuilderAt 196 5 B b p bs (w.alloc o):=by
 obtain⟨hB,v,hb,oM,eZ⟩:=h;exact⟨hB,v,by rw[Lib.alloc_old w o b (bD hb)];exact hb,oM.alloc _,eZ⟩
abbrev yT(B b:Nat)(l:List UInt8)(w:World):Prop:=Lib.IsBuilder 196 5 B b (Lib.byteCells l) w
def mB{B b:Nat}{l:List UInt8}{w:World}(h:yT B b l w)(o:Obj):yT B b l (w.alloc o):=h.imp (λ h=>Wj h o) (λ h=>Wj h o)
def Qh{B b:Nat}{l:List UInt8}{w:World}(h:yT B b l w):b<w.heap.size:=by
 rcases h with h|h<;>exact h.lt
def qq{B:Nat}{w:World}(h:B<=w.heap.size)(o:Obj):B<=(w.alloc o).heap.size:=by simp;omega
def Et{b:Nat}{w w1:World}{cs:Array Value}(h:jn b (w.alloc (.cells cs 38)) w1)(hb:b<w.heap.size)(j:Nat){v:Value}(hj:cs[j]?=some v):w1.cell? ⟨w.heap.size,j,none⟩=some v:=by
 have e:=h w.heap.size cs 38 (0,0) (b6L w _) (by decide) (by omega);rw[b6h (a:=⟨w.heap.size,j,none⟩) e,b6n (b6L w _)];exact hj
structure Wr(B b:Nat)(l t:List UInt8)(w w':World):Prop where
 R9:yT B b (l++t) w'
 nQ:Below B w w'
 aR:jn b w w'
def Wr.trans{B b:Nat}{l t u:List UInt8}{w w1 w2:World}(h:Wr B b l t w w1)(k:Wr B b (l++t) u w1 w2):Wr B b l (t++u) w w2 :=
 ⟨by rw[<-b4H];exact k.R9,h.nQ.trans k.nQ,h.aR.trans k.aR⟩
def Wr.alloc{B b:Nat}{l t:List UInt8}{w w1:World}{o:Obj}(h:Wr B b l t (w.alloc o) w1)(iV:B<=w.heap.size):Wr B b l t w w1 :=
 ⟨h.R9,((b7d B w).alloc iV _).trans h.nQ,((jn.refl b w).alloc _).trans h.aR⟩
def ws(B b:Nat)(l:List UInt8)(s:ByteArray)(w:World)(h:yT B b l w)(hlen:l.length+s.data.toList.length<=140737488355328)(iV:B<=w.heap.size) :
  Calls Tryz.prog 167 #[.pointer (some ⟨b,0,none⟩), .string s] w λ e w'=>e = .returned (.tuple #[.int .i64 s.size, .nilIface])/\Wr B b l s.data.toList w w':=by
 refine (writeString B b _ s w h (by simpa [Lib.byteCells_length] using hlen) iV).mono ?_;rintro e w' ⟨rfl,h1,h2,h3⟩;refine⟨rfl,?_,h2,h3⟩;have:Lib.byteCells l++Lib.strCells s=Lib.byteCells (l++s.data.toList):=by simp[Lib.byteCells,Lib.strCells]
 rw[yT,<-this];exact h1
abbrev Kz(B b:Nat)(v:Value)(l t:List UInt8)(w:World):Prop :=
 Calls Tryz.prog 156 #[.pointer (some ⟨b,0,none⟩),v] w λ e w'=>e = .returned (.tuple #[])/\Wr B b l t w w'
set_option maxRecDepth 100000 in
def RV(i:Nat)(hi:i<100)(w:World) :
  Calls Tryz.prog 173 #[.int .i64 i, .int .i64 10] w λ e w'=>e = .returned (.string ⟨(Lib.decDigits i).toArray⟩)/\w'=w:=by
 go_enter Tryz.func173,Tryz.ntmps173;go_wp2_with (go_at_call 175;refine (Tryz.internal_strconv_FormatInt_10_small i hi _).mono ?_);rintro e w1 ⟨he,hw⟩;subst he hw;go_wp2;go_ret;exact⟨rfl,rfl⟩
set_option maxRecDepth 100000 in
def IK(i:Nat)(hi:i<100)(w:World) :
  Calls Tryz.prog 168 #[.int .i64 i] w λ e w'=>e = .returned (.string ⟨(Lib.decDigits i).toArray⟩)/\w'=w:=by
 go_enter Tryz.func168,Tryz.ntmps168;go_wp2_with (go_at_call 173;refine (RV i hi _).mono ?_);rintro e w1 ⟨he,hw⟩;subst he hw;go_wp2;go_ret;exact⟨rfl,rfl⟩
set_option maxRecDepth 100000 in
def we1(B b:Nat)(l:List UInt8)(n:Int)(sl:Value)(w:World)(h:yT B b l w)(hlen:l.length+1<=140737488355328)(iV:B<=w.heap.size) :
  Kz B b (.agg #[.int .i64 1, .int .i64 n,sl]) l [48] w:=by
 go_enter Tryz.func156,Tryz.ntmps156;go_wp2_with (go_at_call 167;refine (ws B b l _ _ (mB h _) (by exact hlen) (qq iV _)).mono ?_);intro e w1 he h1;subst he;go_wp2;go_end0;exact⟨rfl,h1.alloc iV⟩
set_option maxRecDepth 100000 in
def we2(B b:Nat)(l:List UInt8)(n:Int)(sl:Value)(w:World)(h:yT B b l w)(hlen:l.length+1<=140737488355328)(iV:B<=w.heap.size) :
  Kz B b (.agg #[.int .i64 2, .int .i64 n,sl]) l [49] w:=by
 go_enter Tryz.func156,Tryz.ntmps156;go_wp2_with (go_at_call 167;refine (ws B b l _ _ (mB h _) (by exact hlen) (qq iV _)).mono ?_);intro e w1 he h1;subst he;go_wp2;go_end0;exact⟨rfl,h1.alloc iV⟩
set_option maxRecDepth 100000 in
def we3(B b:Nat)(l:List UInt8)(i:Nat)(hi:i<100)(sl:Value)(w:World)(h:yT B b l w)(hlen:l.length+((Lib.decDigits i).length+1)<=140737488355328)(iV:B<=w.heap.size) :
  Kz B b (.agg #[.int .i64 3, .int .i64 i,sl]) l (116::Lib.decDigits i) w:=by
 go_enter Tryz.func156,Tryz.ntmps156;go_wp2_with (go_at_call 168;refine (IK i hi _).mono ?_);rintro e w1 ⟨he,hw⟩;subst he hw;go_wp2_with (go_at_call 167;refine (ws B b l _ _ (mB h _) (by simp;omega) (qq iV _)).mono ?_);rintro e w1 ⟨he,h1⟩;subst he;go_wp2;go_end0;exact⟨rfl,by simpa using h1.alloc iV⟩
set_option maxRecDepth 100000 in
def we4(B b:Nat)(l:List UInt8)(i:Nat)(hi:i<100)(sl:Value)(w:World)(h:yT B b l w)(hlen:l.length+((Lib.decDigits i).length+1)<=140737488355328)(iV:B<=w.heap.size) :
  Kz B b (.agg #[.int .i64 4, .int .i64 i,sl]) l (97::Lib.decDigits i) w:=by
 go_enter Tryz.func156,Tryz.ntmps156;go_wp2_with (go_at_call 168;refine (IK i hi _).mono ?_);rintro e w1 ⟨he,hw⟩;subst he hw;go_wp2_with (go_at_call 167;refine (ws B b l _ _ (mB h _) (by simp;omega) (qq iV _)).mono ?_);rintro e w1 ⟨he,h1⟩;subst he;go_wp2;go_end0;exact⟨rfl,by simpa using h1.alloc iV⟩
set_option maxRecDepth 100000 in
def we5(B b:Nat)(l t:List UInt8)(n:Int)(kb ko cap:Nat)(c0 c1 c2:Value)(w:World)(h:yT B b l w)(hlen:l.length+(t.length+1)<=140737488355328)(iV:B<=w.heap.size)
  (vQ:∀ w1,Below B w w1->∀ j v,[c0,c1,c2][j]?=some v->w1.cell? ⟨kb,ko+0+j,none⟩=some v)
  (ih0:∀ w1 l1,Below B w w1->yT B b l1 w1->B<=w1.heap.size->l1.length+t.length<=140737488355328->Kz B b (.agg #[c0,c1,c2]) l1 t w1)
  : Kz B b (.agg #[.int .i64 5, .int .i64 n, .slice (some ⟨kb,ko,none⟩) 1 cap]) l (126::t) w:=by
 go_enter Tryz.func156,Tryz.ntmps156;go_wp2_with (go_at_call 167;refine (ws B b l _ _ (mB h _) (by simp;omega) (qq iV _)).mono ?_);intro e w1 he h1;subst he;have c2':=Et h1.aR (Qh h) 2 rfl;have q00:w1.cell? ⟨kb,ko,none⟩=some c0:=by simpa [Nat.add_assoc] using vQ w1 (h1.alloc iV).nQ 0 _ rfl
 have q01:w1.cell? ⟨kb,ko+1,none⟩=some c1:=by simpa [Nat.add_assoc] using vQ w1 (h1.alloc iV).nQ 1 _ rfl
 have q02:w1.cell? ⟨kb,ko+2,none⟩=some c2:=by simpa [Nat.add_assoc] using vQ w1 (h1.alloc iV).nQ 2 _ rfl
 go_wp2_with (go_at_call 156;refine (ih0 w1 _ (h1.alloc iV).nQ h1.R9 (by have:=(h1.alloc iV).nQ.size;omega) (by simp;omega)).mono ?_);rintro e w2 ⟨he,h2⟩;subst he;go_wp2;go_end0;exact⟨rfl,((h1.alloc iV).trans h2)⟩
set_option maxRecDepth 100000 in
def we8(B b:Nat)(l t:List UInt8)(n:Int)(kb ko cap:Nat)(c0 c1 c2:Value)(w:World)(h:yT B b l w)(hlen:l.length+(t.length+1)<=140737488355328)(iV:B<=w.heap.size)
  (vQ:∀ w1,Below B w w1->∀ j v,[c0,c1,c2][j]?=some v->w1.cell? ⟨kb,ko+0+j,none⟩=some v)
  (ih0:∀ w1 l1,Below B w w1->yT B b l1 w1->B<=w1.heap.size->l1.length+t.length<=140737488355328->Kz B b (.agg #[c0,c1,c2]) l1 t w1)
  : Kz B b (.agg #[.int .i64 8, .int .i64 n, .slice (some ⟨kb,ko,none⟩) 1 cap]) l (t++[42]) w:=by
 have P2:Below B w (w.alloc (.cells #[.int .i64 8, .int .i64 n, .slice (some ⟨kb,ko,none⟩) 1 cap] 38)):=(Below.refl B w).alloc iV _;have q00:(w.alloc (.cells #[.int .i64 8, .int .i64 n, .slice (some ⟨kb,ko,none⟩) 1 cap] 38)).cell? ⟨kb,ko,none⟩=some c0:=by simpa [Nat.add_assoc] using vQ (w.alloc (.cells #[.int .i64 8, .int .i64 n, .slice (some ⟨kb,ko,none⟩) 1 cap] 38)) P2 0 _ rfl
 have q01:(w.alloc (.cells #[.int .i64 8, .int .i64 n, .slice (some ⟨kb,ko,none⟩) 1 cap] 38)).cell? ⟨kb,ko+1,none⟩=some c1:=by simpa [Nat.add_assoc] using vQ (w.alloc (.cells #[.int .i64 8, .int .i64 n, .slice (some ⟨kb,ko,none⟩) 1 cap] 38)) P2 1 _ rfl
 have q02:(w.alloc (.cells #[.int .i64 8, .int .i64 n, .slice (some ⟨kb,ko,none⟩) 1 cap] 38)).cell? ⟨kb,ko+2,none⟩=some c2:=by simpa [Nat.add_assoc] using vQ (w.alloc (.cells #[.int .i64 8, .int .i64 n, .slice (some ⟨kb,ko,none⟩) 1 cap] 38)) P2 2 _ rfl
 go_enter Tryz.func156,Tryz.ntmps156;go_wp2_with (go_at_call 156;refine (ih0 _ _ P2 (mB h _) (qq iV _) (by omega)).mono ?_);rintro e w1 ⟨he,h1⟩;subst he;go_wp2_with (go_at_call 167;refine (ws B b _ _ _ h1.R9 (by simp;omega) (by have:=(h1.alloc iV).nQ.size;omega)).mono ?_);intro e w2 he h2;subst he;go_wp2;go_end0;exact⟨rfl,((h1.alloc iV).trans h2)⟩
set_option maxRecDepth 100000 in
def we6(B b:Nat)(l t u:List UInt8)(n:Int)(kb ko cap:Nat)(c0 c1 c2 d0 d1 d2:Value)(w:World)(h:yT B b l w)(hlen:l.length+(t.length+u.length+5)<=140737488355328)(iV:B<=w.heap.size)
  (vQ:∀ w1,Below B w w1->∀ j v,[c0,c1,c2][j]?=some v->w1.cell? ⟨kb,ko+0+j,none⟩=some v)
  (ih0:∀ w1 l1,Below B w w1->yT B b l1 w1->B<=w1.heap.size->l1.length+t.length<=140737488355328->Kz B b (.agg #[c0,c1,c2]) l1 t w1)
  (R2:∀ w1,Below B w w1->∀ j v,[d0,d1,d2][j]?=some v->w1.cell? ⟨kb,ko+3+j,none⟩=some v)
  (ih1:∀ w1 l1,Below B w w1->yT B b l1 w1->B<=w1.heap.size->l1.length+u.length<=140737488355328->Kz B b (.agg #[d0,d1,d2]) l1 u w1)
  : Kz B b (.agg #[.int .i64 6, .int .i64 n, .slice (some ⟨kb,ko,none⟩) 2 cap]) l ([40]++(t++([32,43,32]++(u++[41])))) w:=by
 go_enter Tryz.func156,Tryz.ntmps156;go_wp2_with (go_at_call 167;refine (ws B b l _ _ (mB h _) (by simp;omega) (qq iV _)).mono ?_);intro e w1 he h1;subst he;have e1:=Et h1.aR (Qh h) 2 rfl;have q00:w1.cell? ⟨kb,ko,none⟩=some c0:=by simpa [Nat.add_assoc] using vQ w1 (h1.alloc iV).nQ 0 _ rfl
 have q01:w1.cell? ⟨kb,ko+1,none⟩=some c1:=by simpa [Nat.add_assoc] using vQ w1 (h1.alloc iV).nQ 1 _ rfl
 have q02:w1.cell? ⟨kb,ko+2,none⟩=some c2:=by simpa [Nat.add_assoc] using vQ w1 (h1.alloc iV).nQ 2 _ rfl
 have g1:=h1.alloc iV;have s1:B<=w1.heap.size:=by have:=g1.nQ.size;omega
 go_wp2_with (go_at_call 156;refine (ih0 w1 _ g1.nQ h1.R9 s1 (by simp;omega)).mono ?_);rintro e w2 ⟨he,h2⟩;subst he;have s2:B<=w2.heap.size:=by have:=h2.nQ.size;omega
 go_wp2_with (go_at_call 167;refine (ws B b _ _ _ h2.R9 (by simp;omega) s2).mono ?_);intro e w3 he h3;subst he;have e3:=Et (h1.aR.trans (h2.aR.trans h3.aR)) (Qh h) 2 rfl;have g3:=g1.nQ.trans (h2.nQ.trans h3.nQ);have q10:w3.cell? ⟨kb,ko+3,none⟩=some d0:=by simpa [Nat.add_assoc] using R2 w3 g3 0 _ rfl
 have q11:w3.cell? ⟨kb,ko+4,none⟩=some d1:=by simpa [Nat.add_assoc] using R2 w3 g3 1 _ rfl
 have q12:w3.cell? ⟨kb,ko+5,none⟩=some d2:=by simpa [Nat.add_assoc] using R2 w3 g3 2 _ rfl
 have s3:B<=w3.heap.size:=by have:=h3.nQ.size;omega
 go_wp2_with (go_at_call 156;refine (ih1 w3 _ g3 h3.R9 s3 (by simp;omega)).mono ?_);rintro e w4 ⟨he,h4⟩;subst he;have s4:B<=w4.heap.size:=by have:=h4.nQ.size;omega
 go_wp2_with (go_at_call 167;refine (ws B b _ _ _ h4.R9 (by simp;omega) s4).mono ?_);intro e w5 he h5;subst he;go_wp2;go_end0;have j2:Wr B b (l++[40]) t w1 w2:=by simpa using h2
 have j3:Wr B b (l++[40]++t) [32,43,32] w2 w3:=by simpa using h3
 have j4:Wr B b (l++[40]++t++[32,43,32]) u w3 w4:=by simpa using h4
 have j5:Wr B b (l++[40]++t++[32,43,32]++u) [41] w4 w5:=by simpa using h5
 exact⟨rfl,g1.trans (j2.trans (j3.trans (j4.trans j5)))⟩
set_option maxRecDepth 100000 in
def we7(B b:Nat)(l t u:List UInt8)(n:Int)(kb ko cap:Nat)(c0 c1 c2 d0 d1 d2:Value)(w:World)(h:yT B b l w)(hlen:l.length+(t.length+u.length+3)<=140737488355328)(iV:B<=w.heap.size)
  (vQ:∀ w1,Below B w w1->∀ j v,[c0,c1,c2][j]?=some v->w1.cell? ⟨kb,ko+0+j,none⟩=some v)
  (ih0:∀ w1 l1,Below B w w1->yT B b l1 w1->B<=w1.heap.size->l1.length+t.length<=140737488355328->Kz B b (.agg #[c0,c1,c2]) l1 t w1)
  (R2:∀ w1,Below B w w1->∀ j v,[d0,d1,d2][j]?=some v->w1.cell? ⟨kb,ko+3+j,none⟩=some v)
  (ih1:∀ w1 l1,Below B w w1->yT B b l1 w1->B<=w1.heap.size->l1.length+u.length<=140737488355328->Kz B b (.agg #[d0,d1,d2]) l1 u w1)
  : Kz B b (.agg #[.int .i64 7, .int .i64 n, .slice (some ⟨kb,ko,none⟩) 2 cap]) l ([40]++(t++([32]++(u++[41])))) w:=by
 go_enter Tryz.func156,Tryz.ntmps156;go_wp2_with (go_at_call 167;refine (ws B b l _ _ (mB h _) (by simp;omega) (qq iV _)).mono ?_);intro e w1 he h1;subst he;have e1:=Et h1.aR (Qh h) 2 rfl;have q00:w1.cell? ⟨kb,ko,none⟩=some c0:=by simpa [Nat.add_assoc] using vQ w1 (h1.alloc iV).nQ 0 _ rfl
 have q01:w1.cell? ⟨kb,ko+1,none⟩=some c1:=by simpa [Nat.add_assoc] using vQ w1 (h1.alloc iV).nQ 1 _ rfl
 have q02:w1.cell? ⟨kb,ko+2,none⟩=some c2:=by simpa [Nat.add_assoc] using vQ w1 (h1.alloc iV).nQ 2 _ rfl
 have g1:=h1.alloc iV;have s1:B<=w1.heap.size:=by have:=g1.nQ.size;omega
 go_wp2_with (go_at_call 156;refine (ih0 w1 _ g1.nQ h1.R9 s1 (by simp;omega)).mono ?_);rintro e w2 ⟨he,h2⟩;subst he;have s2:B<=w2.heap.size:=by have:=h2.nQ.size;omega
 go_wp2_with (go_at_call 167;refine (ws B b _ _ _ h2.R9 (by simp;omega) s2).mono ?_);intro e w3 he h3;subst he;have e3:=Et (h1.aR.trans (h2.aR.trans h3.aR)) (Qh h) 2 rfl;have g3:=g1.nQ.trans (h2.nQ.trans h3.nQ);have q10:w3.cell? ⟨kb,ko+3,none⟩=some d0:=by simpa [Nat.add_assoc] using R2 w3 g3 0 _ rfl
 have q11:w3.cell? ⟨kb,ko+4,none⟩=some d1:=by simpa [Nat.add_assoc] using R2 w3 g3 1 _ rfl
 have q12:w3.cell? ⟨kb,ko+5,none⟩=some d2:=by simpa [Nat.add_assoc] using R2 w3 g3 2 _ rfl
 have s3:B<=w3.heap.size:=by have:=h3.nQ.size;omega
 go_wp2_with (go_at_call 156;refine (ih1 w3 _ g3 h3.R9 s3 (by simp;omega)).mono ?_);rintro e w4 ⟨he,h4⟩;subst he;have s4:B<=w4.heap.size:=by have:=h4.nQ.size;omega
 go_wp2_with (go_at_call 167;refine (ws B b _ _ _ h4.R9 (by simp;omega) s4).mono ?_);intro e w5 he h5;subst he;go_wp2;go_end0;have j2:Wr B b (l++[40]) t w1 w2:=by simpa using h2
 have j3:Wr B b (l++[40]++t) [32] w2 w3:=by simpa using h3
 have j4:Wr B b (l++[40]++t++[32]) u w3 w4:=by simpa using h4
 have j5:Wr B b (l++[40]++t++[32]++u) [41] w4 w5:=by simpa using h5
 exact⟨rfl,g1.trans (j2.trans (j3.trans (j4.trans j5)))⟩
end Go.Proofs.YtmjfpcajohhbeaaGreatDoor

set_option maxRecDepth 4000
set_option maxHeartbeats 4000000
namespace Go.Proofs.YtmjfpcajohhbeaaGreatDoor
noncomputable section
open Go.RowKit Go.Proofs
def BM(n:Int):List UInt8:=Lib.decDigits n.toNat
def Zj(k n:Int)(p q:List UInt8):List UInt8:=if k=1 then [48] else if k=2 then [49] else if k=3 then 116::BM n else if k=4 then 97::BM n else if k=5 then 126::p
 else if k=6 then [40]++(p++([32,43,32]++(q++[41]))) else if k=7 then [40]++(p++([32]++(q++[41]))) else p++[42]
mutual
def bY:J->List UInt8
 | ⟨k,n,ks⟩=>Zj k n ((Uk ks).getD 0 []) ((Uk ks).getD 1 [])
def Uk:List J->List (List UInt8)
 | []=>[]
 | k::ks=>bY k::Uk ks
end
def qf(z:J):∀ (xs:List J) (i:Nat),i<xs.length->(Uk xs).getD i []=bY (xs.getD i z)
 | [],i,h=>by simp at h
 | x::xs,0,h=>by simp[Uk]
 | x::xs,i+1,h=>by
  have:=qf z xs i (by simpa using h);simpa [Uk] using this
def a9u(x:J):bY x=Zj x.aq x.aM ((Uk x.M).getD 0 []) ((Uk x.M).getD 1 []):=by
 cases x;rfl
def ea(x:J):Bool:=bc 9 9 x
def Cj(x:J)(i:Nat):Prop:=ea (x.M.getD i zE)=true/\cf (x.M.getD i zE)<cf x
def As(x:J)(h:ea x=true)(i:Nat)(hi:i<x.M.length):Cj x i:=by
 unfold Cj;simp only[ea] at h ⊢;rw[ik] at h;simp only[Bool.and_eq_true] at h;refine⟨Zr _ _ _ _ hi h.2,?_⟩;have:=cb (zE:J) x.M i hi;have:=dn x;omega
def gw(x:J)(h:ea x=true):((x.aq=3\/x.aq=4)->0<=x.aM/\x.aM<=9) /\
  ((x.aq=5\/x.aq=8)->x.M.length=1/\Cj x 0)/\((x.aq=6\/x.aq=7)->x.M.length=2/\Cj x 0/\Cj x 1) /\
  (x.aq=1\/x.aq=2\/x.aq=3\/x.aq=4\/x.aq=5\/x.aq=6\/x.aq=7\/x.aq=8):=by
 have hk:=As x h;simp only[ea] at h;rw[ik,zn] at h;simp only[b3J,b3E] at h;obtain⟨⟨⟨h1,h2⟩,_⟩,_⟩:=h;refine⟨λ e=>?_,λ e=>?_,λ e=>?_,?_⟩
 .rcases e with e|e<;>simpa [JA,e] using h2
 .have h1':x.M.length=1:=by
   rcases e with e|e<;>rw[e] at h1<;>simp[cS] at h1<;>omega
  exact⟨h1',hk 0 (by omega)⟩
 .have h1':x.M.length=2:=by
   rcases e with e|e<;>rw[e] at h1<;>simp[cS] at h1<;>omega
  exact⟨h1',hk 0 (by omega),hk 1 (by omega)⟩
 .unfold cS at h1;split at h1
  .omega
  .split at h1
   .omega
   .split at h1<;>omega
def eE(x:J)(h:ea x=true):(x.aq=1->bY x=[48])/\(x.aq=2->bY x=[49])/\(x.aq=3->bY x=116::BM x.aM)/\(x.aq=4->bY x=97::BM x.aM) /\
  (x.aq=5->bY x=126::bY (x.M.getD 0 zE)) /\
  (x.aq=6->bY x=[40]++(bY (x.M.getD 0 zE)++([32,43,32]++(bY (x.M.getD 1 zE)++[41])))) /\
  (x.aq=7->bY x=[40]++(bY (x.M.getD 0 zE)++([32]++(bY (x.M.getD 1 zE)++[41])))) /\
  (x.aq=8->bY x=bY (x.M.getD 0 zE)++[42]):=by
 have hf:=gw x h;rw[a9u];refine⟨λ e=>?_,λ e=>?_,λ e=>?_,λ e=>?_,λ e=>?_,λ e=>?_,λ e=>?_,λ e=>?_⟩
 .simp[Zj,e]
 .simp[Zj,e]
 .simp[Zj,e]
 .simp[Zj,e]
 .have:=(hf.2.1 (.inl e)).1;rw[qf zE x.M 0 (by omega)];simp[Zj,e]
 .have:=(hf.2.2.1 (.inl e)).1;rw[qf zE x.M 0 (by omega),qf zE x.M 1 (by omega)];simp[Zj,e]
 .have:=(hf.2.2.1 (.inr e)).1;rw[qf zE x.M 0 (by omega),qf zE x.M 1 (by omega)];simp[Zj,e]
 .have:=(hf.2.1 (.inr e)).1;rw[qf zE x.M 0 (by omega)];simp[Zj,e]
def a1W(n:Int)(h:0<=n/\n<=9):(BM n).length=1:=by
 unfold BM;rw[Lib.decDigits_one (by omega)];rfl
def b0l(f:J->Nat)(z:J)(xs:List J)(h:xs.length=2):aF f xs=f (xs.getD 0 z)+f (xs.getD 1 z):=by
 match xs,h with
 | [a,b],_=>simp[aF]
def b0k(f:J->Nat)(z:J)(xs:List J)(h:xs.length=1):aF f xs=f (xs.getD 0 z):=by
 match xs,h with
 | [a],_=>simp[aF]
def BB:∀ (N:Nat) (x:J),cf x<N->ea x=true->(bY x).length<=5 * aL x
 | 0,x,h,_=>by omega
 | N+1,x,hN,h=>by
  have hf:=gw x h;have ht:=eE x h;have hn:=Bj x;rcases hf.2.2.2 with e|e|e|e|e|e|e|e
  .rw[ht.1 e];simp;omega
  .rw[ht.2.1 e];simp;omega
  .rw[ht.2.2.1 e];have:=a1W _ (hf.1 (.inl e));simp;omega
  .rw[ht.2.2.2.1 e];have:=a1W _ (hf.1 (.inr e));simp;omega
  .rw[ht.2.2.2.2.1 e];obtain⟨hl,h0⟩:=hf.2.1 (.inl e);have i0:=BB N _ (by have:=h0.2;omega) h0.1;rw[b0k _ zE _ hl] at hn;simp only[b3P];omega
  .rw[ht.2.2.2.2.2.1 e];obtain⟨hl,h0,h1⟩:=hf.2.2.1 (.inl e);have i0:=BB N _ (by have:=h0.2;omega) h0.1;have i1:=BB N _ (by have:=h1.2;omega) h1.1;rw[b0l _ zE _ hl] at hn;simp only[b3U,b3P,b4b];omega
  .rw[ht.2.2.2.2.2.2.1 e];obtain⟨hl,h0,h1⟩:=hf.2.2.1 (.inr e);have i0:=BB N _ (by have:=h0.2;omega) h0.1;have i1:=BB N _ (by have:=h1.2;omega) h1.1;rw[b0l _ zE _ hl] at hn;simp only[b3U,b3P,b4b];omega
  .rw[ht.2.2.2.2.2.2.2 e];obtain⟨hl,h0⟩:=hf.2.1 (.inr e);have i0:=BB N _ (by have:=h0.2;omega) h0.1;rw[b0k _ zE _ hl] at hn;simp only[b3U,b3P,b4b];omega
def a2P{w:World}{S:Nat->Prop}{x:J}{cs:List Value}(h:Rd w S x.aQ cs):∃ a cap,cs=[.int .i64 x.aq, .int .i64 x.aM, .slice a x.M.length cap] /\
  (x.M=[]\/∃ b o,a=some ⟨b,o,none⟩/\S b/\du w S (x.M.map J.aQ) b o):=by
 cases x with
 | mk k n ks =>
  simp only[J.aQ,Rd,dq] at h;obtain⟨v0,r0,rfl,⟨h0,_⟩,v1,r1,rfl,⟨h1,_⟩,v2,r2,rfl,⟨a,cap,h2,_,_,_,h3⟩,rfl⟩:=h;simp only[b3O,b3T] at h0 h1 h2;subst h0 h1 h2;rw[J.wC] at *
  refine⟨a,cap,by simp,h3.imp (λ h=>by simpa using h) id⟩
def a9n{w:World}{S:Nat->Prop}{x:J}{b o:Nat}(h:du w S (x.M.map J.aQ) b o)(i:Nat)(hi:i<x.M.length) :
  ∃ c0 c1 c2,Rd w S (x.M.getD i zE).aQ [c0,c1,c2]/\ct w b (o+3 * i) [c0,c1,c2]:=by
 obtain⟨cs,h1,h2,h3⟩:=du.at_ (n:=3) _ b o h (λ d hd=>by
  obtain⟨y,_,rfl⟩:=b3N.1 hd;cases y;rfl) i (x.M.getD i zE).aQ (by simp[b5z,b3V,b4j hi])
 match cs,h1 with
 | [c0,c1,c2],_=>exact⟨c0,c1,c2,h2,by rw[Nat.mul_comm];exact h3⟩
def Mn(B b:Nat)(S:Nat->Prop)(hS:∀ k,S k->k<B):∀ (N:Nat) (x:J),cf x<N->ea x=true->∀ (l:List UInt8) (w:World) (cs:List Value),yT B b l w->B<=w.heap.size ->
  l.length+(bY x).length<=140737488355328->Rd w S x.aQ cs->Kz B b (.agg cs.toArray) l (bY x) w
 | 0,x,h,_=>by omega
 | N+1,x,hN,h=>by
  intro l w cs hI hB hl hr;have hf:=gw x h;have ht:=eE x h;obtain⟨a,cap,rfl,hk⟩:=a2P hr;have Li:∀ i,i<x.M.length->Cj x i->∃ kb ko c0 c1 c2,a=some ⟨kb,ko,none⟩/\(∀ j,j≠i->True)/\(∀ w1,Below B w w1->∀ j v,[c0,c1,c2][j]?=some v->w1.cell? ⟨kb,ko+3 * i+j,none⟩=some v) /\
    (∀ w1 l1,Below B w w1->yT B b l1 w1->B<=w1.heap.size->l1.length+(bY (x.M.getD i zE)).length<=140737488355328->Kz B b (.agg #[c0,c1,c2]) l1 (bY (x.M.getD i zE)) w1):=by
   intro i hi hg;rcases hk with hk|⟨kb,ko,rfl,hSk,eQ⟩
   .rw[hk] at hi;simp at hi
   .obtain⟨c0,c1,c2,h1,h2⟩:=a9n eQ i hi;refine⟨kb,ko,c0,c1,c2,rfl,λ _ _=>trivial,λ w1 hw j v hj=>?_,λ w1 l1 hw hI1 hB1 hl1=>?_⟩
    .exact h2.aR (hw.block kb (hS kb hSk)) j v hj
    .exact Mn B b S hS N _ (by have:=hg.2;omega) hg.1 l1 w1 [c0,c1,c2] hI1 hB1 hl1 (h1.aR (λ _ h=>h) (λ k hk=>hw.block k (hS k hk)))
  rcases hf.2.2.2 with e|e|e|e|e|e|e|e
  .rw[ht.1 e] at hl ⊢;rw[e];exact we1 B b l _ _ w hI hl hB
  .rw[ht.2.1 e] at hl ⊢;rw[e];exact we2 B b l _ _ w hI hl hB
  .have hn:=hf.1 (.inl e);rw[ht.2.2.1 e] at hl ⊢;rw[e,show x.aM=((x.aM.toNat:Nat):Int) by omega];exact we3 B b l _ (by omega) _ w hI (by simpa [BM] using hl) hB
  .have hn:=hf.1 (.inr e);rw[ht.2.2.2.1 e] at hl ⊢;rw[e,show x.aM=((x.aM.toNat:Nat):Int) by omega];exact we4 B b l _ (by omega) _ w hI (by simpa [BM] using hl) hB
  .obtain⟨hn,h0⟩:=hf.2.1 (.inl e);obtain⟨kb,ko,c0,c1,c2,rfl,_,q1,q2⟩:=Li 0 (by omega) h0;rw[ht.2.2.2.2.1 e] at hl ⊢;rw[e,hn];exact we5 B b l _ _ kb ko cap c0 c1 c2 w hI (by simpa using hl) hB q1 q2
  .obtain⟨hn,h0,h1⟩:=hf.2.2.1 (.inl e);obtain⟨kb,ko,c0,c1,c2,rfl,_,q1,q2⟩:=Li 0 (by omega) h0;obtain⟨kb',ko',d0,d1,d2,eq,_,p1,p2⟩:=Li 1 (by omega) h1;cases eq;rw[ht.2.2.2.2.2.1 e] at hl ⊢;rw[e,hn];exact we6 B b l _ _ _ kb ko cap c0 c1 c2 d0 d1 d2 w hI (by simp at hl ⊢;omega) hB q1 q2 p1 p2
  .obtain⟨hn,h0,h1⟩:=hf.2.2.1 (.inr e);obtain⟨kb,ko,c0,c1,c2,rfl,_,q1,q2⟩:=Li 0 (by omega) h0;obtain⟨kb',ko',d0,d1,d2,eq,_,p1,p2⟩:=Li 1 (by omega) h1;cases eq;rw[ht.2.2.2.2.2.2.1 e] at hl ⊢;rw[e,hn];exact we7 B b l _ _ _ kb ko cap c0 c1 c2 d0 d1 d2 w hI (by simp at hl ⊢;omega) hB q1 q2 p1 p2
  .obtain⟨hn,h0⟩:=hf.2.1 (.inr e);obtain⟨kb,ko,c0,c1,c2,rfl,_,q1,q2⟩:=Li 0 (by omega) h0;rw[ht.2.2.2.2.2.2.2 e] at hl ⊢;rw[e,hn];exact we8 B b l _ _ kb ko cap c0 c1 c2 w hI (by simpa using hl) hB q1 q2
def Jc:aH:=⟨Jw,[.v (.st .expr)],λ (x:J)=>⟨(some (ea x=true/\(bY x).length<=1000000),[⟨.str,bY x⟩])⟩⟩
set_option maxRecDepth 100000 in
def a1u(x:J)(w:World)(S:Nat->Prop)(hS:∀ b,S b->b<w.heap.size)(hg:ea x=true)(hl:(bY x).length<=1000000)(cs:List Value)(hr:Rd w S x.aQ cs) :
  Calls Tryz.prog 150 #[.agg cs.toArray] w λ e w'=>e = .returned (.string ⟨(bY x).toArray⟩)/\Below w.heap.size w w':=by
 obtain⟨a,cap,rfl,hk⟩:=a2P hr;have hI:∀ o:Obj,yT (w.heap.size+1) (w.heap.size+1) [] ((w.alloc o).alloc (.cells #[.pointer none, .slice none 0 0] 196)):=λ o=>by
  have:=Lib.fresh_isBuilder 196 5 (w.alloc o);rw[show (w.alloc o).heap.size=w.heap.size+1 by simp] at this;exact this
 have hB:∀ o p:Obj,w.heap.size+1<=((w.alloc o).alloc p).heap.size:=λ o p=>by simp
 have hw:∀ o p:Obj,Below w.heap.size w ((w.alloc o).alloc p):=λ o p=>((Below.refl _ w).alloc (Nat.le_refl _) o).alloc (by simp) p;go_enter Tryz.func150,Tryz.ntmps150;go_wp2_with (go_at_call 156;refine (Mn (w.heap.size+1) (w.heap.size+1) S (λ k hk=>Nat.lt_succ_of_lt (hS k hk)) (cf x+1) x (Nat.lt_succ_self _) hg [] _ _ (hI _) (hB _ _) (by simp;omega) (hr.aR (λ _ h=>h) (λ k hk=>(hw _ _).block k (hS k hk)))).mono ?_);rintro e w1 ⟨he,h1⟩;subst he;have b1:Below w.heap.size w w1:=(hw _ _).trans (h1.nQ.mono (Nat.le_succ _));have g1:yT (w.heap.size+1) (w.heap.size+1) (bY x) w1:=by simpa using h1.R9
 have z1:w.heap.size+1<=w1.heap.size:=b5v (hB _ _) h1.nQ.size;clear h1;go_wp2_with (go_at_call 157;refine (Tryz.Builder_String_any (w.heap.size+1) (w.heap.size+1) (bY x) w1 g1 z1).mono ?_);rintro e w2 ⟨he,h2⟩;subst he;go_wp2;go_ret;exact⟨rfl,b1.trans (h2.mono (b7G _))⟩
def a0H{w w':World}(h:Below w.heap.size w w'):bE (λ _=>False) w w':=⟨h.os,h.tape,h.output,h.size,λ b hb _=>h.block b hb⟩
def a9o{w:World}{S:Nat->Prop}(l:List UInt8)(h:l.length<=140737488355328):eK w S ⟨.str,l⟩ (.string ⟨l.toArray⟩) :=
 ⟨⟨l.toArray⟩,rfl,by simp,by simpa [ByteArray.size] using h⟩
def PN:aH.Good Jc:=by
 refine⟨au Um rfl (by decide),?_⟩;intro x hp w S cI ⟨hS,_⟩ ha;match cI,ha with
 | [v],ha =>
  obtain⟨⟨cs,rfl,hr⟩,_⟩:=ha;refine (a1u x w S hS hp.1 hp.2 cs hr).mono ?_;rintro e w' ⟨rfl,hb⟩;exact⟨_,S,_,rfl,rfl,a0H hb,λ _ _=>b5G,λ b h=>b3X (hS b h) hb.size,a9o (w:=w') (S:=S) _ (by have:=hp.2;omega)⟩
def tk(x:J)(i:Nat):J:=x.M.getD i zE
structure TK(x:J)(i:Nat):Prop where
 b3y:ea (x.M.getD i zE)=true
 less:cf (x.M.getD i zE)<cf x
 len:(bY (x.M.getD i zE)).length<=(bY x).length
end
end Go.Proofs.YtmjfpcajohhbeaaGreatDoor

namespace Go.Proofs.YtmjfpcajohhbeaaGreatDoor
noncomputable section
def a6c(s:List UInt8)(h:mW 9 s=true)(h9:gF s<=9):mW 1 s=true:=by
 rw[Fb] at h ⊢;simp only[b3J,b3E,b3S,b6f,b3D] at h ⊢;obtain⟨⟨⟨h1,h2⟩,h3⟩,h4⟩:=h;refine⟨⟨⟨h1,?_⟩,h3⟩,h4⟩;rcases b4J 1 s.length with hl|hl
 .exfalso;match s,hl,h3,h4,h9 with
  | a::b::r,_,h3,h4,h9 =>
   have ha:fD a=true:=by simp[bg] at h4;exact h4.1
   have ha':=ha;simp only[fD,b3J,b3E] at ha;have h3':a.toNat≠48:=by rcases h3 with h3|h3<;>simp at h3<;>omega
   have key:∀ (r:List UInt8) (n:Int),1<=n->bg fD r=true->n<=r.foldl (λ n b=>n * 10+((b.toNat:Int) - 48)) n:=by
    intro r;induction r with
    | nil=>intro n _ _;exact Int.le_refl _
    | cons c r ih =>
     intro n hn hr;simp only[bg,b3J] at hr;have hc:=hr.1;simp only[fD,b3J,b3E] at hc;have:=ih (n * 10+((c.toNat:Int) - 48)) (by omega) hr.2;simp only[b6H];omega
   simp only[bg,b3J] at h4;have hb:=h4.2.1;simp only[fD,b3J,b3E] at hb;have:=key r (((0 * 10+((a.toNat:Int) - 48)) * 10)+((b.toNat:Int) - 48)) (by omega) h4.2.2;simp only[gF,b6H] at h9;omega
 .omega
def a2Z{α:Type}(f:α->Nat):∀ (xs ys:List α),aF f (xs++ys)=aF f xs+aF f ys
 | [],ys=>by simp[aF]
 | x::xs,ys=>by simp only[b4U,aF,a2Z f xs ys];omega
def qh{α:Type}(f:α->Bool):∀ (xs:List α),bg f xs=true->∀ x∈xs,f x=true
 | x::xs,h,y,hy=>by
  simp only[bg,b3J] at h;rcases b3Z.1 hy with e|e
  .rw[e];exact h.1
  .exact qh f xs h.2 y e
abbrev zX:J:=J.mk (0:Int) (0:Int) []
def cK(t:List UInt8)(a:Nat)(s:List UInt8):Bool:=decide (s.length<=(t.drop a).length)&&decide ((t.drop a).take s.length=s)
def na{t:List UInt8}{a:Nat}{s r:List UInt8}(h:t.drop a=s++r):cK t a s=true:=by
 unfold cK;rw[h];simp
def Rl(t:List UInt8)(a:Nat)(s:List UInt8):cK t a s=true↔∃ r,t.drop a=s++r:=by
 constructor
 .intro h;simp only[cK,b3J,b3E] at h;refine⟨(t.drop a).drop s.length,?_⟩;conv=>rhs;lhs;rw[<-h.2]
  rw[b4S]
 .rintro⟨r,h⟩;exact na h
def l8{t:List UInt8}{a:Nat}{b c:UInt8}{r:List UInt8}(h:t.drop a=b::r)(hn:b≠c)(s:List UInt8):cK t a (c::s)=false:=by
 cases e:cK t a (c::s) with
 | false=>rfl
 | true =>
  obtain⟨r',h'⟩:=(Rl _ _ _).1 e;rw[h] at h';simp only[b4U,b3O] at h';exact absurd h'.1 hn
def cJ(c:UInt8):List UInt8->Nat
 | []=>0
 | b::l=>if b=c then cJ c l+1 else 0
def noB(c:UInt8)(r:List UInt8):Prop:=∀ b l,r=b::l->b≠c
def Pt(c:UInt8)(r:List UInt8)(h:noB c r):∀ n,cJ c (List.replicate n c++r)=n
 | 0=>by
  cases r with
  | nil=>rfl
  | cons b l=>simp[cJ,h b l rfl]
 | n+1=>by simp[b5C,cJ,Pt c r h n]
def cu{t w r:List UInt8}{a:Nat}(h:t.drop a=w++r):t.drop (a+w.length)=r:=by
 rw[<-b5p,h];simp
structure RI where
 e:J
 ok:Bool
 a:Nat
def cq(k:Int):Nat->J->J
 | 0,e=>e
 | n+1,e=>cq k n (J.mk k 0 [e])
def dQ(k:Int):∀ (n:Nat) (e:J),cq k (n+1) e=J.mk k 0 [cq k n e]
 | 0,e=>rfl
 | n+1,e=>by
  show cq k (n+1) (J.mk k 0 [e])=_;rw[dQ k n (J.mk k 0 [e])];rfl
def jr(core:Nat->RI)(t:List UInt8)(a:Nat):RI :=
 if 40<cJ 126 (t.drop a) then ⟨zX,false,a+cJ 126 (t.drop a)⟩ else
 if 41<cJ 42 (t.drop (core (a+cJ 126 (t.drop a))).a) then ⟨zX,false,(core (a+cJ 126 (t.drop a))).a+42⟩ else
 ⟨cq 8 (cJ 42 (t.drop (core (a+cJ 126 (t.drop a))).a)) (cq 5 (cJ 126 (t.drop a)) (core (a+cJ 126 (t.drop a))).e),(core (a+cJ 126 (t.drop a))).ok,(core (a+cJ 126 (t.drop a))).a+cJ 42 (t.drop (core (a+cJ 126 (t.drop a))).a)⟩
def iz(t:List UInt8)(a:Nat):Bool:=decide (a<t.length)&&decide (48<=(t.getD a 0).toNat)&&decide ((t.getD a 0).toNat<=57)
def ub(k:Int)(t:List UInt8)(a:Nat):RI:=bif iz t a then ⟨J.mk k (((t.getD a 0).toNat:Int) - 48) [],true,a+1⟩ else ⟨J.mk k 0 [],false,a⟩
def ss(k:Int)(t:List UInt8)(x y:RI):RI:=bif x.ok&&y.ok&&cK t y.a [41] then ⟨J.mk k 0 [x.e,y.e],true,y.a+1⟩ else ⟨J.mk k 0 [x.e,y.e],false,y.a⟩
def dz(t:List UInt8):Nat->Nat->RI
 | 0,a=>⟨zX,false,a⟩
 | d+1,a=>if cK t a [48]=true then ⟨J.mk 1 0 [],true,a+1⟩ else if cK t a [49]=true then ⟨J.mk 2 0 [],true,a+1⟩ else
  if cK t a [116]=true then ub 3 t (a+1) else if cK t a [97]=true then ub 4 t (a+1) else if cK t a [40]=false then ⟨zX,false,a⟩ else
  if cK t (jr (dz t d) t (a+1)).a [32,43,32]=true then ss 6 t (jr (dz t d) t (a+1)) (jr (dz t d) t ((jr (dz t d) t (a+1)).a+3)) else
  if cK t (jr (dz t d) t (a+1)).a [32]=true then ss 7 t (jr (dz t d) t (a+1)) (jr (dz t d) t ((jr (dz t d) t (a+1)).a+1)) else
  ⟨zX,false,(jr (dz t d) t (a+1)).a⟩
def RP(k:Int):Prop:=k=1\/k=2\/k=3\/k=4\/k=6\/k=7
def ll(x:J)(h:ea x=true)(e:¬ x.aq=3)(e':¬ x.aq=4):x.aM=0:=by
 simp only[ea] at h;rw[ik,zn] at h;simp only[Bool.and_eq_true,decide_eq_true_eq] at h;have:=h.1.1.2;rw[JA,if_neg e,if_neg e'] at this;simpa using this
def pB(x:J)(h:ea x=true)(e:x.aq=1\/x.aq=2\/x.aq=3\/x.aq=4):x.M=[]:=by
 simp only[ea] at h;rw[ik,zn] at h;simp only[b3J,b3E] at h;have h1:=h.1.1.1;have:x.M.length=0:=by rcases e with e|e|e|e<;>rw[e] at h1<;>simp[cS] at h1<;>omega
 exact b4L this
def a5S(x:J)(h:ea x=true)(e:x.aq=5):bh (x.M.getD 0 zE)=true:=by
 simp only[ea] at h;rw[ik,zn] at h;simp only[Bool.and_eq_true,decide_eq_true_eq] at h;have:=h.1.2;simpa [e] using this
def Q1(x:J)(h:x.M.length=1):x.M=[x.M.getD 0 zE]:=by
 cases x with
 | mk k n ks =>
  match ks,h with
  | [a],_=>rfl
def Kx(x:J)(h:x.M.length=2):x.M=[x.M.getD 0 zE,x.M.getD 1 zE]:=by
 cases x with
 | mk k n ks =>
  match ks,h with
  | [a,b],_=>rfl
def gK(x:J)(k n:Int)(ks:List J)(h1:x.aq=k)(h2:x.aM=n)(h3:x.M=ks):x=J.mk k n ks:=by
 cases x;simp at h1 h2 h3;simp[h1,h2,h3]
def Yj:∀ (N:Nat) (x:J),cf x<N->ea x=true->∃ m n c,x=cq 8 m (cq 5 n c)/\ea c=true/\RP c.aq/\cf c<=cf x/\bO c+m+n=bO x /\
  bY x=List.replicate n 126++(bY c++List.replicate m 42)
 | 0,x,h,_=>by omega
 | N+1,x,hN,h=>by
  have hf:=gw x h;have ht:=eE x h;by_cases h8:x.aq=8
  .obtain⟨hl,hk⟩:=hf.2.1 (.inr h8);obtain⟨m,n,c,e1,e2,e3,e4,e5,e6⟩:=Yj N _ (by have:=hk.2;omega) hk.1;have hx:x=J.mk 8 0 [x.M.getD 0 zE]:=gK x 8 0 _ h8 (ll x h (by omega) (by omega)) (Q1 x hl);refine⟨m+1,n,c,?_,e2,e3,by have:=hk.2;omega,?_,?_⟩
   .rw[dQ,<-e1];exact hx
   .rw[gR x,Q1 x hl];simp only[iK];omega
   .rw[ht.2.2.2.2.2.2.2 h8,e6,b6j];simp
  .by_cases h5:x.aq=5
   .obtain⟨hl,hk⟩:=hf.2.1 (.inl h5);obtain⟨m,n,c,e1,e2,e3,e4,e5,e6⟩:=Yj N _ (by have:=hk.2;omega) hk.1;have hx:x=J.mk 5 0 [x.M.getD 0 zE]:=gK x 5 0 _ h5 (ll x h (by omega) (by omega)) (Q1 x hl);have hm:m=0:=by
     cases m with
     | zero=>rfl
     | succ m =>
      have hc:=a5S x h h5;rw[e1,dQ,RM] at hc;simp[MY] at hc
    subst hm;refine⟨0,n+1,c,?_,e2,e3,by have:=hk.2;omega,?_,?_⟩
    .show x=cq 5 (n+1) c;rw[dQ];have e1':x.M.getD 0 zE=cq 5 n c:=e1;rw[<-e1'];exact hx
    .rw[gR x,Q1 x hl];simp only[iK];omega
    .rw[ht.2.2.2.2.1 h5,e6,b5C];simp
   .exact⟨0,0,x,rfl,h,by have:=hf.2.2.2;unfold RP;omega,Nat.le_refl _,by omega,by simp⟩
def M0{t:List UInt8}{a:Nat}{b:UInt8}{r:List UInt8}(h:t.drop a=b::r):a<t.length/\t.getD a 0=b:=by
 have hl:a<t.length:=by
  rcases b4J a t.length with g|g
  .exact g
  .rw[b5Q g] at h;cases h
 refine⟨hl,?_⟩;rw[b5r hl] at h;simp only[b3O] at h;rw[b3V,b4j hl,<-h.1];rfl
def TS(c:J)(h:ea c=true)(hk:RP c.aq):∃ b l,bY c=b::l/\b≠126/\b≠43:=by
 have ht:=eE c h;rcases hk with e|e|e|e|e|e
 .exact⟨_,_,ht.1 e,by decide,by decide⟩
 .exact⟨_,_,ht.2.1 e,by decide,by decide⟩
 .exact⟨_,_,ht.2.2.1 e,by decide,by decide⟩
 .exact⟨_,_,ht.2.2.2.1 e,by decide,by decide⟩
 .exact⟨_,_,ht.2.2.2.2.2.1 e,by decide,by decide⟩
 .exact⟨_,_,ht.2.2.2.2.2.2.1 e,by decide,by decide⟩
def WH(x:J)(h:ea x=true):∃ b l,bY x=b::l/\b≠43:=by
 obtain⟨m,n,c,_,h2,h3,_,_,h6⟩:=Yj (cf x+1) x (b4v _) h;obtain⟨b,l,g1,_,g3⟩:=TS c h2 h3;cases n with
 | zero=>exact⟨b,_,by rw[h6,g1];rfl,g3⟩
 | succ n=>exact⟨126,_,by rw[h6,b5C];rfl,by decide⟩
def ZJ(core:Nat->RI)(t:List UInt8)(a:Nat)(r:List UInt8)(x c:J)(m n:Nat)(hx:x=cq 8 m (cq 5 n c))(hc:ea c=true)(hk:RP c.aq)
  (htx:bY x=List.replicate n 126++(bY c++List.replicate m 42)) (hm:m<=40) (hn:n<=40) (hr:noB 42 r) (hd:t.drop a=bY x++r)
  (b0L:∀ r',t.drop (a+n)=bY c++r'->core (a+n)=⟨c,true,a+n+(bY c).length⟩):jr core t a=⟨x,true,a+(bY x).length⟩:=by
 obtain⟨b,l,g1,g2,_⟩:=TS c hc hk;have hd1:t.drop a=List.replicate n 126++(bY c++(List.replicate m 42++r)):=by rw[hd,htx];simp
 have hd2:t.drop (a+n)=bY c++(List.replicate m 42++r):=by
  have:=cu hd1;simpa using this
 have hd3:=cu hd2;have W3:cJ 126 (t.drop a)=n:=by
  rw[hd1];refine Pt 126 _ ?_ n;intro b' l' e;rw[g1] at e;simp only[b4U,b3O] at e;rw[<-e.1];exact g2
 have hm1:cJ 42 (t.drop (a+n+(bY c).length))=m:=by rw[hd3];exact Pt 42 r hr m
 have hcr:=b0L _ hd2;unfold jr;rw[W3,hcr];simp only[hm1];rw[if_neg (by omega),if_neg (by omega),<-hx];have:(bY x).length=n+((bY c).length+m):=by rw[htx];simp
 simp only[RI.mk.injEq,b4E];omega
def ZE:∀ (N:Nat) (c:J),cf c<N->ea c=true->RP c.aq->∀ (t:List UInt8) (d a:Nat) (r:List UInt8),bO c<=d->bO c<=40->t.drop a=bY c++r->dz t d a=⟨c,true,a+(bY c).length⟩
 | 0,c,h,_,_=>by omega
 | N+1,c,hN,h,hk=>by
  intro t d a r hd h40 ht;have hf:=gw c h;have hx:=eE c h;have hdp:=gR c;obtain⟨d,rfl⟩:∃ d',d=d'+1:=⟨d - 1,by omega⟩;have Li:∀ i,i<c.M.length->Cj c i->∀ (a:Nat) (r:List UInt8),noB 42 r->t.drop a=bY (c.M.getD i zE)++r ->
    jr (dz t d) t a=⟨c.M.getD i zE,true,a+(bY (c.M.getD i zE)).length⟩:=by
   intro i hi hg a r hr hda;obtain⟨m,n,c',e1,e2,e3,e4,e5,e6⟩:=Yj _ _ (b4v _) hg.1;have hdk:=uc bO zE c.M i hi;exact ZJ (dz t d) t a r _ c' m n e1 e2 e3 e6 (by omega) (by omega) hr hda (λ r' NI=>ZE N c' (by have:=hg.2;omega) e2 e3 t d (a+n) r' (by omega) (by omega) NI)
  rcases hk with e|e|e|e|e|e
  .rw[hx.1 e] at ht ⊢;have hc:=gK c 1 0 [] e (ll c h (by omega) (by omega)) (pB c h (by omega));rw[dz,b4n (na (s:=[48]) ht),<-hc];rfl
  .rw[hx.2.1 e] at ht ⊢;have hc:=gK c 2 0 [] e (ll c h (by omega) (by omega)) (pB c h (by omega));rw[dz,b3R (by rw[l8 (b:=49) ht (by decide)];decide),b4n (na (s:=[49]) ht),<-hc];rfl
  .have hn:=hf.1 (.inl e);have hg:BM c.aM=[UInt8.ofNat (48+c.aM.toNat)]:=by unfold BM;rw[Lib.decDigits_one (by omega)]
   rw[hx.2.2.1 e,hg] at ht ⊢;have h2:t.drop (a+1)=UInt8.ofNat (48+c.aM.toNat)::r:=cu (w:=[116]) ht;obtain⟨g1,g2⟩:=M0 h2;have hb:(UInt8.ofNat (48+c.aM.toNat)).toNat=48+c.aM.toNat:=by rw[b6R];omega
   rw[dz,if_neg (by rw[l8 (b:=116) ht (by decide)];decide),if_neg (by rw[l8 (b:=116) ht (by decide)];decide),if_pos (na (s:=[116]) ht)];have hdb:iz t (a+1)=true:=by unfold iz;rw[g2,hb,decide_eq_true g1,decide_eq_true (by omega),decide_eq_true (by omega)];rfl
   unfold ub;rw[hdb,g2,hb];have hc:=gK c 3 c.aM [] e rfl (pB c h (by omega));rw[show (((48+c.aM.toNat:Nat):Int) - 48)=c.aM by omega,<-hc];rfl
  .have hn:=hf.1 (.inr e);have hg:BM c.aM=[UInt8.ofNat (48+c.aM.toNat)]:=by unfold BM;rw[Lib.decDigits_one (by omega)]
   rw[hx.2.2.2.1 e,hg] at ht ⊢;have h2:t.drop (a+1)=UInt8.ofNat (48+c.aM.toNat)::r:=cu (w:=[97]) ht;obtain⟨g1,g2⟩:=M0 h2;have hb:(UInt8.ofNat (48+c.aM.toNat)).toNat=48+c.aM.toNat:=by rw[b6R];omega
   rw[dz,if_neg (by rw[l8 (b:=97) ht (by decide)];decide),if_neg (by rw[l8 (b:=97) ht (by decide)];decide),if_neg (by rw[l8 (b:=97) ht (by decide)];decide),if_pos (na (s:=[97]) ht)];have hdb:iz t (a+1)=true:=by unfold iz;rw[g2,hb,decide_eq_true g1,decide_eq_true (by omega),decide_eq_true (by omega)];rfl
   unfold ub;rw[hdb,g2,hb];have hc:=gK c 4 c.aM [] e rfl (pB c h (by omega));rw[show (((48+c.aM.toNat:Nat):Int) - 48)=c.aM by omega,<-hc];rfl
  .obtain⟨hl,k0,k1⟩:=hf.2.2.1 (.inl e);have hc:=gK c 6 0 _ e (ll c h (by omega) (by omega)) (Kx c hl);rw[hx.2.2.2.2.2.1 e] at ht ⊢;have p0:t.drop a=40::(bY (c.M.getD 0 zE)++([32,43,32]++(bY (c.M.getD 1 zE)++([41]++r)))):=by rw[ht];simp
   have p1:t.drop (a+1)=bY (c.M.getD 0 zE)++([32,43,32]++(bY (c.M.getD 1 zE)++([41]++r))):=cu (w:=[40]) p0;have q1:=Li 0 (by omega) k0 (a+1) _ (λ b l g=>by simp at g;rw[<-g.1];decide) p1;have p2:=cu p1;have p3:=cu p2;have q2:=Li 1 (by omega) k1 _ _ (λ b l g=>by simp at g;rw[<-g.1];decide) p3;have p4:=cu p3;rw[dz,b3R (by rw[l8 p0 (by decide)];decide),b3R (by rw[l8 p0 (by decide)];decide),b3R (by rw[l8 p0 (by decide)];decide),b3R (by rw[l8 p0 (by decide)];decide),
    b3R (by rw[na (s:=[40]) p0];decide)]
   rw[q1];simp only;rw[if_pos (na p2)];have q2':jr (dz t d) t (a+1+(bY (c.M.getD 0 zE)).length+3)=_:=q2;rw[q2'];unfold ss;simp only;rw[show cK t _ [41]=true from na (s:=[41]) p4];simp only[Bool.and_self,cond_true,RI.mk.injEq,true_and,<-hc];simp only[List.length_append,List.length_cons,List.length_nil];omega
  .obtain⟨hl,k0,k1⟩:=hf.2.2.1 (.inr e);have hc:=gK c 7 0 _ e (ll c h (by omega) (by omega)) (Kx c hl);rw[hx.2.2.2.2.2.2.1 e] at ht ⊢;have p0:t.drop a=40::(bY (c.M.getD 0 zE)++([32]++(bY (c.M.getD 1 zE)++([41]++r)))):=by rw[ht];simp
   have p1:t.drop (a+1)=bY (c.M.getD 0 zE)++([32]++(bY (c.M.getD 1 zE)++([41]++r))):=cu (w:=[40]) p0;have q1:=Li 0 (by omega) k0 (a+1) _ (λ b l g=>by simp at g;rw[<-g.1];decide) p1;have p2:=cu p1;have p3:=cu p2;have q2:=Li 1 (by omega) k1 _ _ (λ b l g=>by simp at g;rw[<-g.1];decide) p3;have p4:=cu p3;have ie:cK t (a+[40].length+(bY (c.M.getD 0 zE)).length) [32,43,32]=false:=by
    cases hb:cK t (a+[40].length+(bY (c.M.getD 0 zE)).length) [32,43,32] with
    | false=>rfl
    | true =>
     obtain⟨r',h'⟩:=(Rl _ _ _).1 hb;obtain⟨b,l,f1,f2⟩:=WH _ k1.1;have p2':=p2;rw[f1] at p2';have h3:=p2'.symm.trans h';simp only[b4U,b4i,b3O,b4E] at h3;exact absurd h3.1 f2
   rw[dz,b3R (by rw[l8 p0 (by decide)];decide),b3R (by rw[l8 p0 (by decide)];decide),b3R (by rw[l8 p0 (by decide)];decide),b3R (by rw[l8 p0 (by decide)];decide),
    b3R (by rw[na (s:=[40]) p0];decide)]
   rw[q1];simp only;rw[if_neg (by rw[show cK t (a+1+(bY (c.M.getD 0 zE)).length) [32,43,32]=false from ie];decide),if_pos (na p2)];have q2':jr (dz t d) t (a+1+(bY (c.M.getD 0 zE)).length+1)=_:=q2;rw[q2'];unfold ss;simp only;rw[show cK t _ [41]=true from na (s:=[41]) p4];simp only[Bool.and_self,cond_true,RI.mk.injEq,true_and,<-hc];simp only[List.length_append,List.length_cons,List.length_nil];omega
def a5M(x:J)(h:ea x=true)(h40:bO x<=40):jr (dz (bY x) 41) (bY x) 0=⟨x,true,(bY x).length⟩:=by
 obtain⟨m,n,c,e1,e2,e3,e4,e5,e6⟩:=Yj _ _ (Nat.lt_succ_self _) h;have:=ZJ (dz (bY x) 41) (bY x) 0 [] x c m n e1 e2 e3 e6 (by omega) (by omega) (λ b l g=>by cases g) (by simp) (λ r' NI=>ZE _ c (Nat.lt_succ_self _) e2 e3 (bY x) 41 (0+n) r' (by omega) (by omega) NI);simpa using this
def ck(t:List UInt8)(a:Nat):Int:=if a<t.length then ((t.getD a 0).toNat:Int) else 0
structure RS where
 e:J
 a:Nat
 dp:Nat
 bad:Bool
def oF:List UInt8->Nat
 | []=>0
 | b::l=>if fD b=true then oF l+1 else 0
def X0(t:List UInt8)(a:Nat):List UInt8:=(t.drop (a+1)).take (oF (t.drop (a+1)))
def lM(t:List UInt8)(a dp:Nat):RS:=⟨J.mk (if ck t a=97 then 4 else 3) (jY 9 (X0 t a)) [],a+1+oF (t.drop (a+1)),dp,!mW 9 (X0 t a)⟩
def dC(t:List UInt8)(a:Nat)(c:Int):Nat:=if ck t a=c then a+1 else a
def fH(t:List UInt8)(a:Nat)(c:Int)(bad:Bool):Bool:=if ck t a=c then bad else true
def DR(t:List UInt8)(r:RS):RS:=if r.bad=true then ⟨r.e,r.a,r.dp - 1,true⟩ else ⟨cq 8 (cJ 42 (t.drop r.a)) r.e,r.a+cJ 42 (t.drop r.a),r.dp - 1,false⟩
def dV(inner:Nat->Nat->RS)(t:List UInt8)(a dp:Nat)(bad:Bool):RS:=if bad=true\/100<dp+1 then ⟨zX,a,dp+1,true⟩ else DR t (inner a (dp+1))
def DO(inner:Nat->Nat->RS)(t:List UInt8)(x:RS)(k:Int)(a:Nat)(bad:Bool):RS :=
 ⟨J.mk k 0 [x.e,(dV inner t a x.dp bad).e],dC t (dV inner t a x.dp bad).a 41,(dV inner t a x.dp bad).dp,fH t (dV inner t a x.dp bad).a 41 (dV inner t a x.dp bad).bad⟩
def yo(inner:Nat->Nat->RS)(t:List UInt8)(x:RS):RS :=
 if ck t (dC t x.a 32)=43 then DO inner t x 6 (dC t (dC t x.a 32+1) 32) (fH t (dC t x.a 32+1) 32 (fH t x.a 32 x.bad)) else DO inner t x 7 (dC t x.a 32) (fH t x.a 32 x.bad)
def cC(t:List UInt8):Nat->Nat->Nat->RS
 | g,a,dp=>if ck t a=48 then ⟨J.mk 1 0 [],a+1,dp,false⟩ else if ck t a=49 then ⟨J.mk 2 0 [],a+1,dp,false⟩ else
  if ck t a=116\/ck t a=97 then lM t a dp else
  if ck t a=126 then (match g with
   | 0=>⟨zX,a+1,dp+1,true⟩
   | g+1=>⟨J.mk 5 0 [(cC t g (a+1) (dp+1)).e],(cC t g (a+1) (dp+1)).a,(cC t g (a+1) (dp+1)).dp - 1,(cC t g (a+1) (dp+1)).bad⟩) else
  if ck t a=40 then (match g with
   | 0=>yo (λ _ _=>⟨zX,0,0,true⟩) t (dV (λ _ _=>⟨zX,0,0,true⟩) t (a+1) dp false)
   | g+1=>yo (cC t g) t (dV (cC t g) t (a+1) dp false)) else ⟨zX,a,dp,true⟩
def fV{t:List UInt8}{a:Nat}{b:UInt8}{r:List UInt8}(h:t.drop a=b::r):ck t a=(b.toNat:Int):=by
 obtain⟨h1,h2⟩:=M0 h;unfold ck;rw[if_pos h1,h2]
def wv(t:List UInt8)(a:Nat)(c:UInt8)(hc:c≠0)(h:ck t a=(c.toNat:Int)):∃ r,t.drop a=c::r:=by
 unfold ck at h;split at h
 .rename_i hl;refine⟨t.drop (a+1),?_⟩;rw[List.drop_eq_getElem_cons hl];rw[List.getD_eq_getElem?_getD,List.getElem?_eq_getElem hl] at h;have:t[a]=c:=UInt8.toNat_inj.1 (by simpa using Int.ofNat_inj.1 h);rw[this]
 .exfalso;have:c.toNat=0:=by omega
  exact hc (UInt8.toNat_inj.1 this)
def a1v(t:List UInt8)(a:Nat)(c:UInt8)(hc:c≠0)(bad:Bool)(h:fH t a (c.toNat:Int) bad=false):bad=false/\dC t a (c.toNat:Int)=a+1/\∃ r,t.drop a=c::r:=by
 unfold fH at h;unfold dC;split at h
 .rename_i e;rw[b4n e];exact⟨h,rfl,wv t a c hc e⟩
 .cases h
def uX{t:List UInt8}{a:Nat}{c:UInt8}{r:List UInt8}(h:t.drop a=c::r)(bad:Bool):dC t a (c.toNat:Int)=a+1/\fH t a (c.toNat:Int) bad=bad:=by
 unfold dC fH;rw[if_pos (fV h),if_pos (fV h)];exact⟨rfl,rfl⟩
def ZD(c:UInt8):∀ l:List UInt8,l=List.replicate (cJ c l) c++l.drop (cJ c l)
 | []=>rfl
 | b::l=>by
  unfold cJ;split
  .rename_i e;subst e;rw[b5C,b6q,b4U,<-ZD b l]
  .rfl
structure ON(t:List UInt8)(a dp:Nat)(r:RS):Prop where
 ex:r.bad=false->r.dp=dp/\∃ W,t.drop a=W++t.drop r.a/\(ea r.e=true->W=bY r.e)
def TW:∀ (m:Nat) (e:J),ea (cq 8 m e)=true->ea e=true/\bY (cq 8 m e)=bY e++List.replicate m 42
 | 0,e,h=>⟨h,by simp[cq]⟩
 | m+1,e,h=>by
  rw[dQ] at h ⊢;have hk:=As _ h 0 (by simp);have hx:=(eE _ h).2.2.2.2.2.2.2 rfl;obtain⟨h1,h2⟩:=TW m e hk.1;refine⟨h1,?_⟩;rw[hx];show bY (cq 8 m e)++[42]=_;rw[h2,b6j,b4H]
def a6t(t:List UInt8)(a dp:Nat)(r:RS)(h:ON t a (dp+1) r):ON t a dp (DR t r):=by
 refine⟨λ hb=>?_⟩;unfold DR at hb ⊢;cases e:r.bad
 .rw[e] at hb;simp only[b3L,b6B] at hb ⊢;obtain⟨h0,W,h1,h2⟩:=h.ex e;refine⟨by omega,W++List.replicate (cJ 42 (t.drop r.a)) 42,?_,λ hg=>?_⟩
  .rw[h1,b4H];congr 1;rw[<-b5p];exact ZD 42 _
  .obtain⟨g1,g2⟩:=TW _ _ hg;rw[g2,h2 g1]
 .rw[e] at hb;simp at hb
def sR(inner:Nat->Nat->RS)(t:List UInt8)(a dp:Nat)(bad:Bool)(h:dp+1<=100->ON t a (dp+1) (inner a (dp+1))):ON t a dp (dV inner t a dp bad):=by
 unfold dV;split
 .exact⟨λ hb=>by cases hb⟩
 .rename_i hn;exact a6t t a dp _ (h (by omega))
def a5O(inner:Nat->Nat->RS)(t:List UInt8)(a dp:Nat)(bad:Bool)(h:(dV inner t a dp bad).bad=false):bad=false:=by
 unfold dV at h;split at h
 .cases h
 .rename_i hn;cases bad<;>simp_all
def Yg(inner:Nat->Nat->RS)(t:List UInt8)(a0 dp:Nat)(x:RS)(k:Int)(sep:List UInt8)(hk:(k=6/\sep=[32,43,32])\/(k=7/\sep=[32]))(a:Nat)(bad:Bool)(hx:ON t (a0+1) dp x)
  (h0:∃ r,t.drop a0=40::r) (b2A:bad=false->x.bad=false/\t.drop x.a=sep++t.drop a) (hi:dp+1<=100->ON t a (dp+1) (inner a (dp+1))):ON t a0 dp (DO inner t x k a bad):=by
 refine⟨λ hb=>?_⟩;unfold DO at hb ⊢;simp only at hb ⊢;obtain⟨h1,h2,r,h3⟩:=a1v t _ 41 (by decide) _ hb;have Nx:=a5O inner t a x.dp bad h1;obtain⟨hx1,hx2⟩:=b2A Nx;obtain⟨wx0,Wx,wx1,wx2⟩:=hx.ex hx1;rw[wx0] at h1 h2 h3 ⊢;obtain⟨wy0,Wy,wy1,wy2⟩:=(sR inner t a dp bad hi).ex h1;obtain⟨r0,Xa⟩:=h0;have UC:t.drop (a0+1)=r0:=cu (w:=[40]) Xa;have h4:t.drop ((dV inner t a dp bad).a+1)=r:=cu (w:=[41]) h3;have e41:dC t (dV inner t a dp bad).a 41=(dV inner t a dp bad).a+1:=h2;refine⟨wy0,[40]++(Wx++(sep++(Wy++[41]))),?_,λ hg=>?_⟩
 .rw[e41,Xa,h4,<-UC,wx1,hx2,wy1,h3];simp
 .have k0:=As _ hg 0 (by simp);have k1:=As _ hg 1 (by simp);rw[wx2 k0.1,wy2 k1.1];rcases hk with ⟨rfl,rfl⟩|⟨rfl,rfl⟩
  .exact ((eE _ hg).2.2.2.2.2.1 rfl).symm
  .exact ((eE _ hg).2.2.2.2.2.2.1 rfl).symm
def a1X(s:List UInt8)(h:mW 9 s=true)(h9:gF s<=9):BM (gF s)=s:=by
 have h1:=a6c s h h9;rw[Fb] at h1;simp only[b3J,b3E] at h1;match s,h1 with
 | [b],h1 =>
  have hd:fD b=true:=by have:=h1.2;simpa [bg] using this
  simp only[fD,b3J,b3E] at hd;have hv:gF [b]=(b.toNat:Int) - 48:=by simp[gF]
  rw[hv] at h9 ⊢;unfold BM;rw[Lib.decDigits_one (by omega)];congr 1;apply UInt8.toNat_inj.1;rw[UInt8.toNat_ofNat'];omega
 | [],h1=>simp at h1
 | _::_::_,h1=>simp at h1;omega
def a6a(t:List UInt8)(a dp:Nat)(h:ck t a=116\/ck t a=97):ON t a dp (lM t a dp):=by
 refine⟨λ hb=>⟨rfl,?_⟩⟩;unfold lM at hb ⊢;simp only[Bool.not_eq_false'] at hb ⊢;have Cr:∀ c:UInt8,(∃ r,t.drop a=c::r)->t.drop a=(c::X0 t a)++t.drop (a+1+oF (t.drop (a+1))):=by
  rintro c ⟨r,hr⟩;have h1:t.drop (a+1)=r:=cu (w:=[c]) hr;have e:t.drop (a+1+oF (t.drop (a+1)))=(t.drop (a+1)).drop (oF (t.drop (a+1))):=by rw[b5p]
  rw[e,hr,h1,List.cons_append];unfold X0;rw[h1,List.take_append_drop]
 have hv:jY 9 (X0 t a)=gF (X0 t a):=by unfold jY;rw[hb];rfl
 rcases h with h|h
 .refine⟨_,Cr 116 (wv t a 116 (by decide) h),λ hg=>?_⟩;have e:(if ck t a=97 then (4:Int) else 3)=3:=b3R (by rw[h];decide);rw[e,hv] at hg ⊢;have hn:=(gw _ hg).1 (.inl rfl);rw[(eE _ hg).2.2.1 rfl];show _=116::BM (gF (X0 t a));rw[a1X _ hb hn.2]
 .refine⟨_,Cr 97 (wv t a 97 (by decide) h),λ hg=>?_⟩;have e:(if ck t a=97 then (4:Int) else 3)=4:=b4n h;rw[e,hv] at hg ⊢;have hn:=(gw _ hg).1 (.inr rfl);rw[(eE _ hg).2.2.2.1 rfl];show _=97::BM (gF (X0 t a));rw[a1X _ hb hn.2]
def a0k(inner:Nat->Nat->RS)(t:List UInt8)(a0 dp:Nat)(x:RS)(hx:ON t (a0+1) dp x)(h0:∃ r,t.drop a0=40::r)(hi:∀ a,dp+1<=100->ON t a (dp+1) (inner a (dp+1))):ON t a0 dp (yo inner t x):=by
 unfold yo;split
 .rename_i hp;refine Yg inner t a0 dp x 6 [32,43,32] (.inl ⟨rfl,rfl⟩) _ _ hx h0 (λ hb=>?_) (hi _);obtain⟨b1,b2,r1,b3⟩:=a1v t _ 32 (by decide) _ hb;obtain⟨c1,c2,r2,c3⟩:=a1v t _ 32 (by decide) _ b1;have c2':dC t x.a 32=x.a+1:=c2;rw[c2'] at hp b2 b3 ⊢;have b2':dC t (x.a+1+1) 32=x.a+1+1+1:=b2;obtain⟨r3,d3⟩:=wv t (x.a+1) 43 (by decide) hp;have e1:t.drop (x.a+1)=r2:=cu (w:=[32]) c3;have e2:t.drop (x.a+1+1)=r3:=cu (w:=[43]) d3;have e3:t.drop (x.a+1+1+1)=r1:=cu (w:=[32]) b3;refine⟨c1,?_⟩;rw[b2',e3,c3,<-e1,d3,<-e2,b3];rfl
 .refine Yg inner t a0 dp x 7 [32] (.inr ⟨rfl,rfl⟩) _ _ hx h0 (λ hb=>?_) (hi _);obtain⟨c1,c2,r2,c3⟩:=a1v t _ 32 (by decide) _ hb;have c2':dC t x.a 32=x.a+1:=c2;have e1:t.drop (x.a+1)=r2:=cu (w:=[32]) c3;exact⟨c1,by rw[c2',e1,c3];rfl⟩
def a2w(t:List UInt8)(a dp:Nat)(k:Int)(c:UInt8)(hc:c≠0)(h:ck t a=(c.toNat:Int))(he:ea (J.mk k 0 [])=true->bY (J.mk k 0 [])=[c]):ON t a dp ⟨J.mk k 0 [],a+1,dp,false⟩:=by
 obtain⟨r,hr⟩:=wv t a c hc h;have h1:t.drop (a+1)=r:=cu (w:=[c]) hr;exact⟨λ _=>⟨rfl,[c],by rw[h1,hr];rfl,λ hg=>(he hg).symm⟩⟩
def Gb(t:List UInt8):∀ (g a dp:Nat),g+dp=100->ON t a dp (cC t g a dp)
 | g,a,dp,hgd=>by
  have step:∀ g',g=g'+1->∀ a',ON t a' (dp+1) (cC t g' a' (dp+1)):=λ g' e a'=>Gb t g' a' (dp+1) (by omega);unfold cC;split
  .rename_i h;exact a2w t a dp 1 48 (by decide) h (λ hg=>(eE _ hg).1 rfl)
  .split
   .rename_i h;exact a2w t a dp 2 49 (by decide) h (λ hg=>(eE _ hg).2.1 rfl)
   .split
    .rename_i h;exact a6a t a dp h
    .split
     .rename_i h;obtain⟨r,hr⟩:=wv t a 126 (by decide) h;have h1:t.drop (a+1)=r:=cu (w:=[126]) hr;cases g with
      | zero=>exact⟨λ hb=>by cases hb⟩
      | succ g =>
       refine⟨λ hb=>?_⟩;obtain⟨e1,W,e2,e3⟩:=(step g rfl (a+1)).ex hb;refine⟨by show _ - 1=dp;omega,126::W,?_,λ hg=>?_⟩
       .show t.drop a=126::W++t.drop (cC t g (a+1) (dp+1)).a;rw[hr,<-h1,e2];rfl
       .have hk:=As _ hg 0 (by simp);rw[(eE _ hg).2.2.2.2.1 rfl];show _=126::bY (cC t g (a+1) (dp+1)).e;rw[e3 hk.1]
     .split
      .rename_i h;have h0:=wv t a 40 (by decide) h;cases g with
       | zero =>
        refine a0k _ t a dp _ (sR _ t (a+1) dp false (λ h=>by omega)) h0 (λ a' h=>by omega)
       | succ g=>exact a0k _ t a dp _ (sR _ t (a+1) dp false (λ _=>step g rfl _)) h0 (λ a' _=>step g rfl a')
      .exact⟨λ hb=>by cases hb⟩
 termination_by g=>g
def okR(r:List UInt8):Prop:=∀ b l,r=b::l->b≠42/\fD b=false
def noD(r:List UInt8):Prop:=∀ b l,r=b::l->fD b=false
def a5H(b:UInt8)(r:List UInt8)(hb:fD b=true)(hr:noD r):oF (b::r)=1:=by
 unfold oF;rw[if_pos hb];cases r with
 | nil=>rfl
 | cons c l=>unfold oF;rw[if_neg (by rw[hr c l rfl];decide)]
def a2z(t:List UInt8)(a dp:Nat)(c:J)(h:ea c=true)(e:c.aq=3\/c.aq=4)(r:List UInt8)(hr:noD r)(ht:t.drop a=bY c++r):lM t a dp=⟨c,a+(bY c).length,dp,false⟩:=by
 have hn:=(gw c h).1 e;have hx:=eE c h;have hg:BM c.aM=[UInt8.ofNat (48+c.aM.toNat)]:=by unfold BM;rw[Lib.decDigits_one (by omega)]
 have hb:(UInt8.ofNat (48+c.aM.toNat)).toNat=48+c.aM.toNat:=by rw[b6R];omega
 have hd:fD (UInt8.ofNat (48+c.aM.toNat))=true:=by unfold fD;rw[hb,decide_eq_true (by omega),decide_eq_true (by omega)];rfl
 have key:∀ (w:UInt8),bY c=w::BM c.aM->t.drop (a+1)=UInt8.ofNat (48+c.aM.toNat)::r/\ck t a=(w.toNat:Int)/\(bY c).length=2:=by
  intro w e';rw[e',hg] at ht;exact⟨cu (w:=[w]) ht,fV ht,by rw[e',hg];rfl⟩
 have fin:∀ (w:UInt8),bY c=w::BM c.aM->(if ck t a=97 then (4:Int) else 3)=c.aq->lM t a dp=⟨c,a+(bY c).length,dp,false⟩:=by
  intro w e' ek;obtain⟨k1,k2,k3⟩:=key w e';have hcn:oF (t.drop (a+1))=1:=by rw[k1];exact a5H _ _ hd hr
  have hnm:X0 t a=[UInt8.ofNat (48+c.aM.toNat)]:=by unfold X0;rw[hcn,k1];rfl
  have hv:gF [UInt8.ofNat (48+c.aM.toNat)]=c.aM:=by simp only[gF,b6H,b7p,hb];omega
  have hN:mW 9 [UInt8.ofNat (48+c.aM.toNat)]=true:=by rw[Fb];simp only[b3P,b4b,bg,hd];rfl
  unfold lM;rw[hcn,hnm,ek,hN,k3];have hnv:jY 9 [UInt8.ofNat (48+c.aM.toNat)]=c.aM:=by unfold jY;rw[hN,hv];rfl
  rw[hnv];have hc:=gK c c.aq c.aM [] rfl rfl (pB c h (by omega));rw[<-hc];rfl
 rcases e with e|e
 .exact fin 116 (hx.2.2.1 e) (by rw[(key 116 (hx.2.2.1 e)).2.1,e];decide)
 .exact fin 97 (hx.2.2.2.1 e) (by rw[(key 97 (hx.2.2.2.1 e)).2.1,e];decide)
def ZK(inner:Nat->Nat->RS)(t:List UInt8)(a dp:Nat)(r:List UInt8)(x c:J)(m n:Nat)(hx:x=cq 8 m (cq 5 n c))
  (htx:bY x=List.replicate n 126++(bY c++List.replicate m 42)) (hdp:dp+1<=100) (hr:okR r) (hd:t.drop a=bY x++r)
  (eY:∀ r',noD r'->t.drop a=List.replicate n 126++bY c++r'->inner a (dp+1)=⟨cq 5 n c,a+(n+(bY c).length),dp+1,false⟩):dV inner t a dp false=⟨x,a+(bY x).length,dp,false⟩:=by
 have hd1:t.drop a=(List.replicate n 126++bY c)++(List.replicate m 42++r):=by rw[hd,htx];simp
 have ie:noD (List.replicate m 42++r):=by
  intro b l e;cases m with
  | zero=>exact (hr b l e).2
  | succ m =>
   rw[b5C,b4U] at e;simp only[b3O] at e;rw[<-e.1];decide
 have h1:=eY _ ie hd1;have hd2:=cu hd1;have hl:(List.replicate n 126++bY c).length=n+(bY c).length:=by simp
 rw[hl] at hd2;have hm:cJ 42 (t.drop (a+(n+(bY c).length)))=m:=by rw[hd2];exact Pt 42 r (λ b l e=>(hr b l e).1) m
 unfold dV;rw[if_neg (by simp;omega),h1];unfold DR;simp only[Bool.false_eq_true,if_false];rw[hm,<-hx];have:(bY x).length=n+((bY c).length+m):=by rw[htx];simp
 simp only[RS.mk.injEq,b4E,b3T];omega
def NK:∀ (N:Nat) (n:Nat) (c:J),cf c+n<N->ea c=true->RP c.aq->∀ (t:List UInt8) (g a dp:Nat) (r:List UInt8),g+dp=100->dp+n+2 * bO c<=101->noD r ->
  t.drop a=List.replicate n 126++bY c++r->cC t g a dp=⟨cq 5 n c,a+(n+(bY c).length),dp,false⟩
 | 0,n,c,h,_,_=>by omega
 | N+1,n+1,c,hN,h,hk=>by
  intro t g a dp r hg hd hr ht;have hdp:=gR c;obtain⟨g,rfl⟩:∃ g',g=g'+1:=⟨g - 1,by omega⟩;have UD:t.drop a=126::(List.replicate n 126++bY c++r):=by rw[ht,b5C];rfl
  have h1:t.drop (a+1)=List.replicate n 126++bY c++r:=cu (w:=[126]) UD;have ih:=NK N n c (by omega) h hk t g (a+1) (dp+1) r (by omega) (by omega) hr h1;have hp:=fV UD;rw[cC.eq_def];dsimp only;rw[if_neg (by rw[hp];decide),if_neg (by rw[hp];decide),if_neg (by rw[hp];decide),if_pos (by rw[hp];decide)];simp only[ih,dQ];simp only[RS.mk.injEq,true_and,and_true];omega
 | N+1,0,c,hN,h,hk=>by
  intro t g a dp r hg hd hr ht;have ht:t.drop a=bY c++r:=by rw[ht];rfl
  have hf:=gw c h;have hx:=eE c h;have hdp:=gR c;show cC t g a dp=⟨c,a+(0+(bY c).length),dp,false⟩;rw[b5n];have Li:∀ i,i<c.M.length->Cj c i->∀ g',g=g'+1->∀ (a:Nat) (r:List UInt8),okR r->t.drop a=bY (c.M.getD i zE)++r ->
    dV (cC t g') t a dp false=⟨c.M.getD i zE,a+(bY (c.M.getD i zE)).length,dp,false⟩:=by
   intro i hi hgk g' eg a r hr hda;obtain⟨m,n,c',e1,e2,e3,e4,e5,e6⟩:=Yj _ _ (b4v _) hgk.1;have hdk:=uc bO zE c.M i hi;have hdc:=gR c';have hms:cf c'+n<=cf (c.M.getD i zE):=by
    have w:∀ (k:Int) (n:Nat) (e:J),cf (cq k n e)>=cf e+n:=by
     intro k n;induction n with
     | zero=>intro e;exact b4r _
     | succ n ih =>
      intro e;have h1:=ih (J.mk k 0 [e]);have h2:cf [e]<cf (J.mk k 0 [e]):=dn (J.mk k 0 [e]);have h3:cf e<cf [e]:=cb e [e] 0 (by simp);show cf (cq k n (J.mk k 0 [e]))>=_;omega
    have h1:=w 8 m (cq 5 n c');have h2:=w 5 n c';rw[<-e1] at h1;omega
   exact ZK (cC t g') t a dp r _ c' m n e1 e6 (by omega) hr hda (λ r' NI HK=>NK N n c' (by have:=hgk.2;omega) e2 e3 t g' a (dp+1) r' (by omega) (by omega) NI HK)
  rcases hk with e|e|e|e|e|e
  .rw[hx.1 e] at ht ⊢;have hp:=fV (show t.drop a=48::r from ht);have hc:=gK c 1 0 [] e (ll c h (by omega) (by omega)) (pB c h (by omega));rw[cC.eq_def];dsimp only;rw[if_pos (by rw[hp];decide),<-hc];rfl
  .rw[hx.2.1 e] at ht ⊢;have hp:=fV (show t.drop a=49::r from ht);have hc:=gK c 2 0 [] e (ll c h (by omega) (by omega)) (pB c h (by omega));rw[cC.eq_def];dsimp only;rw[if_neg (by rw[hp];decide),if_pos (by rw[hp];decide),<-hc];rfl
  .have hp:=fV (show t.drop a=116::(BM c.aM++r) by rw[ht,hx.2.2.1 e];rfl);rw[cC.eq_def];dsimp only;rw[if_neg (by rw[hp];decide),if_neg (by rw[hp];decide),if_pos (by rw[hp];decide)];exact a2z t a dp c h (.inl e) r hr ht
  .have hp:=fV (show t.drop a=97::(BM c.aM++r) by rw[ht,hx.2.2.2.1 e];rfl);rw[cC.eq_def];dsimp only;rw[if_neg (by rw[hp];decide),if_neg (by rw[hp];decide),if_pos (by rw[hp];decide)];exact a2z t a dp c h (.inr e) r hr ht
  .obtain⟨hl,k0,k1⟩:=hf.2.2.1 (.inl e);have hc:=gK c 6 0 _ e (ll c h (by omega) (by omega)) (Kx c hl);have hd0:=uc bO zE c.M 0 (by omega);have hd1:=gR (c.M.getD 0 zE);obtain⟨g,rfl⟩:∃ g',g=g'+1:=⟨g - 1,by omega⟩;rw[hx.2.2.2.2.2.1 e] at ht ⊢;have p0:t.drop a=40::(bY (c.M.getD 0 zE)++([32,43,32]++(bY (c.M.getD 1 zE)++([41]++r)))):=by rw[ht];simp
   have p1:t.drop (a+1)=bY (c.M.getD 0 zE)++([32,43,32]++(bY (c.M.getD 1 zE)++([41]++r))):=cu (w:=[40]) p0;have q1:=Li 0 (by omega) k0 g rfl (a+1) _ (λ b l g=>by simp at g;rw[<-g.1];decide) p1;have p2:=cu p1;have p2a:t.drop (a+1+(bY (c.M.getD 0 zE)).length+1)=43::(32::(bY (c.M.getD 1 zE)++([41]++r))):=cu (w:=[32]) p2;have p2b:t.drop (a+1+(bY (c.M.getD 0 zE)).length+1+1)=32::(bY (c.M.getD 1 zE)++([41]++r)):=cu (w:=[43]) p2a;have p3:t.drop (a+1+(bY (c.M.getD 0 zE)).length+1+1+1)=bY (c.M.getD 1 zE)++([41]++r):=cu (w:=[32]) p2b;have q2:=Li 1 (by omega) k1 g rfl _ _ (λ b l g=>by simp at g;rw[<-g.1];decide) p3;have p4:=cu p3;have hp:=fV p0;rw[cC.eq_def];dsimp only;rw[if_neg (by rw[hp];decide),if_neg (by rw[hp];decide),if_neg (by rw[hp];decide),if_neg (by rw[hp];decide),if_pos (by rw[hp];decide)];simp only[q1];unfold yo;have y1:dC t (a+1+(bY (c.M.getD 0 zE)).length) 32=_:=(uX (c:=32) p2 false).1;have y2:fH t (a+1+(bY (c.M.getD 0 zE)).length) 32 false=false:=(uX (c:=32) p2 false).2;have y3:dC t (a+1+(bY (c.M.getD 0 zE)).length+1+1) 32=_:=(uX (c:=32) p2b false).1;have y4:fH t (a+1+(bY (c.M.getD 0 zE)).length+1+1) 32 false=false:=(uX (c:=32) p2b false).2;simp only[y1,y2,y3,y4];rw[if_pos (by rw[fV p2a];decide)];unfold DO;simp only[q2];have y5:dC t _ 41=_:=(uX (c:=41) p4 false).1;have y6:fH t _ 41 false=false:=(uX (c:=41) p4 false).2;rw[y5,y6,<-hc];simp only[RS.mk.injEq,true_and,and_true,List.length_append,List.length_cons,List.length_nil];omega
  .obtain⟨hl,k0,k1⟩:=hf.2.2.1 (.inr e);have hc:=gK c 7 0 _ e (ll c h (by omega) (by omega)) (Kx c hl);have hd0:=uc bO zE c.M 0 (by omega);have hd1:=gR (c.M.getD 0 zE);obtain⟨g,rfl⟩:∃ g',g=g'+1:=⟨g - 1,by omega⟩;rw[hx.2.2.2.2.2.2.1 e] at ht ⊢;have p0:t.drop a=40::(bY (c.M.getD 0 zE)++([32]++(bY (c.M.getD 1 zE)++([41]++r)))):=by rw[ht];simp
   have p1:t.drop (a+1)=bY (c.M.getD 0 zE)++([32]++(bY (c.M.getD 1 zE)++([41]++r))):=cu (w:=[40]) p0;have q1:=Li 0 (by omega) k0 g rfl (a+1) _ (λ b l g=>by simp at g;rw[<-g.1];decide) p1;have p2:=cu p1;have p3:t.drop (a+1+(bY (c.M.getD 0 zE)).length+1)=bY (c.M.getD 1 zE)++([41]++r):=cu (w:=[32]) p2;have q2:=Li 1 (by omega) k1 g rfl _ _ (λ b l g=>by simp at g;rw[<-g.1];decide) p3;have p4:=cu p3;obtain⟨b1,l1,f1,f2⟩:=WH _ k1.1;have hp:=fV p0;rw[cC.eq_def];dsimp only;rw[if_neg (by rw[hp];decide),if_neg (by rw[hp];decide),if_neg (by rw[hp];decide),if_neg (by rw[hp];decide),if_pos (by rw[hp];decide)];simp only[q1];unfold yo;have y1:dC t (a+1+(bY (c.M.getD 0 zE)).length) 32=_:=(uX (c:=32) p2 false).1;have y2:fH t (a+1+(bY (c.M.getD 0 zE)).length) 32 false=false:=(uX (c:=32) p2 false).2;simp only[y1,y2];have b2t:¬ ck t (a+1+(bY (c.M.getD 0 zE)).length+1)=43:=by
    have p3':=p3;rw[f1] at p3';rw[fV p3'];intro hh;exact f2 (UInt8.toNat_inj.1 (by simpa using Int.ofNat_inj.1 hh))
   rw[if_neg b2t];unfold DO;simp only[q2];have y5:dC t _ 41=_:=(uX (c:=41) p4 false).1;have y6:fH t _ 41 false=false:=(uX (c:=41) p4 false).2;rw[y5,y6,<-hc];simp only[RS.mk.injEq,true_and,and_true,List.length_append,List.length_cons,List.length_nil];omega
def a5N(x:J)(h:ea x=true)(h40:bO x<=40):dV (cC (bY x) 99) (bY x) 0 0 false=⟨x,(bY x).length,0,false⟩:=by
 obtain⟨m,n,c,e1,e2,e3,e4,e5,e6⟩:=Yj _ _ (Nat.lt_succ_self _) h;have:=ZK (cC (bY x) 99) (bY x) 0 0 [] x c m n e1 e6 (by omega) (λ b l g=>by cases g) (by simp) (λ r' NI HK=>NK _ n c (Nat.lt_succ_self _) e2 e3 (bY x) 99 0 (0+1) r' (by omega) (by omega) NI HK);simpa using this
def Gc(gg:aT)(x:J)(hg:bK gg=true)(h:bW gg x=true):ea x=true/\bO x<=40/\(bY x).length<=1000:=by
 rw[rk] at h;rw[Yu] at hg;rw[GG _ (by omega),GG _ (by omega)] at h;have ht:=J4 _ _ 9 9 (by omega) (by omega) x h.1;have:=BB (cf x+1) x (b4v _) ht;exact⟨ht,h.2.2,by have:=h.2.1;omega⟩
def YD(t:List UInt8):RI:=jr (dz t 41) t 0
def Bz(t:List UInt8):RS:=dV (cC t 99) t 0 0 false
def eR(gg:aT)(t:List UInt8):Bool:=(YD t).ok&&decide ((YD t).a=t.length)&&bW gg (YD t).e&&decide (bY (YD t).e=t)
def oQ(gg:aT)(t:List UInt8):J:=bif eR gg t then (YD t).e else zX
def a8f(gg:aT)(t:List UInt8)(hg:bK gg=true):(!(Bz t).bad&&decide ((Bz t).a=t.length)&&bW gg (Bz t).e)=eR gg t/\(eR gg t=true->(Bz t).e=oQ gg t):=by
 have up:eR gg t=true->Bz t=⟨(YD t).e,t.length,0,false⟩:=by
  intro h;simp only[eR,b3J,b3E] at h;obtain⟨h1,h2,_⟩:=Gc gg _ hg h.1.2;have:=a5N _ h1 h2;rw[h.2] at this;exact this
 have down:(!(Bz t).bad&&decide ((Bz t).a=t.length)&&bW gg (Bz t).e)=true->eR gg t=true:=by
  intro h;simp only[Bool.and_eq_true,decide_eq_true_eq,Bool.not_eq_true'] at h;obtain⟨⟨h1,h2⟩,h3⟩:=h;obtain⟨g1,g2,_⟩:=Gc gg _ hg h3;obtain⟨_,W,w1,w2⟩:=(sR (cC t 99) t 0 0 false (λ _=>Gb t 99 0 1 rfl)).ex h1;have w1':t=W++t.drop (Bz t).a:=w1;rw[h2,List.drop_length,List.append_nil] at w1';have w3:t=bY (Bz t).e:=w1'.trans (w2 g1);have hi:=a5M _ g1 g2;rw[<-w3] at hi;have oe:YD t=⟨(Bz t).e,true,t.length⟩:=hi;unfold eR;rw[oe];simp only[h3,<-w3,decide_true,Bool.and_self]
 refine⟨?_,λ h=>?_⟩
 .cases hb:eR gg t
  .cases hc:(!(Bz t).bad&&decide ((Bz t).a=t.length)&&bW gg (Bz t).e)
   .rfl
   .rw[down hc] at hb;cases hb
  .have hu:=up hb;have h3:=hb;simp only[eR,b3J] at h3;rw[hu];simp only[h3.1.2,b4t,b6W,b3I]
 .rw[up h];unfold oQ;rw[h];rfl
end
end Go.Proofs.YtmjfpcajohhbeaaGreatDoor

set_option maxRecDepth 4000
set_option maxHeartbeats 4000000
namespace Go.Proofs.YtmjfpcajohhbeaaGreatDoor
noncomputable section
def b1p(t:List UInt8)(a:Nat)(s:List UInt8):(decide (s.length<=(t.drop a).length)&&decide ((t.drop a).take s.length=s))=cK t a s:=rfl
def YC(t:List UInt8)(a:Nat)(s:List UInt8)(h:cK t a s=true):s.length+a<=t.length\/s=[]:=by
 obtain⟨r,hr⟩:=(Rl t a s).1 h;have:=congrArg List.length hr;simp only[b4V,b3U] at this;cases s with
 | nil=>exact .inr rfl
 | cons b l=>left;simp only[b3P] at this ⊢;omega
def qe(t:List UInt8)(a:Int)(p:List UInt8):Int:=bif cK t a.toNat p then a+(p.length:Int) else a
def HC(t:List UInt8)(a:Int):Int:=bif iz t a.toNat then a+1 else a
def MZ(t:List UInt8)(a:Int):Int:=bif iz t a.toNat then ((t.getD a.toNat 0).toNat:Int) - 48 else 0
def b0n:IntKind.u8.min=0:=rfl
def b0m:IntKind.u8.max=255:=rfl
def b0F(b:UInt8):0<=(b.toNat:Int)/\(b.toNat:Int)<=255:=by have:=b.toNat_lt;omega
def iI:fL:=⟨ov,[[.d .str, .d (.int .i64)]],[.b 0, .v .str],[[.str,(.int .i64)]],λ (p:List UInt8) (t:List UInt8) (a:Int)=>⟨(some (0<=a/\a<=(t.length:Int)/\t.length<=10000/\p.length<=10/\1<=p.length),[⟨.bool,cK t a.toNat p⟩],[[⟨.str,t⟩,⟨(.int .i64),qe t a p⟩]])⟩⟩
def Ju(p:List UInt8)(t:List UInt8)(a:Int):Nat->aE:=λ _ => .none
def Ie(hE:aC [mK])(hO:cO [])(hM:cT [])(hS:cR []):fL.Good iI:=by
 refine⟨au vF rfl (by decide),?_⟩;show ∀ (p:List UInt8) (t:List UInt8) (a:Int),(0<=a/\a<=(t.length:Int)/\t.length<=10000/\p.length<=10/\1<=p.length)->qI prog ov [[.d .str, .d (.int .i64)]] [.box 0, .val ⟨.str,p⟩] [[⟨.str,t⟩,⟨(.int .i64),a⟩]] [⟨.bool,cK t a.toNat p⟩] [[⟨.str,t⟩,⟨(.int .i64),qe t a p⟩]];intro p t a hp;refine ig (own:=[]) (wr:=[]) (cl:=[]) (ro:=[]) hE hO hM hS vF FF (Ju p t a) rfl rfl (let v1:=(t.take (Int.toNat ((t.length:Int)))).drop (Int.toNat a);let v0 := !(decide (p.length<=v1.length)&&decide (v1.take p.length=p));let v2:=(p.length:Int);((cw a ((t.length:Int)) t.length/\(t.length<=140737488355328->(O a->((v0=true->(false=(cK t a.toNat p)/\((t=t/\a=(qe t a p))/\True)))/\(v0=false->(O a->(O v2->(O (a+v2)/\(true=(cK t a.toNat p)/\((t=t/\(a+v2)=(qe t a p))/\True)))))))))))) (by kernel_rfl) ?_;obtain⟨h1,h2,h3,h4,h5⟩:=hp;have f0:qe t a p=bif cK t a.toNat p then a+(p.length:Int) else a:=rfl
 refine⟨?_,λ _ _=>⟨λ _=>⟨?_,⟨rfl,?_⟩,U⟩,λ _ _ _=>⟨?_,?_,⟨rfl,?_⟩,U⟩⟩⟩;all_goals try and_intros
 all_goals first|rfl|trivial|omega|((try simp only[b3K,b3I,b3S,b4f,b3E,b3D] at *)<;>(try simp only[b3W,b6i,b1p,ak,cw,O] at *)<;>first|with_reducible rfl|omega|(have h1:=YC _ _ _ (by with_reducible assumption);have h2:p.length<=10:=by omega;omega)|(rw[by with_reducible assumption];done)|(rw[show cK t a.toNat p=_ from by with_reducible assumption];rfl)|simp_all)
def qE:fL.Good iI:=Ie ⟨EJ,U⟩ trivial trivial trivial
def lF:fL:=⟨mQ,[[.d .str, .d (.int .i64)]],[.b 0],[[.str,(.int .i64)]],λ (t:List UInt8) (a:Int)=>⟨(some (0<=a/\a<=(t.length:Int)/\t.length<=10000),[⟨(.int .i64),MZ t a⟩,⟨.bool,iz t a.toNat⟩],[[⟨.str,t⟩,⟨(.int .i64),HC t a⟩]])⟩⟩
def HV(t:List UInt8)(a:Int):Nat->aE:=λ _ => .none
abbrev qu(t:List UInt8)(a:Int):Prop:=(let v1:=a+(1:Int);let v0:=(((t.getD (Int.toNat (v1 - (1:Int))) 0).toNat:Int)) - (48:Int);(O a ->
 (O v1/\(O (v1 - (1:Int))/\(t.length<=140737488355328 ->
 (O v1 ->
 (ak (v1 - (1:Int)) t.length/\(bQ .u8 v0/\(O v0/\((v0=(MZ t a)/\true=(iz t a.toNat))/\((t=t/\v1=(HC t a))/\True)))))))))))
abbrev qv(t:List UInt8)(a:Int):Prop:=(let v0:=decide ((((t.getD (Int.toNat a) 0).toNat:Int))<=(57:Int));(t.length<=140737488355328 ->
 (O a ->
 (ak a t.length/\((v0=true ->
 (qu t a))/\(v0=false ->
 (((0:Int)=(MZ t a)/\false=(iz t a.toNat))/\((t=t/\a=(HC t a))/\True))))))))
abbrev qw(t:List UInt8)(a:Int):Prop:=((false=true ->
 (qu t a))/\(false=false ->
 (((0:Int)=(MZ t a)/\false=(iz t a.toNat))/\((t=t/\a=(HC t a))/\True))))
def GF(hE:aC [])(hO:cO [])(hM:cT [])(hS:cR []):fL.Good lF:=by
 refine⟨au sG rfl (by decide),?_⟩;show ∀ (t:List UInt8) (a:Int),(0<=a/\a<=(t.length:Int)/\t.length<=10000)->qI prog mQ [[.d .str, .d (.int .i64)]] [.box 0] [[⟨.str,t⟩,⟨(.int .i64),a⟩]] [⟨(.int .i64),MZ t a⟩,⟨.bool,iz t a.toNat⟩] [[⟨.str,t⟩,⟨(.int .i64),HC t a⟩]];intro t a hp;refine ig (own:=[]) (wr:=[]) (cl:=[]) (ro:=[]) hE hO hM hS sG En (HV t a) rfl rfl (let v0:=(t.length:Int);let v1:=decide ((48:Int)<=(((t.getD (Int.toNat a) 0).toNat:Int)));((((decide (a<v0))=true->(ak a t.length/\((v1=true->(O a->(t.length<=140737488355328->(O v0->(t.length<=140737488355328->(O a->(qv t a)))))))/\(v1=(!true)->(O a->(t.length<=140737488355328->(O v0->(t.length<=140737488355328->(O a->(qw t a))))))))))/\((decide (a<v0))=(!true)->((false=true->(O a->(t.length<=140737488355328->(O v0->(qv t a)))))/\(false=(!true)->(O a->(t.length<=140737488355328->(O v0->(qw t a)))))))))) (by kernel_rfl) ?_;obtain⟨h1,h2,h3⟩:=hp;have f1:=b0F (t.getD a.toNat 0);have f3:HC t a=bif iz t a.toNat then a+1 else a:=rfl
 have f4:MZ t a=bif iz t a.toNat then ((t.getD a.toNat 0).toNat:Int) - 48 else 0:=rfl
 have f2:iz t a.toNat=(decide (a.toNat<t.length)&&decide (48<=(t.getD a.toNat 0).toNat)&&decide ((t.getD a.toNat 0).toNat<=57)):=rfl;refine⟨λ _=>⟨?_,λ _ _ _ _ _ _ _ _=>⟨?_,λ _ _=>⟨?_,?_,λ _ _=>⟨?_,?_,?_,⟨?_,?_⟩,⟨rfl,?_⟩,U⟩⟩,λ _=>⟨⟨?_,?_⟩,⟨rfl,?_⟩,U⟩⟩,λ _ _ _ _ _ _=>⟨λ _ _=>⟨?_,?_,λ _ _=>⟨?_,?_,?_,⟨?_,?_⟩,⟨rfl,?_⟩,U⟩⟩,λ _=>⟨⟨?_,?_⟩,⟨rfl,?_⟩,U⟩⟩⟩,λ _=>⟨λ _ _ _ _ _ _=>⟨?_,λ _ _=>⟨?_,?_,λ _ _=>⟨?_,?_,?_,⟨?_,?_⟩,⟨rfl,?_⟩,U⟩⟩,λ _=>⟨⟨?_,?_⟩,⟨rfl,?_⟩,U⟩⟩,λ _ _ _ _=>⟨λ _ _=>⟨?_,?_,λ _ _=>⟨?_,?_,?_,⟨?_,?_⟩,⟨rfl,?_⟩,U⟩⟩,λ _=>⟨⟨?_,?_⟩,⟨rfl,?_⟩,U⟩⟩⟩⟩;all_goals try and_intros
 all_goals first|rfl|trivial|omega|(simp only[decide_eq_true_eq,decide_eq_false_iff_not,ak,O,b0n,b0m] at *;first|omega|grind [iz])|grind [iz,b0n,b0m]
def DP:fL.Good lF:=GF trivial trivial trivial trivial
def nE(t:List UInt8)(a:Int):Nat:=cJ 126 (t.drop a.toNat)
def rE(t:List UInt8)(d a:Int):RI:=dz t (d+1).toNat (a.toNat+nE t a)
def mE(t:List UInt8)(d a:Int):Nat:=cJ 42 (t.drop (rE t d a).a)
def xE(t:List UInt8)(d a:Int):RI:=jr (dz t (d+1).toNat) t a.toNat
def a4O(c:UInt8):∀ l:List UInt8,cJ c l<=l.length
 | []=>b4r _
 | b::l=>by
  have:=a4O c l;unfold cJ;split<;>simp<;>omega
def Kb(c:UInt8)(t:List UInt8)(a:Nat)(h:a<=t.length):a+cJ c (t.drop a)<=t.length:=by
 have:=a4O c (t.drop a);simp only[b4V] at this;omega
def kU(t:List UInt8)(a:Nat)(c:UInt8)(s:List UInt8)(h:cK t a (c::s)=true):a+(c::s).length<=t.length:=by
 rcases YC t a _ h with g|g
 .omega
 .cases g
def ZI(core:Nat->RI)(t:List UInt8)(hc:∀ a,a<=t.length->(core a).a<=t.length)(a:Nat)(h:a<=t.length):(jr core t a).a<=t.length:=by
 have h1:=Kb 126 t a h;have h2:=hc _ h1;have h3:=Kb 42 t _ h2;unfold jr;split
 .exact h1
 .split
  .show (core (a+cJ 126 (t.drop a))).a+42<=t.length;omega
  .exact h3
def Z6(k:Int)(t:List UInt8)(a:Nat)(h:a<=t.length):(ub k t a).a<=t.length:=by
 unfold ub;cases e:iz t a
 .exact h
 .simp only[iz,b3J,b3E] at e;show a+1<=t.length;omega
def a0h(k:Int)(t:List UInt8)(x y:RI)(h:y.a<=t.length):(ss k t x y).a<=t.length:=by
 unfold ss;cases e:x.ok&&y.ok&&cK t y.a [41]
 .exact h
 .simp only[Bool.and_eq_true] at e;have:=kU t _ 41 [] e.2;simpa using this
def RO(t:List UInt8):∀ (D a:Nat),a<=t.length->(dz t D a).a<=t.length
 | 0,a,h=>h
 | D+1,a,h=>by
  have hx:∀ a,a<=t.length->(jr (dz t D) t a).a<=t.length:=ZI (dz t D) t (RO t D);unfold dz;split
  .rename_i e;exact kU t a 48 [] e
  .split
   .rename_i e;exact kU t a 49 [] e
   .split
    .rename_i e;exact Z6 3 t _ (kU t a 116 [] e)
    .split
     .rename_i e;exact Z6 4 t _ (kU t a 97 [] e)
     .split
      .exact h
      .rename_i e;have e':cK t a [40]=true:=by simpa using e
       have h1:=hx _ (kU t a 40 [] e');split
       .rename_i e2;exact a0h 6 t _ _ (hx _ (kU t _ 32 [43,32] e2))
       .split
        .rename_i e2;exact a0h 7 t _ _ (hx _ (kU t _ 32 [] e2))
        .exact h1
def a4D(t:List UInt8)(d a:Int)(h0:0<=a)(h:a<=(t.length:Int)):((xE t d a).a:Int)<=(t.length:Int):=by
 have:=ZI (dz t (d+1).toNat) t (RO t _) a.toNat (by omega);unfold xE;omega
def a5A(t:List UInt8)(a:Int)(p:List UInt8)(h0:0<=a):0<=qe t a p:=by
 unfold qe;cases cK t a.toNat p<;>simp<;>omega
def a5B(t:List UInt8)(a:Int)(p:List UInt8)(h0:0<=a)(h:a<=(t.length:Int)):qe t a p<=(t.length:Int):=by
 unfold qe;cases e:cK t a.toNat p
 .exact h
 .rcases YC t _ p e with g|g
  .simp only[b6S];omega
  .subst g;simpa using h
def Pv(t:List UInt8)(a:Int)(h0:0<=a):0<=HC t a:=by
 unfold HC;cases iz t a.toNat<;>simp<;>omega
def VE(t:List UInt8)(a:Int)(h0:0<=a)(h:a<=(t.length:Int)):HC t a<=(t.length:Int):=by
 unfold HC;cases e:iz t a.toNat
 .exact h
 .simp only[iz,b3J,b3E] at e;simp only[b6S];omega
def a3A(t:List UInt8)(d a:Int)(h:d<0)(ha:0<=a):(dz t (d+1).toNat a.toNat).e=zX/\(dz t (d+1).toNat a.toNat).ok=false/\((dz t (d+1).toNat a.toNat).a:Int)=a:=by
 rw[show (d+1).toNat=0 by omega];exact⟨rfl,rfl,by show ((a.toNat:Nat):Int)=a;omega⟩
def Ey(t:List UInt8)(d a:Int)(h:¬ d<0)(ha:0<=a):dz t (d+1).toNat a.toNat =
  if cK t a.toNat [48]=true then ⟨J.mk 1 0 [],true,a.toNat+1⟩ else if cK t a.toNat [49]=true then ⟨J.mk 2 0 [],true,a.toNat+1⟩ else
  if cK t a.toNat [116]=true then ub 3 t (a+1).toNat else if cK t a.toNat [97]=true then ub 4 t (a+1).toNat else if cK t a.toNat [40]=false then ⟨zX,false,a.toNat⟩ else
  if cK t (xE t (d - 1) (a+1)).a [32,43,32]=true then ss 6 t (xE t (d - 1) (a+1)) (xE t (d - 1) (((xE t (d - 1) (a+1)).a:Int)+3)) else
  if cK t (xE t (d - 1) (a+1)).a [32]=true then ss 7 t (xE t (d - 1) (a+1)) (xE t (d - 1) (((xE t (d - 1) (a+1)).a:Int)+1)) else
  ⟨zX,false,(xE t (d - 1) (a+1)).a⟩:=by
 obtain⟨D,hD⟩:∃ D:Nat,d=(D:Int):=⟨d.toNat,by omega⟩;subst hD;have e1:((D:Int)+1).toNat=D+1:=by omega
 have e2:((D:Int) - 1+1).toNat=D:=by omega
 have e3:(a+1).toNat=a.toNat+1:=by omega
 have e4:∀ n:Nat,((n:Int)+3).toNat=n+3:=λ n=>by omega
 have e5:∀ n:Nat,((n:Int)+1).toNat=n+1:=λ n=>by omega
 unfold xE;rw[e1,e2,e3];simp only[e4,e5];rw[dz]
def GL(t:List UInt8)(a:Int)(p:List UInt8)(h:cK t a.toNat p=false):qe t a p=a:=by unfold qe;rw[h];rfl
def zl(t:List UInt8)(a:Int)(c:UInt8)(h:cK t a.toNat [c]=true):qe t a [c]=a+1:=by unfold qe;rw[h];rfl
def a9t(t:List UInt8)(a:Int)(c d e:UInt8)(h:cK t a.toNat [c,d,e]=true):qe t a [c,d,e]=a+3:=by unfold qe;rw[h];rfl
def a5U(k:Int)(t:List UInt8)(a:Int)(h:0<=a):ub k t a.toNat=⟨J.mk k (MZ t a) [],iz t a.toNat,(HC t a).toNat⟩:=by
 unfold ub MZ HC;cases iz t a.toNat
 .rfl
 .simp only[b6S,RI.mk.injEq,b4E];omega
def a2L(k:Int)(t:List UInt8)(x y:RI):(ss k t x y).e=J.mk k 0 [x.e,y.e]:=by unfold ss;cases x.ok&&y.ok&&cK t y.a [41]<;>rfl
def a0i(k:Int)(t:List UInt8)(x y:RI):(ss k t x y).ok=(x.ok&&y.ok&&cK t y.a [41]):=by unfold ss;cases x.ok&&y.ok&&cK t y.a [41]<;>rfl
def a2K(k:Int)(t:List UInt8)(x y:RI):((ss k t x y).a:Int)=bif x.ok&&y.ok then qe t (y.a:Int) [41] else (y.a:Int):=by
 unfold ss qe;rw[Int.toNat_natCast];cases x.ok<;>cases y.ok<;>cases cK t y.a [41]<;>rfl
def a2v(k:Int)(t:List UInt8)(a:Int)(h:0<=a):(ub k t (a+1).toNat).e=J.mk k (MZ t (a+1)) []/\(ub k t (a+1).toNat).ok=iz t (a+1).toNat/\((ub k t (a+1).toNat).a:Int)=HC t (a+1):=by
 rw[a5U k t (a+1) (by omega)];have:=Pv t (a+1) (by omega);exact⟨rfl,rfl,by show ((HC t (a+1)).toNat:Int)=_;omega⟩
def ZC(c:UInt8):∀ (l:List UInt8) (k:Nat),k<=cJ c l->(k<cJ c l↔∃ r,l.drop k=c::r)
 | [],k,h=>by simp[cJ]
 | b::l,k,h=>by
  unfold cJ at h ⊢;split at h
  .rename_i e;rw[b4n e];cases k with
   | zero=>exact⟨λ _=>⟨l,by rw[e];rfl⟩,λ _=>by omega⟩
   | succ k =>
    have:=ZC c l k (by omega);rw[b6q,<-this];omega
  .rename_i e;rw[b3R e];have hk:k=0:=by omega
   subst hk;refine⟨λ h=>by omega,λ ⟨r,hr⟩=>?_⟩;simp only[b5O,b3O] at hr;exact absurd hr.1 e
def a5C(t:List UInt8)(n k:Nat)(c:UInt8)(h:k<=cJ c (t.drop n)):cK t (n+k) [c]=decide (k<cJ c (t.drop n)):=by
 have h1:=ZC c (t.drop n) k h;rw[b5p] at h1;rw[b5A,b3E,h1,Rl];exact⟨λ ⟨r,hr⟩=>⟨r,hr⟩,λ ⟨r,hr⟩=>⟨r,hr⟩⟩
def b1r(t:List UInt8)(a:Int)(k:Nat)(ha:0<=a)(h:k<=nE t a):cK t (a+(k:Int)).toNat [126]=decide (k<nE t a):=by
 rw[show (a+(k:Int)).toNat=a.toNat+k by omega];exact a5C t a.toNat k 126 h
def b1q(t:List UInt8)(d a:Int)(k:Nat)(h:k<=mE t d a):cK t (((rE t d a).a:Int)+(k:Int)).toNat [42]=decide (k<mE t d a):=by
 rw[show (((rE t d a).a:Int)+(k:Int)).toNat=(rE t d a).a+k by omega];exact a5C t _ k 42 h
def a7Y(t:List UInt8)(a:Int)(h0:0<=a)(h:a<=(t.length:Int)):a+(nE t a:Int)<=(t.length:Int):=by
 have:=Kb 126 t a.toNat (by omega);unfold nE;omega
def b1g(t:List UInt8)(d a:Int)(h0:0<=a)(h:a<=(t.length:Int)):((rE t d a).a:Int)+(mE t d a:Int)<=(t.length:Int):=by
 have h1:=a7Y t a h0 h;have h2:=RO t (d+1).toNat (a.toNat+nE t a) (by omega);have h3:=Kb 42 t _ h2;have:(rE t d a).a+mE t d a<=t.length:=h3;omega
def a8e(t:List UInt8)(d a:Int)(ha:0<=a):dz t (d+1).toNat (a+(nE t a:Int)).toNat=rE t d a:=by
 rw[show (a+(nE t a:Int)).toNat=a.toNat+nE t a by omega];rfl
def a4C(t:List UInt8)(d a:Int):xE t d a=if 40<nE t a then ⟨zX,false,a.toNat+nE t a⟩ else if 41<mE t d a then ⟨zX,false,(rE t d a).a+42⟩ else
  ⟨cq 8 (mE t d a) (cq 5 (nE t a) (rE t d a).e),(rE t d a).ok,(rE t d a).a+mE t d a⟩:=rfl
def a8F(t:List UInt8)(d a:Int)(ha:0<=a)(h:40<nE t a):(xE t d a).e=zX/\(xE t d a).ok=false/\((xE t d a).a:Int)=a+(nE t a:Int):=by
 rw[a4C,b4n h];exact⟨rfl,rfl,by show ((a.toNat+nE t a:Nat):Int)=_;omega⟩
def a6B(t:List UInt8)(d a:Int)(h:¬ 40<nE t a)(h2:41<mE t d a):(xE t d a).e=zX/\(xE t d a).ok=false/\((xE t d a).a:Int)=((rE t d a).a:Int)+42:=by
 rw[a4C,b3R h,b4n h2];exact⟨rfl,rfl,rfl⟩
def a8E(t:List UInt8)(d a:Int)(h:¬ 40<nE t a)(h2:¬ 41<mE t d a):(xE t d a).e=cq 8 (mE t d a) (cq 5 (nE t a) (rE t d a).e)/\(xE t d a).ok=(rE t d a).ok/\((xE t d a).a:Int)=((rE t d a).a:Int)+(mE t d a:Int):=by
 rw[a4C,b3R h,b3R h2];exact⟨rfl,rfl,rfl⟩
structure is3(r:RI)(e:J)(ok:Bool)(a:Int):Prop where
 e:r.e=e
 ok:r.ok=ok
 a:(r.a:Int)=a
def yY(t:List UInt8)(d a:Int):RI:=dz t (d+1).toNat a.toNat
def a8N(t:List UInt8)(d a:Int)(h:d<0)(ha:0<=a):is3 (yY t d a) zX false a:=by
 obtain⟨h1,h2,h3⟩:=a3A t d a h ha;exact⟨h1,h2,h3⟩
def b1P(t:List UInt8)(d a:Int)(h:¬ d<0)(ha:0<=a)(h1:cK t a.toNat [48]=true):is3 (yY t d a) (J.mk 1 0 []) true (a+1):=by
 unfold yY;rw[Ey t d a h ha,if_pos h1];exact⟨rfl,rfl,by show ((a.toNat+1:Nat):Int)=_;omega⟩
def b1Q(t:List UInt8)(d a:Int)(h:¬ d<0)(ha:0<=a)(h1:cK t a.toNat [48]=false)(h2:cK t a.toNat [49]=true):is3 (yY t d a) (J.mk 2 0 []) true (a+1):=by
 unfold yY;rw[Ey t d a h ha,if_neg (by rw[h1];decide),if_pos h2];exact⟨rfl,rfl,by show ((a.toNat+1:Nat):Int)=_;omega⟩
def b0H(t:List UInt8)(d a:Int)(h:¬ d<0)(ha:0<=a)(h1:cK t a.toNat [48]=false)(h2:cK t a.toNat [49]=false)(h3:cK t a.toNat [116]=true):is3 (yY t d a) (J.mk 3 (MZ t (a+1)) []) (iz t (a+1).toNat) (HC t (a+1)):=by
 unfold yY;rw[Ey t d a h ha,if_neg (by rw[h1];decide),if_neg (by rw[h2];decide),if_pos h3];obtain⟨g1,g2,g3⟩:=a2v 3 t a ha;exact⟨g1,g2,g3⟩
def b1R(t:List UInt8)(d a:Int)(h:¬ d<0)(ha:0<=a)(h1:cK t a.toNat [48]=false)(h2:cK t a.toNat [49]=false)(h3:cK t a.toNat [116]=false)(h4:cK t a.toNat [97]=true):is3 (yY t d a) (J.mk 4 (MZ t (a+1)) []) (iz t (a+1).toNat) (HC t (a+1)):=by
 unfold yY;rw[Ey t d a h ha,if_neg (by rw[h1];decide),if_neg (by rw[h2];decide),if_neg (by rw[h3];decide),if_pos h4];obtain⟨g1,g2,g3⟩:=a2v 4 t a ha;exact⟨g1,g2,g3⟩
def b1S(t:List UInt8)(d a:Int)(h:¬ d<0)(ha:0<=a)(h1:cK t a.toNat [48]=false)(h2:cK t a.toNat [49]=false)(h3:cK t a.toNat [116]=false)(h4:cK t a.toNat [97]=false)(h5:cK t a.toNat [40]=false):is3 (yY t d a) zX false a:=by
 unfold yY;rw[Ey t d a h ha,if_neg (by rw[h1];decide),if_neg (by rw[h2];decide),if_neg (by rw[h3];decide),if_neg (by rw[h4];decide),if_pos h5];exact⟨rfl,rfl,by show ((a.toNat:Nat):Int)=_;omega⟩
def prP(t:List UInt8)(x y:RI):Int:=bif x.ok&&y.ok then qe t (y.a:Int) [41] else (y.a:Int)
def VN(t:List UInt8)(x y:RI)(h:x.ok=false\/y.ok=false):prP t x y=(y.a:Int):=by unfold prP;rcases h with h|h<;>rw[h]<;>simp
def a5n(t:List UInt8)(x y:RI)(h:x.ok=true)(h':y.ok=true):prP t x y=qe t (y.a:Int) [41]:=by unfold prP;rw[h,h'];rfl
def b1O(t:List UInt8)(d a:Int)(h:¬ d<0)(ha:0<=a)(h1:cK t a.toNat [48]=false)(h2:cK t a.toNat [49]=false)(h3:cK t a.toNat [116]=false)(h4:cK t a.toNat [97]=false)(h5:cK t a.toNat [40]=true)(X:RI)(hX:X=xE t (d - 1) (a+1)) :
  (cK t X.a [32,43,32]=true->is3 (yY t d a) (J.mk 6 0 [X.e,(xE t (d - 1) ((X.a:Int)+3)).e]) (X.ok&&(xE t (d - 1) ((X.a:Int)+3)).ok&&cK t (xE t (d - 1) ((X.a:Int)+3)).a [41]) (prP t X (xE t (d - 1) ((X.a:Int)+3)))) /\
  (cK t X.a [32,43,32]=false->cK t X.a [32]=true->is3 (yY t d a) (J.mk 7 0 [X.e,(xE t (d - 1) ((X.a:Int)+1)).e]) (X.ok&&(xE t (d - 1) ((X.a:Int)+1)).ok&&cK t (xE t (d - 1) ((X.a:Int)+1)).a [41]) (prP t X (xE t (d - 1) ((X.a:Int)+1)))) /\
  (cK t X.a [32,43,32]=false->cK t X.a [32]=false->is3 (yY t d a) zX false (X.a:Int)):=by
 unfold yY;rw[Ey t d a h ha,if_neg (by rw[h1];decide),if_neg (by rw[h2];decide),if_neg (by rw[h3];decide),if_neg (by rw[h4];decide),if_neg (by rw[h5];decide),<-hX];refine⟨λ e=>?_,λ e e'=>?_,λ e e'=>?_⟩
 .rw[b4n e];exact⟨a2L _ _ _ _,a0i _ _ _ _,a2K _ _ _ _⟩
 .rw[b3R (by rw[e];decide),b4n e'];exact⟨a2L _ _ _ _,a0i _ _ _ _,a2K _ _ _ _⟩
 .rw[b3R (by rw[e];decide),b3R (by rw[e'];decide)];exact⟨rfl,rfl,rfl⟩
def lG(n:Nat):fL:=⟨ou,[[.d .str, .d (.int .i64)]],[.b 0, .v (.int .i64)],[[.str,(.int .i64)]],λ (d:Int) (t:List UInt8) (a:Int)=>⟨(some (2 * (d+1).toNat<n/\0<=a/\a<=(t.length:Int)/\t.length<=10000 /\ -1<=d/\d<=40),[⟨(.st .expr),(yY t d a).e⟩,⟨.bool,(yY t d a).ok⟩],[[⟨.str,t⟩,⟨(.int .i64),((yY t d a).a:Int)⟩]])⟩⟩
def lH(n:Nat):fL:=⟨jm,[[.d .str, .d (.int .i64)]],[.b 0, .v (.int .i64)],[[.str,(.int .i64)]],λ (d:Int) (t:List UInt8) (a:Int)=>⟨(some (2 * (d+1).toNat+1<n/\0<=a/\a<=(t.length:Int)/\t.length<=10000 /\ -1<=d/\d<=40),[⟨(.st .expr),(xE t d a).e⟩,⟨.bool,(xE t d a).ok⟩],[[⟨.str,t⟩,⟨(.int .i64),((xE t d a).a:Int)⟩]])⟩⟩
def wk:fL:=⟨jm,[[.d .str, .d (.int .i64)]],[.b 0, .v (.int .i64)],[[.str,(.int .i64)]],λ (d:Int) (t:List UInt8) (a:Int)=>⟨(some (0<=a/\a<=(t.length:Int)/\t.length<=10000 /\ -1<=d/\d<=40),[⟨(.st .expr),(xE t d a).e⟩,⟨.bool,(xE t d a).ok⟩],[[⟨.str,t⟩,⟨(.int .i64),((xE t d a).a:Int)⟩]])⟩⟩
def Js(d:Int)(t:List UInt8)(a:Int):Nat->aE:=λ _ => .none
def Ib(n:Nat)(hE:aC [])(hO:cO [Dx,uO])(hM:cT [])(hS:cR [iI,lF,lH n]):fL.Good (lG (n+1)):=by
 refine⟨au mg rfl (by decide),?_⟩;show ∀ (d:Int) (t:List UInt8) (a:Int),(2 * (d+1).toNat<n+1/\0<=a/\a<=(t.length:Int)/\t.length<=10000 /\ -1<=d/\d<=40)->qI prog ou [[.d .str, .d (.int .i64)]] [.box 0, .val ⟨(.int .i64),d⟩] [[⟨.str,t⟩,⟨(.int .i64),a⟩]] [⟨(.st .expr),(yY t d a).e⟩,⟨.bool,(yY t d a).ok⟩] [[⟨.str,t⟩,⟨(.int .i64),((yY t d a).a:Int)⟩]];intro d t a hp;refine ig (own:=[22,26,36,47,57,70,76,77]) (wr:=[]) (cl:=[]) (ro:=[]) hE hO hM hS mg FD (Js d t a) rfl rfl (let v5:=d - (1:Int);let v6:=yY t d a;let va:=(t.length:Int);let vd:=(v6.a:Int);let vh:=qe t a ([48]);let vc:=qe t vh ([49]);let v2:=qe t vc ([116]);let v8:=qe t v2 ([97]);let vk:=[32,43,32];let vm:=qe t v8 ([40]);let v0:=xE t v5 vm;let vj:=(v0.a:Int);let v1:=qe t vj vk;let ve:=((xE t v5 v1).a:Int);let vf:=aJ (J.mk (6:Int) 0 ([(aJ (v0.e)),(aJ ((xE t v5 v1).e))]));let vn:=qe t v1 ([32]);let v7:=xE t v5 vn;let vg:=aJ (J.mk (7:Int) 0 ([(aJ (v0.e)),(aJ (v7.e))]));let vl:=(v7.a:Int);let vo:=v6.ok;let v3:=(0<=vl/\vl<=va/\t.length<=10000/\([41]).length<=10/\1<=([41]).length)/\((vg=(v6.e)/\(cK t vl.toNat ([41]))=vo)/\((t=t/\(qe t vl ([41]))=vd)/\True));let v4:=(0<=ve/\ve<=va/\t.length<=10000/\([41]).length<=10/\1<=([41]).length)/\((vf=(v6.e)/\(cK t ve.toNat ([41]))=vo)/\((t=t/\(qe t ve ([41]))=vd)/\True));let v9:=(vf=(v6.e)/\false=vo)/\((t=t/\ve=vd)/\True);let vb:=(vg=(v6.e)/\false=vo)/\((t=t/\vl=vd)/\True);let vi:=zE=(v6.e)/\false=vo;((((decide (d<(0:Int)))=true->(vi/\((t=t/\a=vd)/\True)))/\((decide (d<(0:Int)))=false->((0<=a/\a<=va/\t.length<=10000/\([48]).length<=10/\1<=([48]).length)/\(((cK t a.toNat ([48]))=true->(((aJ (J.mk (1:Int) (0:Int) []))=(v6.e)/\true=vo)/\((t=t/\vh=vd)/\True)))/\((cK t a.toNat ([48]))=false->((0<=vh/\vh<=va/\t.length<=10000/\([49]).length<=10/\1<=([49]).length)/\(((cK t vh.toNat ([49]))=true->(((aJ (J.mk (2:Int) (0:Int) []))=(v6.e)/\true=vo)/\((t=t/\vc=vd)/\True)))/\((cK t vh.toNat ([49]))=false->((0<=vc/\vc<=va/\t.length<=10000/\([116]).length<=10/\1<=([116]).length)/\(((cK t vc.toNat ([116]))=true->((0<=v2/\v2<=va/\t.length<=10000)/\(O (MZ t v2)->(((aJ (J.mk (3:Int) (MZ t v2) []))=(v6.e)/\(iz t v2.toNat)=vo)/\((t=t/\(HC t v2)=vd)/\True)))))/\((cK t vc.toNat ([116]))=false->((0<=v2/\v2<=va/\t.length<=10000/\([97]).length<=10/\1<=([97]).length)/\(((cK t v2.toNat ([97]))=true->((0<=v8/\v8<=va/\t.length<=10000)/\(O (MZ t v8)->(((aJ (J.mk (4:Int) (MZ t v8) []))=(v6.e)/\(iz t v8.toNat)=vo)/\((t=t/\(HC t v8)=vd)/\True)))))/\((cK t v2.toNat ([97]))=false->((0<=v8/\v8<=va/\t.length<=10000/\([40]).length<=10/\1<=([40]).length)/\(((!(cK t v8.toNat ([40])))=true->(vi/\((t=t/\vm=vd)/\True)))/\((!(cK t v8.toNat ([40])))=false->(O v5/\((2 * (v5+1).toNat+1<n/\0<=vm/\vm<=va/\t.length<=10000 /\ -1<=v5/\v5<=40)/\((0<=vj/\vj<=va/\t.length<=10000/\vk.length<=10/\1<=vk.length)/\(((cK t vj.toNat vk)=true->(O v5/\((2 * (v5+1).toNat+1<n/\0<=v1/\v1<=va/\t.length<=10000 /\ -1<=v5/\v5<=40)/\(((v0.ok)=true->((((xE t v5 v1).ok)=true->v4)/\(((xE t v5 v1).ok)=(!true)->v9)))/\((v0.ok)=(!true)->((false=true->v4)/\(false=(!true)->v9)))))))/\((cK t vj.toNat vk)=false->((0<=v1/\v1<=va/\t.length<=10000/\([32]).length<=10/\1<=([32]).length)/\(((!(cK t v1.toNat ([32])))=true->(vi/\((t=t/\vn=vd)/\True)))/\((!(cK t v1.toNat ([32])))=false->(O v5/\((2 * (v5+1).toNat+1<n/\0<=vn/\vn<=va/\t.length<=10000 /\ -1<=v5/\v5<=40)/\(((v0.ok)=true->(((v7.ok)=true->v3)/\((v7.ok)=(!true)->vb)))/\((v0.ok)=(!true)->((false=true->v3)/\(false=(!true)->vb))))))))))))))))))))))))))))))))) (by kernel_rfl) ?_;obtain⟨hm,h0,h1,h2,h3,h4⟩:=hp;by_cases hd:d<0
 .obtain⟨q1,q2,q3⟩:=a8N t d a hd h0;simp only[b4l hd,q1,q2,q3,b4t,b4o,b3K,b3I,b3M,b3L,b4c,b4d,b4k,b4p,b3T,b4E,b3W,O,aK];repeat' (first|intro _|apply And.intro)
  all_goals first|exact True.intro|omega|with_reducible rfl|decide
 .have HK:=b3Q hd;rcases b4G (cK t a.toNat [48]) with Dh|Dh
  .have k:=kU t a.toNat 48 [] Dh;simp only[b3P,b4b] at k;obtain⟨q1,q2,q3⟩:=b1P t d a hd h0 Dh;have b1:=Pv t (a+1) (by omega);have b2:=VE t (a+1) (by omega) (by omega);simp only[HK,Dh,zl t a 48 Dh,q1,q2,q3,b4t,b4o,b3K,b3I,b3M,b3L,b4c,b4d,b4k,b4p,b3T,b4E,b3W,O,aK];repeat' (first|intro _|apply And.intro)
   all_goals first|exact True.intro|omega|with_reducible rfl|decide
  .have f48:=GL t a [48] Dh;rcases b4G (cK t a.toNat [49]) with FR|FR
   .have k:=kU t a.toNat 49 [] FR;simp only[b3P,b4b] at k;obtain⟨q1,q2,q3⟩:=b1Q t d a hd h0 Dh FR;have b1:=Pv t (a+1) (by omega);have b2:=VE t (a+1) (by omega) (by omega);simp only[HK,Dh,f48,FR,zl t a 49 FR,q1,q2,q3,b4t,b4o,b3K,b3I,b3M,b3L,b4c,b4d,b4k,b4p,b3T,b4E,b3W,O,aK];repeat' (first|intro _|apply And.intro)
    all_goals first|exact True.intro|omega|with_reducible rfl|decide
   .have f49:=GL t a [49] FR;rcases b4G (cK t a.toNat [116]) with yH|yH
    .have k:=kU t a.toNat 116 [] yH;simp only[b3P,b4b] at k;obtain⟨q1,q2,q3⟩:=b0H t d a hd h0 Dh FR yH;have b1:=Pv t (a+1) (by omega);have b2:=VE t (a+1) (by omega) (by omega);simp only[HK,Dh,f48,FR,f49,yH,zl t a 116 yH,q1,q2,q3,b4t,b4o,b3K,b3I,b3M,b3L,b4c,b4d,b4k,b4p,b3T,b4E,b3W,O,aK];repeat' (first|intro _|apply And.intro)
     all_goals first|exact True.intro|omega|with_reducible rfl|decide
    .have f116:=GL t a [116] yH;rcases b4G (cK t a.toNat [97]) with Pw|Pw
     .have k:=kU t a.toNat 97 [] Pw;simp only[b3P,b4b] at k;obtain⟨q1,q2,q3⟩:=b1R t d a hd h0 Dh FR yH Pw;have b1:=Pv t (a+1) (by omega);have b2:=VE t (a+1) (by omega) (by omega);simp only[HK,Dh,f48,FR,f49,yH,f116,Pw,zl t a 97 Pw,q1,q2,q3,b4t,b4o,b3K,b3I,b3M,b3L,b4c,b4d,b4k,b4p,b3T,b4E,b3W,O,aK];repeat' (first|intro _|apply And.intro)
      all_goals first|exact True.intro|omega|with_reducible rfl|decide
     .have f97:=GL t a [97] Pw;rcases b4G (cK t a.toNat [40]) with Ww|Ww
      .have k:=kU t a.toNat 40 [] Ww;simp only[b3P,b4b] at k;have g1:=zl t a 40 Ww;have b1:=a4D t (d - 1) (a+1) (by omega) (by omega);obtain⟨p1,p2,p3⟩:=b1O t d a hd h0 Dh FR yH Pw Ww _ rfl;simp only[HK,Dh,f48,FR,f49,yH,f116,Pw,f97,Ww,g1,b4t,b4o,b3K,b3I,b3M,b3L,b4c,b4d,b4k,b4p,b3T,b4E,b3W,O,aK];generalize xE t (d - 1) (a+1)=X at *
       rcases b4G (cK t X.a [32,43,32]) with eS|eS
       .skip;have k2:=kU t _ 32 [43,32] eS;simp only[b3P,b4b] at k2;have g2:=a9t t (X.a:Int) 32 43 32 (by rw[b3W];exact eS);obtain⟨q1,q2,q3⟩:=p1 eS;have b2:=a4D t (d - 1) ((X.a:Int)+3) (by omega) (by omega);simp only[eS,g2,q1,q2,q3,b4t,b4o,b3K,b3I,b3M,b3L,b4c,b4d,b4k,b4p,b3T,b4E,b3W,O,aK];generalize xE t (d - 1) ((X.a:Int)+3)=Y at *
        have b3:=a5A t (Y.a:Int) [41] (by omega);have b4:=a5B t (Y.a:Int) [41] (by omega) b2;rcases b4G X.ok with x1|x1
        .rcases b4G Y.ok with y1|y1
         .simp only[x1,y1,a5n t X Y x1 y1,b5o,b4T,b6W,b4t,b4o,b3K,b3I,b3M,b3L,b4c,b4d,b4k,b4p,b3T,b4E,b3W,O,aK];repeat' (first|intro _|apply And.intro)
          all_goals first|exact True.intro|omega|with_reducible rfl|decide
         .simp only[x1,y1,VN t X Y (.inr y1),b5o,b4T,b5c,b4Y,b4t,b4o,b3K,b3I,b3M,b3L,b4c,b4d,b4k,b4p,b3T,b4E,b3W,O,aK];repeat' (first|intro _|apply And.intro)
          all_goals first|exact True.intro|omega|with_reducible rfl|decide
        .simp only[x1,VN t X Y (.inl x1),b5o,b4T,b5c,b4Y,b4t,b4o,b3K,b3I,b3M,b3L,b4c,b4d,b4k,b4p,b3T,b4E,b3W,O,aK];repeat' (first|intro _|apply And.intro)
         all_goals first|exact True.intro|omega|with_reducible rfl|decide
       .have g3:=GL t (X.a:Int) [32,43,32] (by rw[b3W];exact eS);rcases b4G (cK t X.a [32]) with eD|eD
        .skip;have k2:=kU t _ 32 [] eD;simp only[b3P,b4b] at k2;have g2:=zl t (X.a:Int) 32 (by rw[b3W];exact eD);obtain⟨q1,q2,q3⟩:=p2 eS eD;have b2:=a4D t (d - 1) ((X.a:Int)+1) (by omega) (by omega);simp only[eD,eS,g3,g2,q1,q2,q3,b4t,b4o,b3K,b3I,b3M,b3L,b4c,b4d,b4k,b4p,b3T,b4E,b3W,O,aK];generalize xE t (d - 1) ((X.a:Int)+1)=Y at *
         have b3:=a5A t (Y.a:Int) [41] (by omega);have b4:=a5B t (Y.a:Int) [41] (by omega) b2;rcases b4G X.ok with x1|x1
         .rcases b4G Y.ok with y1|y1
          .simp only[x1,y1,a5n t X Y x1 y1,b5o,b4T,b6W,b4t,b4o,b3K,b3I,b3M,b3L,b4c,b4d,b4k,b4p,b3T,b4E,b3W,O,aK];repeat' (first|intro _|apply And.intro)
           all_goals first|exact True.intro|omega|with_reducible rfl|decide
          .simp only[x1,y1,VN t X Y (.inr y1),b5o,b4T,b5c,b4Y,b4t,b4o,b3K,b3I,b3M,b3L,b4c,b4d,b4k,b4p,b3T,b4E,b3W,O,aK];repeat' (first|intro _|apply And.intro)
           all_goals first|exact True.intro|omega|with_reducible rfl|decide
         .simp only[x1,VN t X Y (.inl x1),b5o,b4T,b5c,b4Y,b4t,b4o,b3K,b3I,b3M,b3L,b4c,b4d,b4k,b4p,b3T,b4E,b3W,O,aK];repeat' (first|intro _|apply And.intro)
          all_goals first|exact True.intro|omega|with_reducible rfl|decide
        .have g4:=GL t (X.a:Int) [32] (by rw[b3W];exact eD);obtain⟨q1,q2,q3⟩:=p3 eS eD;simp only[eS,eD,g3,g4,q1,q2,q3,b4t,b4o,b3K,b3I,b3M,b3L,b4c,b4d,b4k,b4p,b3T,b4E,b3W,O,aK];repeat' (first|intro _|apply And.intro)
         all_goals first|exact True.intro|omega|with_reducible rfl|decide
      .have f40:=GL t a [40] Ww;obtain⟨q1,q2,q3⟩:=b1S t d a hd h0 Dh FR yH Pw Ww;simp only[HK,Dh,f48,FR,f49,yH,f116,Pw,f97,Ww,f40,q1,q2,q3,b4t,b4o,b3K,b3I,b3M,b3L,b4c,b4d,b4k,b4p,b3T,b4E,b3W,O,aK];repeat' (first|intro _|apply And.intro)
       all_goals first|exact True.intro|omega|with_reducible rfl|decide
def Jt(d:Int)(t:List UInt8)(a:Int):Nat->aE:=(λ zb=>if Nat.beq zb 0 then .mk (Nat) (λ k=>k<=nE t a) (λ k=>nE t a - k) [] [5] (λ k=>[(6, .aI ⟨(.int .i64),((k:Int):Int)⟩)]) [4] (λ k=>[(400000, .box [.aI ⟨.str,(t:List UInt8)⟩, .aI ⟨(.int .i64),(a+(k:Int):Int)⟩])]) [] [] (λ k=>λ _ => .none) else if Nat.beq zb 2 then .mk (Nat) (λ j=>j<=nE t a/\nE t a<=40) (λ j=>nE t a - j) [] [1,10,11,14,15,17,18,19,20,21,22] (λ j=>[(6, .aI ⟨(.int .i64),((nE t a:Int) - (j:Int):Int)⟩)]) [4,400000] (λ j=>[(7, .box [.aI ⟨(.int .i64),((cq 5 j (rE t d a).e).aq:Int)⟩, .aI ⟨(.int .i64),((cq 5 j (rE t d a).e).aM:Int)⟩, .aw 7100]),(7100, .aw (.st .expr) ((cq 5 j (rE t d a).e).M:List J))]) [] [] (λ j=>λ _ => .none) else if Nat.beq zb 4 then .mk (Nat) (λ m=>m<=mE t d a/\m<=41/\nE t a<=40) (λ m=>mE t d a - m) [] [6,23,24] (λ m=>[(9, .aI ⟨(.int .i64),((m:Int):Int)⟩)]) [4] (λ m=>[(400000, .box [.aI ⟨.str,(t:List UInt8)⟩, .aI ⟨(.int .i64),(((rE t d a).a:Int)+(m:Int):Int)⟩]),(7, .box [.aI ⟨(.int .i64),((cq 8 m (cq 5 (nE t a) (rE t d a).e)).aq:Int)⟩, .aI ⟨(.int .i64),((cq 8 m (cq 5 (nE t a) (rE t d a).e)).aM:Int)⟩, .aw 7200]),(7200, .aw (.st .expr) ((cq 8 m (cq 5 (nE t a) (rE t d a).e)).M:List J))]) [] [] (λ m=>λ _ => .none) else .none)
def Ic(n:Nat)(hE:aC [])(hO:cO [uO])(hM:cT [])(hS:cR [iI,lG n]):fL.Good (lH (n+1)):=by
 refine⟨au iv rfl (by decide),?_⟩;show ∀ (d:Int) (t:List UInt8) (a:Int),(2 * (d+1).toNat+1<n+1/\0<=a/\a<=(t.length:Int)/\t.length<=10000 /\ -1<=d/\d<=40)->qI prog jm [[.d .str, .d (.int .i64)]] [.box 0, .val ⟨(.int .i64),d⟩] [[⟨.str,t⟩,⟨(.int .i64),a⟩]] [⟨(.st .expr),(xE t d a).e⟩,⟨.bool,(xE t d a).ok⟩] [[⟨.str,t⟩,⟨(.int .i64),((xE t d a).a:Int)⟩]];intro d t a hp;refine ig (own:=[20,28,29,38,39]) (wr:=[]) (cl:=[]) (ro:=[]) hE hO hM hS iv FE (Jt d t a) rfl rfl (let v2:=rE t d a;let v0:=cq 5 (nE t a) v2.e;let v3:=[126];let v4:=(v2.a:Int);let v5:=xE t d a;let v6:=(nE t a:Int);let v7:=True/\True;let v8:=(0:Int);let v1:=(v8=v8/\(v8=v8/\v7))/\True;let v9:=zE=(v5.e)/\false=(v5.ok);let va:=(1:Int);(((∃ k1:Nat,(k1<=nE t a/\((True/\(d=d/\(True/\(v8=(k1:Int)/\True))))/\((t=t/\(a=(a+(k1:Int))/\True))/\v1))))/\(∀ k1:Nat,let vg:=(k1:Int);let vc:=a+vg;let ve:=qe t vc v3;let vb:=yY t d ve;let vd:=(t=t/\(((vb.a:Int))=((vb.a:Int))/\True))/\v1;let vf:=True/\((vb.ok)=(vb.ok)/\True);(k1<=nE t a->((0<=vc/\vc<=(t.length:Int)/\t.length<=10000/\v3.length<=10/\1<=v3.length)/\(((cK t vc.toNat v3)=true->(O (vg+va)/\(∃ k2:Nat,(k2<=nE t a/\(nE t a - k2<nE t a - k1/\((True/\(d=d/\(True/\((vg+va)=(k2:Int)/\True))))/\((t=t/\(ve=(a+(k2:Int))/\True))/\v1)))))))/\((cK t vc.toNat v3)=false->(((decide ((40:Int)<vg))=true->(v9/\((t=t/\ve=(v5.a:Int))/\True)))/\((decide ((40:Int)<vg))=false->((2 * (d+1).toNat<n/\0<=ve/\ve<=(t.length:Int)/\t.length<=10000 /\ -1<=d/\d<=40)/\((∃ j2:Nat,let vh:=cq 5 j2 v2.e;((j2<=nE t a/\nE t a<=40)/\((True/\(True/\(vg=(v6 - (j2:Int))/\vf)))/\(((vb.e).aq=(vh.aq)/\((vb.e).aM=(vh.aM)/\v7))/\((vb.e).M=(vh.M)/\vd)))))/\(∀ j2:Nat,let vi:=cq 5 j2 v2.e;let vh:=J.mk (5:Int) 0 ([(J.mk (vi.aq) (vi.aM) (vi.M))]);let vj:=v6 - (j2:Int);((j2<=nE t a/\nE t a<=40)->(((decide (v8<vj))=true->(O (vj - va)/\(∃ j3:Nat,let vk:=cq 5 j3 v2.e;((j3<=nE t a/\nE t a<=40)/\(nE t a - j3<nE t a - j2/\((True/\(True/\((vj - va)=(v6 - (j3:Int))/\vf)))/\((vh.aq=(vk.aq)/\(vh.aM=(vk.aM)/\v7))/\(vh.M=(vk.M)/\vd))))))))/\((decide (v8<vj))=false->((∃ m3:Nat,((m3<=mE t d a/\m3<=41/\nE t a<=40)/\((True/\(True/\(True/\((vb.ok)=(vb.ok)/\(v8=(m3:Int)/\True)))))/\((t=t/\(((vb.a:Int))=(v4+(m3:Int))/\True))/\(((vi.aq)=((cq 8 m3 v0).aq)/\((vi.aM)=((cq 8 m3 v0).aM)/\v7))/\((vi.M)=((cq 8 m3 v0).M)/\v1))))))/\(∀ m3:Nat,let vk:=J.mk ((cq 8 m3 v0).aq) ((cq 8 m3 v0).aM) ((cq 8 m3 v0).M);let vl:=v4+(m3:Int);let vm:=(t=t/\(qe t vl ([42]))=(v5.a:Int))/\True;let vn:=J.mk (8:Int) 0 ([vk]);let vo:=decide ((40:Int)<(m3:Int));((m3<=mE t d a/\m3<=41/\nE t a<=40)->((0<=vl/\vl<=(t.length:Int)/\t.length<=10000/\([42]).length<=10/\1<=([42]).length)/\(((cK t vl.toNat ([42]))=true->((vo=true->(v9/\vm))/\(vo=false->(O ((m3:Int)+va)/\(∃ m4:Nat,((m4<=mE t d a/\m4<=41/\nE t a<=40)/\(mE t d a - m4<mE t d a - m3/\((True/\(True/\(True/\((vb.ok)=(vb.ok)/\(((m3:Int)+va)=(m4:Int)/\True)))))/\((t=t/\((qe t vl ([42]))=(v4+(m4:Int))/\True))/\((vn.aq=((cq 8 m4 v0).aq)/\(vn.aM=((cq 8 m4 v0).aM)/\v7))/\(vn.M=((cq 8 m4 v0).M)/\v1)))))))))))/\((cK t vl.toNat ([42]))=false->((vk=(v5.e)/\(vb.ok)=(v5.ok))/\vm))))))))))))))))))))))) (by kernel_rfl) ?_;obtain⟨hm,h0,h1,h2,h3,h4⟩:=hp;have n1:=a7Y t a h0 h1;have n2:=b1g t d a h0 h1;have z1:=λ k h=>b1r t a k h0 h;have z2:=λ k h=>b1q t d a k h;have c1:yY t d (a+(nE t a:Int))=rE t d a:=a8e t d a h0;simp only[b4t,b4o,b3K,b3I,b3M,b3L,b4c,b4d,b4k,b4p,b3T,b4E,b3W,O,aK];refine⟨⟨0,b4O _,by omega⟩,λ k1 hk=>⟨?_,λ e1=>?_,λ e1=>?_⟩⟩
 .repeat' (first|intro _|apply And.intro)
  all_goals first|exact True.intro|omega|with_reducible rfl|decide
 .have g:=z1 k1 hk;rw[e1] at g;have g':=b4u g.symm;rw[zl t _ 126 e1];exact⟨by omega,k1+1,by omega,by omega,by omega,by omega⟩
 .have g:=z1 k1 hk;rw[e1] at g;have g':=b5x g.symm;have R2:k1=nE t a:=by omega
  subst R2;have f1:=GL t _ [126] e1;by_cases hn:40<nE t a
  .obtain⟨x1,x2,x3⟩:=a8F t d a h0 hn;simp only[f1,(b4l (by omega):decide ((40:Int)<(nE t a:Int))=true),x1,x2,x3,b4t,b4o,b3K,b3I,b3M,b3L,b4c,b4d,b4k,b4p,b3T,b4E,b3W,O,aK];repeat' (first|intro _|apply And.intro)
   all_goals first|exact True.intro|omega|with_reducible rfl|decide
  .simp only[f1,c1,(b3Q (by omega):decide ((40:Int)<(nE t a:Int))=false),b4t,b4o,b3K,b3I,b3M,b3L,b4c,b4d,b4k,b4p,b3T,b4E,b3W,O,aK];refine⟨by omega,⟨0,⟨b4O _,by omega⟩,by omega,⟨rfl,rfl⟩,rfl⟩,λ j2 hj=>⟨λ e2=>?_,λ e2=>?_⟩⟩
   .have e2':=b4u e2;exact⟨by omega,j2+1,⟨by omega,by omega⟩,by omega,by omega,⟨by rw[dQ],by rw[dQ]⟩,by rw[dQ,J.eta]⟩
   .have e2':=b5x e2;have hj2:j2=nE t a:=by omega
    subst hj2;refine⟨⟨0,⟨b4O _,by omega,by omega⟩,rfl,by omega,⟨rfl,rfl⟩,rfl⟩,λ m3 hm3=>⟨⟨by omega,by omega,by omega,by decide,by decide⟩,λ e3=>⟨λ e4=>?_,λ e4=>?_⟩,λ e3=>?_⟩⟩
    .have g3:=z2 m3 hm3.1;rw[e3] at g3;have g3':=b4u g3.symm;have e4':=b4u e4;obtain⟨x1,x2,x3⟩:=a6B t d a hn (by omega);rw[zl t _ 42 e3,x1,x2,x3];exact⟨⟨rfl,rfl⟩,by omega⟩
    .have g3:=z2 m3 hm3.1;rw[e3] at g3;have g3':=b4u g3.symm;have e4':=b5x e4;rw[zl t _ 42 e3];exact⟨by omega,m3+1,⟨by omega,by omega,by omega⟩,by omega,by omega,by omega,⟨by rw[dQ],by rw[dQ]⟩,by rw[dQ,J.eta]⟩
    .have g3:=z2 m3 hm3.1;rw[e3] at g3;have g3':=b5x g3.symm;have hm:m3=mE t d a:=by omega
     subst hm;obtain⟨x1,x2,x3⟩:=a8E t d a hn (by omega);rw[GL t _ _ e3,x1,x2,x3,J.eta];exact⟨⟨rfl,rfl⟩,rfl⟩
def Zs:∀ n,cR [lG n,lH n]
 | 0=>⟨⟨au mg rfl (by decide),λ _ _ _ h=>absurd h.1 (b4y _)⟩,⟨au iv rfl (by decide),λ _ _ _ h=>absurd h.1 (b4y _)⟩,U⟩
 | n+1=>by
  have ih:=Zs n;exact⟨Ib n trivial ⟨SI,Fe,U⟩ trivial ⟨qE,DP,ih.2.1,U⟩,Ic n trivial ⟨Fe,U⟩ trivial ⟨qE,ih.1,U⟩,U⟩
def Fj:fL.Good wk :=
 ⟨au iv rfl (by decide),λ d t a hp=>(Zs (2 * (d+1).toNat+1+1)).2.1.2 d t a (⟨b4v _,hp⟩)⟩
end
end Go.Proofs.YtmjfpcajohhbeaaGreatDoor

set_option maxRecDepth 4000
set_option maxHeartbeats 4000000
namespace Go.Proofs.YtmjfpcajohhbeaaGreatDoor
noncomputable section
def Ws(c:UInt8):∀ l:List UInt8,cJ c l<=l.length
 | []=>b4r _
 | b::l=>by
  have:=Ws c l;unfold cJ;split<;>simp<;>omega
def Wo:∀ l:List UInt8,oF l<=l.length
 | []=>b4r _
 | b::l=>by
  have:=Wo l;unfold oF;split<;>simp<;>omega
def uV(t:List UInt8)(a:Nat)(h:¬ ck t a=0):a<t.length:=by
 unfold ck at h;split at h
 .assumption
 .exact absurd rfl h
def GK(t:List UInt8)(a:Nat)(c:Int)(hc:¬ c=0)(h:a<=t.length):dC t a c<=t.length:=by
 unfold dC;split
 .rename_i e;have:=uV t a (by rw[e];exact hc);omega
 .exact h
def a6s(t:List UInt8)(r:RS)(h:r.a<=t.length):(DR t r).a<=t.length/\(DR t r).dp=r.dp - 1:=by
 have:=Ws 42 (t.drop r.a);simp only[List.length_drop] at this;unfold DR;split
 .exact⟨h,rfl⟩
 .exact⟨by show r.a+cJ 42 (t.drop r.a)<=_;omega,rfl⟩
structure Bnd(t:List UInt8)(dp m:Nat)(r:RS):Prop where
 a:r.a<=t.length
 lo:dp<=r.dp
 hi:r.dp<=m
def Kd(inner:Nat->Nat->RS)(t:List UInt8)(a dp:Nat)(bad:Bool)(ha:a<=t.length)(hi:dp+1<=100->bad=false->Bnd t (dp+1) 102 (inner a (dp+1))):Bnd t dp (max 101 (dp+1)) (dV inner t a dp bad):=by
 unfold dV;split
 .exact⟨ha,b7G _,by show dp+1<=_;omega⟩
 .rename_i h;have hb:bad=false:=by cases bad<;>simp_all
  have g:=hi (by omega) hb;have s:=a6s t _ g.a;have:=g.lo;have:=g.hi;exact⟨s.1,by rw[s.2];omega,by rw[s.2];omega⟩
def Yf(inner:Nat->Nat->RS)(t:List UInt8)(x:RS)(k:Int)(a dp:Nat)(bad:Bool)(hd:dp<=100)(ha:a<=t.length)(hx:Bnd t dp 101 x)(hb:bad=false->x.dp=dp)(hi:dp+1<=100->∀ a,a<=t.length->Bnd t (dp+1) 102 (inner a (dp+1))) :
  Bnd t dp 102 (DO inner t x k a bad):=by
 have:=hx.lo;have:=hx.hi;have hy:=Kd inner t a x.dp bad ha (λ h1 h2=>by rw[hb h2] at h1 ⊢;exact hi h1 a ha);have:=hy.lo;have:=hy.hi;unfold DO;exact⟨GK t _ 41 (by decide) hy.a,by show dp<=(dV inner t a x.dp bad).dp;omega,by show (dV inner t a x.dp bad).dp<=102;omega⟩
def Fk(t:List UInt8)(a:Nat)(c:Int)(bad:Bool)(h:fH t a c bad=false):bad=false:=by
 unfold fH at h;split at h
 .exact h
 .cases h
def a0j(inner:Nat->Nat->RS)(t:List UInt8)(x:RS)(dp:Nat)(hd:dp<=100)(hx:Bnd t dp 101 x)(hb:x.bad=false->x.dp=dp)(hi:dp+1<=100->∀ a,a<=t.length->Bnd t (dp+1) 102 (inner a (dp+1))) :
  Bnd t dp 102 (yo inner t x):=by
 have h1:=GK t x.a 32 (by decide) hx.a;unfold yo;split
 .rename_i e;have h2:=uV t (dC t x.a 32) (by rw[e];decide);exact Yf inner t x 6 _ dp _ hd (GK t _ 32 (by decide) (by omega)) hx (λ h=>hb (Fk t _ _ _ (Fk t _ _ _ h))) hi
 .exact Yf inner t x 7 _ dp _ hd h1 hx (λ h=>hb (Fk t _ _ _ h)) hi
def iE(t:List UInt8)(g a dp:Nat):cC t g a dp=if ck t a=48 then ⟨J.mk 1 0 [],a+1,dp,false⟩ else if ck t a=49 then ⟨J.mk 2 0 [],a+1,dp,false⟩ else
  if ck t a=116\/ck t a=97 then lM t a dp else
  if ck t a=126 then (match g with
   | 0=>⟨zX,a+1,dp+1,true⟩
   | g+1=>⟨J.mk 5 0 [(cC t g (a+1) (dp+1)).e],(cC t g (a+1) (dp+1)).a,(cC t g (a+1) (dp+1)).dp - 1,(cC t g (a+1) (dp+1)).bad⟩) else
  if ck t a=40 then (match g with
   | 0=>yo (λ _ _=>⟨zX,0,0,true⟩) t (dV (λ _ _=>⟨zX,0,0,true⟩) t (a+1) dp false)
   | g+1=>yo (cC t g) t (dV (cC t g) t (a+1) dp false)) else ⟨zX,a,dp,true⟩:=by
 exact cC.eq_def t g a dp
def AF(t:List UInt8):∀ (g a dp:Nat),g+dp=100->a<=t.length->Bnd t dp 102 (cC t g a dp)
 | g,a,dp,hg,ha=>by
  have lt:∀ c:Int,¬ c=0->ck t a=c->a+1<=t.length:=λ c hc h=>uV t a (by rw[h];exact hc);rw[iE];split
  .rename_i h;exact⟨lt _ (by decide) h,b4r _,by show dp<=102;omega⟩
  .split
   .rename_i h;exact⟨lt _ (by decide) h,b4r _,by show dp<=102;omega⟩
   .split
    .rename_i h;have h1:a+1<=t.length:=by rcases h with h|h<;>exact lt _ (by decide) h
     have:=Wo (t.drop (a+1));simp only[b4V] at this;exact⟨by show a+1+oF (t.drop (a+1))<=_;omega,b4r _,by show dp<=102;omega⟩
    .split
     .rename_i h;have h1:=lt _ (by decide) h;cases g with
      | zero=>exact⟨h1,b7G _,by show dp+1<=102;omega⟩
      | succ g =>
       have ih:=AF t g (a+1) (dp+1) (by omega) h1;have:=ih.lo;have:=ih.hi;exact⟨ih.a,by show dp<=(cC t g (a+1) (dp+1)).dp - 1;omega,by show (cC t g (a+1) (dp+1)).dp - 1<=102;omega⟩
     .split
      .rename_i h;have h1:=lt _ (by decide) h;cases g with
       | zero =>
        have hx:=Kd (λ _ _=>⟨zX,0,0,true⟩) t (a+1) dp false h1 (λ h=>by omega);refine a0j _ t _ dp (by omega) ⟨hx.a,hx.lo,by have:=hx.hi;omega⟩ (λ hb=>?_) (λ h=>by omega);exact ((sR (λ _ _=>⟨zX,0,0,true⟩) t (a+1) dp false (λ h=>by omega)).ex hb).1
       | succ g =>
        have hx:=Kd (cC t g) t (a+1) dp false h1 (λ _ _=>AF t g (a+1) (dp+1) (by omega) h1);refine a0j _ t _ dp (by omega) ⟨hx.a,hx.lo,by have:=hx.hi;omega⟩ (λ hb=>?_) (λ _ a' ha'=>AF t g a' (dp+1) (by omega) ha');exact ((sR (cC t g) t (a+1) dp false (λ _=>Gb t g (a+1) (dp+1) (by omega))).ex hb).1
      .exact⟨ha,b4r _,by show dp<=102;omega⟩
def dG(t:List UInt8)(a dp:Int):RS:=cC t (100 - dp).toNat a.toNat dp.toNat
def gm(t:List UInt8)(a dp:Int)(bad:Bool):RS:=dV (cC t (99 - dp).toNat) t a.toNat dp.toNat bad
def sE(t:List UInt8)(r:RS):Nat:=if r.bad=true then 0 else cJ 42 (t.drop r.a)
def a8t(t:List UInt8)(r:RS):DR t r=⟨cq 8 (sE t r) r.e,r.a+sE t r,r.dp - 1,r.bad⟩:=by
 unfold DR sE;cases r.bad<;>rfl
def Qf(t:List UInt8)(a dp:Int)(h0:0<=a)(h1:a<=(t.length:Int))(h2:0<=dp)(h3:dp<=100):((dG t a dp).a:Int)<=(t.length:Int)/\dp<=((dG t a dp).dp:Int)/\((dG t a dp).dp:Int)<=102:=by
 have g:=AF t (100 - dp).toNat a.toNat dp.toNat (by omega) (by omega);have:=g.a;have:=g.lo;have:=g.hi;unfold dG;omega
def VF(t:List UInt8)(a dp:Int)(bad:Bool)(h0:0<=a)(h1:a<=(t.length:Int))(h2:0<=dp):((gm t a dp bad).a:Int)<=(t.length:Int)/\dp<=((gm t a dp bad).dp:Int)/\(((gm t a dp bad).dp:Int)<=101\/((gm t a dp bad).dp:Int)<=dp+1):=by
 have g:=Kd (cC t (99 - dp).toNat) t a.toNat dp.toNat bad (by omega) (λ h _=>AF t (99 - dp).toNat a.toNat (dp.toNat+1) (by omega) (by omega));have:=g.a;have:=g.lo;have:=g.hi;unfold gm;omega
def a1Z(t:List UInt8)(a dp:Int)(bad:Bool)(h0:0<=a)(h2:0<=dp)(h:bad=true\/100<dp+1):(gm t a dp bad).e=zX/\((gm t a dp bad).a:Int)=a/\((gm t a dp bad).dp:Int)=dp+1/\(gm t a dp bad).bad=true:=by
 unfold gm dV;rw[if_pos (by rcases h with h|h;exact .inl h;exact .inr (by omega))];exact⟨rfl,by show ((a.toNat:Nat):Int)=a;omega,by show ((dp.toNat+1:Nat):Int)=dp+1;omega,rfl⟩
def b0I(t:List UInt8)(a dp:Int)(bad:Bool)(h0:0<=a)(h2:0<=dp)(h:bad=false)(h':¬ 100<dp+1):gm t a dp bad=DR t (dG t a (dp+1)):=by
 unfold gm dV dG;rw[if_neg (by rw[h];rintro (g|g);cases g;omega),show (100 - (dp+1)).toNat=(99 - dp).toNat by omega,show (dp+1).toNat=dp.toNat+1 by omega]
def a8Q(t:List UInt8)(a dp:Int)(bad:Bool)(h0:0<=a)(h1:a<=(t.length:Int))(h2:0<=dp)(h:bad=false)(h':¬ 100<dp+1):(gm t a dp bad).e=cq 8 (sE t (dG t a (dp+1))) (dG t a (dp+1)).e/\((gm t a dp bad).a:Int)=((dG t a (dp+1)).a:Int)+(sE t (dG t a (dp+1)):Int) /\
  ((gm t a dp bad).dp:Int)=((dG t a (dp+1)).dp:Int) - 1/\(gm t a dp bad).bad=(dG t a (dp+1)).bad:=by
 have:=Qf t a (dp+1) h0 h1 (by omega) (by omega);rw[b0I t a dp bad h0 h2 h h',a8t];refine⟨rfl,by simp,?_,rfl⟩;show (((dG t a (dp+1)).dp - 1:Nat):Int)=_;omega
def b1j(t:List UInt8)(a dp:Int)(h0:0<=a)(h1:a<=(t.length:Int))(h2:0<=dp)(h3:dp<=100):((dG t a dp).a:Int)+(sE t (dG t a dp):Int)<=(t.length:Int):=by
 have:=Qf t a dp h0 h1 h2 h3;have h:=Ws 42 (t.drop (dG t a dp).a);simp only[List.length_drop] at h;unfold sE;split<;>omega
structure is4(r:RS)(e:J)(a dp:Int)(bad:Bool):Prop where
 e:r.e=e
 a:(r.a:Int)=a
 dp:(r.dp:Int)=dp
 bad:r.bad=bad
def b2E(t:List UInt8)(a dp:Int)(h0:0<=a)(h2:0<=dp)(h:ck t a.toNat=48):is4 (dG t a dp) (J.mk 1 0 []) (a+1) dp false:=by
 unfold dG;rw[iE,if_pos h];exact⟨rfl,by show ((a.toNat+1:Nat):Int)=_;omega,by show ((dp.toNat:Nat):Int)=_;omega,rfl⟩
def b2F(t:List UInt8)(a dp:Int)(h0:0<=a)(h2:0<=dp)(h:ck t a.toNat=49):is4 (dG t a dp) (J.mk 2 0 []) (a+1) dp false:=by
 unfold dG;rw[iE,if_neg (by rw[h];decide),if_pos h];exact⟨rfl,by show ((a.toNat+1:Nat):Int)=_;omega,by show ((dp.toNat:Nat):Int)=_;omega,rfl⟩
def a2s(t:List UInt8)(a dp:Int)(h:ck t a.toNat=116\/ck t a.toNat=97):dG t a dp=lM t a.toNat dp.toNat:=by
 unfold dG;rw[iE,if_neg (by rcases h with h|h<;>rw[h]<;>decide),if_neg (by rcases h with h|h<;>rw[h]<;>decide),if_pos h]
def a9a(t:List UInt8)(a dp:Int)(h0:0<=a)(h1:a+1<=(t.length:Int))(h2:0<=dp)(h3:¬ 100<dp+1)(h:ck t a.toNat=126):is4 (dG t a dp) (J.mk 5 0 [(dG t (a+1) (dp+1)).e]) ((dG t (a+1) (dp+1)).a:Int) (((dG t (a+1) (dp+1)).dp:Int) - 1) (dG t (a+1) (dp+1)).bad:=by
 have hb:=Qf t (a+1) (dp+1) (by omega) (by omega) (by omega) (by omega);have e:dG t a dp=⟨J.mk 5 0 [(dG t (a+1) (dp+1)).e],(dG t (a+1) (dp+1)).a,(dG t (a+1) (dp+1)).dp - 1,(dG t (a+1) (dp+1)).bad⟩:=by
  unfold dG;obtain⟨g,hg⟩:∃ g,(100 - dp).toNat=g+1:=⟨(99 - dp).toNat,by omega⟩;rw[show (100 - (dp+1)).toNat=g by omega,show (a+1).toNat=a.toNat+1 by omega,show (dp+1).toNat=dp.toNat+1 by omega,hg];conv=>lhs;rw[iE]
  rw[b3R (by rw[h];decide),b3R (by rw[h];decide),b3R (by rw[h];decide),b4n h]
 rw[e];exact⟨rfl,rfl,by show (((dG t (a+1) (dp+1)).dp - 1:Nat):Int)=_;omega,rfl⟩
def a7J(t:List UInt8)(a dp:Int)(h0:0<=a)(h2:0<=dp)(h3:100<dp+1)(h:ck t a.toNat=126):is4 (dG t a dp) zX (a+1) (dp+1) true:=by
 unfold dG;rw[show (100 - dp).toNat=0 by omega,iE,if_neg (by rw[h];decide),if_neg (by rw[h];decide),if_neg (by rw[h];decide),if_pos h];exact⟨rfl,by show ((a.toNat+1:Nat):Int)=_;omega,by show ((dp.toNat+1:Nat):Int)=_;omega,rfl⟩
def a7K(t:List UInt8)(a dp:Int)(h0:0<=a)(h2:0<=dp)(h:¬ ck t a.toNat=48/\¬ ck t a.toNat=49/\¬ ck t a.toNat=116/\¬ ck t a.toNat=97/\¬ ck t a.toNat=126/\¬ ck t a.toNat=40):is4 (dG t a dp) zX a dp true:=by
 unfold dG;rw[iE,if_neg h.1,if_neg h.2.1,if_neg (by rintro (g|g);exact h.2.2.1 g;exact h.2.2.2.1 g),if_neg h.2.2.2.2.1,if_neg h.2.2.2.2.2];exact⟨rfl,by show ((a.toNat:Nat):Int)=_;omega,by show ((dp.toNat:Nat):Int)=_;omega,rfl⟩
def yE(t:List UInt8)(x:RS)(a:Int)(bad:Bool):RS:=gm t a (x.dp:Int) bad
def a0g(inner:Nat->Nat->RS)(t:List UInt8)(x:RS)(k:Int)(a:Nat)(bad:Bool)(hi:dV inner t a x.dp bad=yE t x (a:Int) bad) :
  is4 (DO inner t x k a bad) (J.mk k 0 [x.e,(yE t x (a:Int) bad).e]) ((dC t (yE t x (a:Int) bad).a 41:Nat):Int) ((yE t x (a:Int) bad).dp:Int) (fH t (yE t x (a:Int) bad).a 41 (yE t x (a:Int) bad).bad):=by
 unfold DO;rw[hi];exact⟨rfl,rfl,rfl,rfl⟩
def a7L(t:List UInt8)(a dp:Int)(h0:0<=a)(h1:a+1<=(t.length:Int))(h2:0<=dp)(h3:dp<=100)(h:ck t a.toNat=40)(X:RS)(hX:X=gm t (a+1) dp false) :
  (ck t (dC t X.a 32)=43->is4 (dG t a dp) (J.mk 6 0 [X.e,(yE t X ((dC t (dC t X.a 32+1) 32:Nat):Int) (fH t (dC t X.a 32+1) 32 (fH t X.a 32 X.bad))).e]) ((dC t (yE t X ((dC t (dC t X.a 32+1) 32:Nat):Int) (fH t (dC t X.a 32+1) 32 (fH t X.a 32 X.bad))).a 41:Nat):Int)
   ((yE t X ((dC t (dC t X.a 32+1) 32:Nat):Int) (fH t (dC t X.a 32+1) 32 (fH t X.a 32 X.bad))).dp:Int) (fH t (yE t X ((dC t (dC t X.a 32+1) 32:Nat):Int) (fH t (dC t X.a 32+1) 32 (fH t X.a 32 X.bad))).a 41 (yE t X ((dC t (dC t X.a 32+1) 32:Nat):Int) (fH t (dC t X.a 32+1) 32 (fH t X.a 32 X.bad))).bad)) /\
  (¬ ck t (dC t X.a 32)=43->is4 (dG t a dp) (J.mk 7 0 [X.e,(yE t X ((dC t X.a 32:Nat):Int) (fH t X.a 32 X.bad)).e]) ((dC t (yE t X ((dC t X.a 32:Nat):Int) (fH t X.a 32 X.bad)).a 41:Nat):Int)
   ((yE t X ((dC t X.a 32:Nat):Int) (fH t X.a 32 X.bad)).dp:Int) (fH t (yE t X ((dC t X.a 32:Nat):Int) (fH t X.a 32 X.bad)).a 41 (yE t X ((dC t X.a 32:Nat):Int) (fH t X.a 32 X.bad)).bad)):=by
 have key:∃ inner:Nat->Nat->RS,dG t a dp=yo inner t X/\∀ (a:Nat) (bad:Bool),(bad=false->X.bad=false)->dV inner t a X.dp bad=yE t X (a:Int) bad:=by
  have hXd:X.bad=false->X.dp=dp.toNat:=by
   intro hb;rw[hX] at hb ⊢;exact ((sR (cC t (99 - dp).toNat) t (a+1).toNat dp.toNat false (λ h=>Gb t _ _ _ (by omega))).ex hb).1
  by_cases hd:dp<100
  .obtain⟨g,hg⟩:∃ g,(100 - dp).toNat=g+1:=⟨(99 - dp).toNat,by omega⟩;refine⟨cC t g,?_,λ a' bad hb=>?_⟩
   .have eX:X=dV (cC t g) t (a.toNat+1) dp.toNat false:=by
     rw[hX,gm,show (99 - dp).toNat=g by omega,show (a+1).toNat=a.toNat+1 by omega]
    unfold dG;rw[hg];conv=>lhs;rw[iE]
    rw[b3R (by rw[h];decide),b3R (by rw[h];decide),b3R (by rw[h];decide),b3R (by rw[h];decide),b4n h,eX]
   .unfold yE gm;rw[Int.toNat_natCast,Int.toNat_natCast];cases bad with
    | true=>rfl
    | false=>rw[hXd (hb rfl),show (99 - (dp.toNat:Int)).toNat=g by omega]
  .have hz:(100 - dp).toNat=0:=by omega
   refine⟨λ _ _=>⟨zX,0,0,true⟩,?_,λ a' bad hb=>?_⟩
   .have eX:X=dV (λ _ _=>⟨zX,0,0,true⟩) t (a.toNat+1) dp.toNat false:=by
     rw[hX,gm,show (a+1).toNat=a.toNat+1 by omega];unfold dV;rw[if_pos (.inr (by omega)),if_pos (.inr (by omega))]
    unfold dG;rw[hz];conv=>lhs;rw[iE]
    rw[b3R (by rw[h];decide),b3R (by rw[h];decide),b3R (by rw[h];decide),b3R (by rw[h];decide),b4n h,eX]
   .have hlo:dp.toNat<=X.dp:=by
     have:=VF t (a+1) dp false (by omega) (by omega) h2;rw[<-hX] at this;omega
    unfold yE gm;rw[Int.toNat_natCast,Int.toNat_natCast];unfold dV;rw[if_pos (.inr (by omega)),if_pos (.inr (by omega))]
 obtain⟨inner,k1,k2⟩:=key;rw[k1];unfold yo;refine⟨λ hp=>?_,λ hp=>?_⟩
 .rw[b4n hp];exact a0g inner t X 6 _ _ (k2 _ _ λ hb=>Fk t _ _ _ (Fk t _ _ _ hb))
 .rw[b3R hp];exact a0g inner t X 7 _ _ (k2 _ _ λ hb=>Fk t _ _ _ hb)
def Wp:∀ (l:List UInt8) (k:Nat),k<=oF l->(k<oF l↔∃ b r,l.drop k=b::r/\fD b=true)
 | [],k,h=>by simp[oF]
 | b::l,k,h=>by
  unfold oF at h ⊢;split at h
  .rename_i e;rw[b4n e];cases k with
   | zero=>exact⟨λ _=>⟨b,l,rfl,e⟩,λ _=>by omega⟩
   | succ k =>
    have:=Wp l k (by omega);rw[b6q,<-this];omega
  .rename_i e;rw[b3R e];have hk:k=0:=by omega
   subst hk;refine⟨λ h=>by omega,λ ⟨c,r,hr,hc⟩=>?_⟩;simp only[b5O,b3O] at hr;rw[hr.1] at e;exact absurd hc e
def a9j(t:List UInt8)(n k:Nat)(h:k<=oF (t.drop n)):(48<=ck t (n+k)/\ck t (n+k)<=57)↔k<oF (t.drop n):=by
 rw[Wp _ k h,b5p];constructor
 .intro hp;have hl:=uV t (n+k) (by omega);refine⟨t.getD (n+k) 0,t.drop (n+k+1),?_,?_⟩
  .rw[b5r hl,b3V,b4j hl];rfl
  .unfold ck at hp;rw[if_pos hl] at hp;unfold fD;rw[decide_eq_true (by omega),decide_eq_true (by omega)];rfl
 .rintro⟨b,r,h1,h2⟩;rw[fV h1];simp only[fD,b3J,b3E] at h2;omega
def nD(t:List UInt8)(a:Int):Nat:=oF (t.drop (a+1).toNat)
def b1c(t:List UInt8)(a:Int)(k:Nat)(h0:0<=a)(h:k<=nD t a):(48<=ck t (a+1+(k:Int)).toNat/\ck t (a+1+(k:Int)).toNat<=57)↔k<nD t a:=by
 rw[show (a+1+(k:Int)).toNat=(a+1).toNat+k by omega];exact a9j t _ k h
def b0X(t:List UInt8)(a:Int)(h0:0<=a)(h1:a+1<=(t.length:Int)):a+1+(nD t a:Int)<=(t.length:Int):=by
 have:=Wo (t.drop (a+1).toNat);simp only[List.length_drop] at this;unfold nD;omega
def nmE(t:List UInt8)(a:Int):List UInt8:=(t.drop (a+1).toNat).take (nD t a)
def nmK(t:List UInt8)(a:Int):Int:=if ck t a.toNat=97 then 4 else 3
def b0Z(t:List UInt8)(a:Int)(h:ck t a.toNat=97):nmK t a=4:=b4n h
def b0Y(t:List UInt8)(a:Int)(h:¬ ck t a.toNat=97):nmK t a=3:=b3R h
def XT(t:List UInt8)(a dp:Int)(h0:0<=a)(h2:0<=dp):is4 (lM t a.toNat dp.toNat) (J.mk (nmK t a) (jY 9 (nmE t a)) []) (a+1+(nD t a:Int)) dp (!mW 9 (nmE t a)):=by
 unfold lM nmE X0 nD;rw[show (a+1).toNat=a.toNat+1 by omega];exact⟨rfl,by show ((a.toNat+1+oF (t.drop (a.toNat+1)):Nat):Int)=_;omega,by show ((dp.toNat:Nat):Int)=_;omega,rfl⟩
def VM(t:List UInt8)(a:Int)(k:Nat)(h0:0<=a)(h:k=nD t a):(t.take (Int.toNat (a+1+(k:Int)))).drop (Int.toNat (a+1))=nmE t a:=by
 rw[List.drop_take];unfold nmE;congr 1;omega
def a9q(t:List UInt8)(r:RS)(h:r.bad=true):sE t r=0:=by unfold sE;rw[if_pos h]
def b1i(t:List UInt8)(r:RS)(m:Nat)(h:r.bad=false)(hm:m<=sE t r):ck t ((r.a:Int)+(m:Int)).toNat=42↔m<sE t r:=by
 have e:sE t r=cJ 42 (t.drop r.a):=by unfold sE;rw[h];rfl
 rw[e] at hm ⊢;rw[show ((r.a:Int)+(m:Int)).toNat=r.a+m by omega];have key:∀ (l:List UInt8) (k:Nat),k<=cJ 42 l->(k<cJ 42 l↔∃ r,l.drop k=42::r):=by
  intro l;induction l with
  | nil=>intro k h;simp[cJ]
  | cons b l ih =>
   intro k h;unfold cJ at h ⊢;split at h
   .rename_i e;rw[b4n e];cases k with
    | zero=>exact⟨λ _=>⟨l,by rw[e];rfl⟩,λ _=>by omega⟩
    | succ k =>
     have:=ih k (by omega);rw[b6q,<-this];omega
   .rename_i e;rw[b3R e];have hk:k=0:=by omega
    subst hk;refine⟨λ h=>by omega,λ ⟨r,hr⟩=>?_⟩;simp only[b5O,b3O] at hr;exact absurd hr.1 e
 rw[key _ m hm,b5p];constructor
 .intro hp;exact wv t _ 42 (by decide) hp
 .rintro⟨r,hr⟩;exact fV hr
def b2T(t:List UInt8)(a c:Int)(h0:0<=a)(h:ck t a.toNat=c):((dC t a.toNat c:Nat):Int)=a+1/\fH t a.toNat c false=false:=by
 unfold dC fH;rw[if_pos h,if_pos h];exact⟨by omega,rfl⟩
def dm:fL:=⟨kM,[[.d .str, .d (.int .i64), .d (.int .i64), .d .bool]],[.b 0],[[.str,(.int .i64),(.int .i64), .bool]],λ (t:List UInt8) (a:Int) (dp:Int) (bad:Bool)=>⟨(some (0<=a/\a<=(t.length:Int)/\t.length<=10000),[⟨(.int .u8),ck t a.toNat⟩],[[⟨.str,t⟩,⟨(.int .i64),a⟩,⟨(.int .i64),dp⟩,⟨.bool,bad⟩]])⟩⟩
def E6(t:List UInt8)(a:Int)(dp:Int)(bad:Bool):Nat->aE:=λ _ => .none
def DL(hE:aC [])(hO:cO [])(hM:cT [])(hS:cR []):fL.Good dm:=by
 refine⟨au qm rfl (by decide),?_⟩;show ∀ (t:List UInt8) (a:Int) (dp:Int) (bad:Bool),(0<=a/\a<=(t.length:Int)/\t.length<=10000)->qI prog kM [[.d .str, .d (.int .i64), .d (.int .i64), .d .bool]] [.box 0] [[⟨.str,t⟩,⟨(.int .i64),a⟩,⟨(.int .i64),dp⟩,⟨.bool,bad⟩]] [⟨(.int .u8),ck t a.toNat⟩] [[⟨.str,t⟩,⟨(.int .i64),a⟩,⟨(.int .i64),dp⟩,⟨.bool,bad⟩]];intro t a dp bad hp;refine ig (own:=[]) (wr:=[]) (cl:=[]) (ro:=[]) hE hO hM hS qm BJ (E6 t a dp bad) rfl rfl (let v0:=(t=t/\(a=a/\(dp=dp/\bad=bad)))/\True;let v1:=decide (a<((t.length:Int)));((O a->(t.length<=140737488355328->(O ((t.length:Int))->((v1=true->(t.length<=140737488355328->(O a->(ak a t.length/\((((t.getD (Int.toNat a) 0).toNat:Int))=(ck t a.toNat)/\v0)))))/\(v1=false->((0:Int)=(ck t a.toNat)/\v0)))))))) (by kernel_rfl) ?_;refine λ _ _ _=>⟨λ _ _ _=>⟨?_,?_,⟨rfl,rfl,rfl,rfl⟩,U⟩,λ _=>⟨?_,⟨rfl,rfl,rfl,rfl⟩,U⟩⟩;all_goals try and_intros
 all_goals first|rfl|trivial|omega|(simp only[decide_eq_true_eq,decide_eq_false_iff_not,ak,O] at *;first|omega|grind [ck,dC,fH])
def dO:fL.Good dm:=DL trivial trivial trivial trivial
def jB:fL:=⟨kN,[[.d .str, .d (.int .i64), .d (.int .i64), .d .bool]],[.b 0, .v (.int .u8)],[[.str,(.int .i64),(.int .i64), .bool]],λ (b:Int) (t:List UInt8) (a:Int) (dp:Int) (bad:Bool)=>⟨(some (0<=a/\a<=(t.length:Int)/\t.length<=10000),[],[[⟨.str,t⟩,⟨(.int .i64),((dC t a.toNat b:Nat):Int)⟩,⟨(.int .i64),dp⟩,⟨.bool,fH t a.toNat b bad⟩]])⟩⟩
def E7(b:Int)(t:List UInt8)(a:Int)(dp:Int)(bad:Bool):Nat->aE:=λ _ => .none
def DM(hE:aC [])(hO:cO [])(hM:cT [])(hS:cR [dm]):fL.Good jB:=by
 refine⟨au qn rfl (by decide),?_⟩;show ∀ (b:Int) (t:List UInt8) (a:Int) (dp:Int) (bad:Bool),(0<=a/\a<=(t.length:Int)/\t.length<=10000)->qI prog kN [[.d .str, .d (.int .i64), .d (.int .i64), .d .bool]] [.box 0, .val ⟨(.int .u8),b⟩] [[⟨.str,t⟩,⟨(.int .i64),a⟩,⟨(.int .i64),dp⟩,⟨.bool,bad⟩]] [] [[⟨.str,t⟩,⟨(.int .i64),((dC t a.toNat b:Nat):Int)⟩,⟨(.int .i64),dp⟩,⟨.bool,fH t a.toNat b bad⟩]];intro b t a dp bad hp;refine ig (own:=[]) (wr:=[]) (cl:=[]) (ro:=[]) hE hO hM hS qn BK (E7 b t a dp bad) rfl rfl (let v0 := !(decide ((ck t a.toNat)=b));let v1:=((dC t a.toNat b:Nat):Int);(((0<=a/\a<=(t.length:Int)/\t.length<=10000)/\((v0=true->(True/\((t=t/\(a=v1/\(dp=dp/\true=(fH t a.toNat b bad))))/\True)))/\(v0=false->(O a->(O (a+(1:Int))/\(True/\((t=t/\((a+(1:Int))=v1/\(dp=dp/\bad=(fH t a.toNat b bad))))/\True))))))))) (by kernel_rfl) ?_;obtain⟨h0,h1,h2⟩:=hp;by_cases h:ck t a.toNat=b
 .have e1:((dC t a.toNat b:Nat):Int)=a+1:=by unfold dC;rw[if_pos h];omega
  have e2:fH t a.toNat b bad=bad:=by unfold fH;rw[if_pos h]
  simp only[e1,e2,h,b4t,b4o,b3K,b3I,b3M,b3L,b4c,b4d,b4k,b4p,O];repeat' (first|intro _|apply And.intro)
  all_goals first|trivial|omega
 .have e1:((dC t a.toNat b:Nat):Int)=a:=by unfold dC;rw[if_neg h];omega
  have e2:fH t a.toNat b bad=true:=by unfold fH;rw[if_neg h]
  simp only[e1,e2,h,b4t,b4o,b3K,b3I,b3M,b3L,b4c,b4d,b4k,b4p,O];repeat' (first|intro _|apply And.intro)
  all_goals first|trivial|omega
def Bp:fL.Good jB:=DM trivial trivial trivial ⟨dO,U⟩
def jA:fL:=⟨kK,[[.d .str, .d (.int .i64), .d (.int .i64), .d .bool]],[.b 0],[[.str,(.int .i64),(.int .i64), .bool]],λ (t:List UInt8) (a:Int) (dp:Int) (bad:Bool)=>⟨(some (0<=a/\a<=(t.length:Int)/\t.length<=10000/\0<=dp/\(ck t a.toNat=116\/ck t a.toNat=97)/\bad=false),[⟨(.st .expr),(lM t a.toNat dp.toNat).e⟩],[[⟨.str,t⟩,⟨(.int .i64),((lM t a.toNat dp.toNat).a:Int)⟩,⟨(.int .i64),dp⟩,⟨.bool,(lM t a.toNat dp.toNat).bad⟩]])⟩⟩
def E4(t:List UInt8)(a:Int)(dp:Int)(bad:Bool):Nat->aE:=(λ zb=>if Nat.beq zb 0 then .mk (Nat) (λ k=>k<=nD t a) (λ k=>nD t a - k) [] [7,8,9,10,11,12,13,14,15,16,17,18,19,20,21,22] (λ k=>[(4, .aI ⟨(.int .i64),(a+1:Int)⟩)]) [2] (λ k=>[(400000, .box [.aI ⟨.str,(t:List UInt8)⟩, .aI ⟨(.int .i64),(a+1+(k:Int):Int)⟩, .aI ⟨(.int .i64),(dp:Int)⟩, .aI ⟨.bool,(bad:Bool)⟩]),(3, .box [.aI ⟨(.int .i64),(nmK t a:Int)⟩, .aI ⟨(.int .i64),((0:Int):Int)⟩, .nil])]) [] [] (λ k=>λ _ => .none) else .none)
def DJ(hE:aC [rL])(hO:cO [])(hM:cT [])(hS:cR [dm]):fL.Good jA:=by
 refine⟨au ql rfl (by decide),?_⟩;show ∀ (t:List UInt8) (a:Int) (dp:Int) (bad:Bool),(0<=a/\a<=(t.length:Int)/\t.length<=10000/\0<=dp/\(ck t a.toNat=116\/ck t a.toNat=97)/\bad=false)->qI prog kK [[.d .str, .d (.int .i64), .d (.int .i64), .d .bool]] [.box 0] [[⟨.str,t⟩,⟨(.int .i64),a⟩,⟨(.int .i64),dp⟩,⟨.bool,bad⟩]] [⟨(.st .expr),(lM t a.toNat dp.toNat).e⟩] [[⟨.str,t⟩,⟨(.int .i64),((lM t a.toNat dp.toNat).a:Int)⟩,⟨(.int .i64),dp⟩,⟨.bool,(lM t a.toNat dp.toNat).bad⟩]];intro t a dp bad hp;refine ig (own:=[]) (wr:=[]) (cl:=[]) (ro:=[]) hE hO hM hS ql BH (E4 t a dp bad) rfl rfl (let v0:=lM t a.toNat dp.toNat;let v2:=Int.toNat (a+1);let v3:=(0:Int)=(0:Int)/\(True/\True);let v4:=True/\(True/\(True/\((a+1)=(a+1)/\True)));let v5:=dp=dp/\(bad=bad/\True);let v6:=(1:Int);let v7:=dp=dp/\true=(v0.bad);let v8:=((0:Int)=(0:Int)/\v3)/\True;let v9:=nmK t a;let v1:=(v9=v9/\v3)/\v8;let va:=(v0.a:Int);let vc:=(t.length:Int);let vd:=decide ((ck t a.toNat)=(97:Int));let ve:=a+v6;let vb:=True/\(True/\(True/\(ve=(a+1)/\True)));(((0<=a/\a<=vc/\t.length<=10000)/\((vd=true->(O a->(O ve/\(O ve->((∃ k1:Nat,(k1<=nD t a/\(vb/\((t=t/\(ve=(a+1+(k1:Int))/\v5))/\(((4:Int)=v9/\v3)/\v8)))))/\(∀ k1:Nat,let vf:=a+1+(k1:Int);let vg:=(t.take (Int.toNat vf)).drop v2;let vh:=(J.mk v9 (jY 9 vg) [])=(v0.e)/\((t=t/\(vf=va/\(dp=dp/\(!(mW 9 vg))=(v0.bad))))/\True);let vi:=(J.mk v9 (jY 9 vg) [])=(v0.e)/\((t=t/\(vf=va/\v7))/\True);let vj:=0<=vf/\vf<=vc/\t.length<=10000;let vk:=decide ((48:Int)<=(ck t vf.toNat));let vl:=decide ((ck t vf.toNat)<=(57:Int));(k1<=nD t a->(vj/\((vk=true->(vj/\((vl=true->(O vf->(O (vf+v6)/\(∃ k2:Nat,(k2<=nD t a/\(nD t a - k2<nD t a - k1/\(v4/\((t=t/\((vf+v6)=(a+1+(k2:Int))/\v5))/\v1))))))))/\(vl=false->(cw (a+1) vf t.length/\(t.length<=140737488355328->(O vf->(O (jY 9 vg)->((bad=false->vh)/\(bad=(!false)->vi))))))))))/\(vk=(!true)->((false=true->(O vf->(O (vf+v6)/\(∃ k2:Nat,(k2<=nD t a/\(nD t a - k2<nD t a - k1/\(v4/\((t=t/\((vf+v6)=(a+1+(k2:Int))/\v5))/\v1))))))))/\(false=false->(cw (a+1) vf t.length/\(t.length<=140737488355328->(O vf->(O (jY 9 vg)->((bad=false->vh)/\(bad=(!false)->vi))))))))))))))))))/\(vd=false->(O a->(O ve/\(O ve->((∃ k1:Nat,(k1<=nD t a/\(vb/\((t=t/\(ve=(a+1+(k1:Int))/\v5))/\(((3:Int)=v9/\v3)/\v8)))))/\(∀ k1:Nat,let vf:=a+1+(k1:Int);let vg:=(t.take (Int.toNat vf)).drop v2;let vh:=(J.mk v9 (jY 9 vg) [])=(v0.e)/\((t=t/\(vf=va/\(dp=dp/\(!(mW 9 vg))=(v0.bad))))/\True);let vi:=(J.mk v9 (jY 9 vg) [])=(v0.e)/\((t=t/\(vf=va/\v7))/\True);let vj:=0<=vf/\vf<=vc/\t.length<=10000;let vk:=decide ((48:Int)<=(ck t vf.toNat));let vl:=decide ((ck t vf.toNat)<=(57:Int));(k1<=nD t a->(vj/\((vk=true->(vj/\((vl=true->(O vf->(O (vf+v6)/\(∃ k2:Nat,(k2<=nD t a/\(nD t a - k2<nD t a - k1/\(v4/\((t=t/\((vf+v6)=(a+1+(k2:Int))/\v5))/\v1))))))))/\(vl=false->(cw (a+1) vf t.length/\(t.length<=140737488355328->(O vf->(O (jY 9 vg)->((bad=false->vh)/\(bad=(!false)->vi))))))))))/\(vk=(!true)->((false=true->(O vf->(O (vf+v6)/\(∃ k2:Nat,(k2<=nD t a/\(nD t a - k2<nD t a - k1/\(v4/\((t=t/\((vf+v6)=(a+1+(k2:Int))/\v5))/\v1))))))))/\(false=false->(cw (a+1) vf t.length/\(t.length<=140737488355328->(O vf->(O (jY 9 vg)->((bad=false->vh)/\(bad=(!false)->vi)))))))))))))))))))))) (by kernel_rfl) ?_;obtain⟨h0,h1,h2,h3,h4,h5⟩:=hp;subst h5;have l0:=uV t a.toNat (by omega);obtain⟨q1,q2,q3,q4⟩:=XT t a dp h0 h3;have z:=λ k h=>b1c t a k h0 h;have b:=b0X t a h0 (by omega);simp only[q1,q2,q4,cw,b4t,b4o,b3K,b3I,b3M,b3L,b4c,b4d,b4k,b4p,b3T,b4E,b3W,O,aK];repeat' (first|intro _|apply And.intro)
 all_goals (try simp only[b3E,b3D] at *)
 all_goals first|exact True.intro|omega|with_reducible rfl|exact⟨0,b4O _,by omega,(b0Z t a (by omega)).symm⟩|exact⟨0,b4O _,by omega,(b0Y t a (by omega)).symm⟩|(rename_i k1 _ _ _ _;have g:=z k1 (by assumption);first|omega|exact⟨k1+1,by omega,by omega,by omega⟩|rw[VM t a k1 h0 (by omega)])|(rename_i k1 _ _ _ _ _;have g:=z k1 (by assumption);first|omega|exact⟨k1+1,by omega,by omega,by omega⟩|rw[VM t a k1 h0 (by omega)])|(rename_i k1 _ _ _ _ _ _;have g:=z k1 (by assumption);first|omega|exact⟨k1+1,by omega,by omega,by omega⟩|rw[VM t a k1 h0 (by omega)])|(rename_i k1 _ _ _ _ _ _ _;have g:=z k1 (by assumption);first|omega|exact⟨k1+1,by omega,by omega,by omega⟩|rw[VM t a k1 h0 (by omega)])
def Bo:fL.Good jA:=DJ ⟨IX,U⟩ trivial trivial ⟨dO,U⟩
def fw(n:Nat):fL:=⟨jK,[[.d .str, .d (.int .i64), .d (.int .i64), .d .bool]],[.b 0],[[.str,(.int .i64),(.int .i64), .bool]],λ (t:List UInt8) (a:Int) (dp:Int) (bad:Bool)=>⟨(some (3 * (101 - dp).toNat+2<n/\0<=a/\a<=(t.length:Int)/\t.length<=10000/\0<=dp/\dp<=100/\bad=false),[⟨(.st .expr),(dG t a dp).e⟩],[[⟨.str,t⟩,⟨(.int .i64),((dG t a dp).a:Int)⟩,⟨(.int .i64),((dG t a dp).dp:Int)⟩,⟨.bool,(dG t a dp).bad⟩]])⟩⟩
def ja(n:Nat):fL:=⟨kL,[[.d .str, .d (.int .i64), .d (.int .i64), .d .bool]],[.b 0],[[.str,(.int .i64),(.int .i64), .bool]],λ (t:List UInt8) (a:Int) (dp:Int) (bad:Bool)=>⟨(some (3 * (101 - dp).toNat+1<n/\0<=a/\a<=(t.length:Int)/\t.length<=10000/\0<=dp/\dp<=100/\bad=false/\ck t a.toNat=40),[⟨(.st .expr),(dG t a dp).e⟩],[[⟨.str,t⟩,⟨(.int .i64),((dG t a dp).a:Int)⟩,⟨(.int .i64),((dG t a dp).dp:Int)⟩,⟨.bool,(dG t a dp).bad⟩]])⟩⟩
def iZ(n:Nat):fL:=⟨gD,[[.d .str, .d (.int .i64), .d (.int .i64), .d .bool]],[.b 0],[[.str,(.int .i64),(.int .i64), .bool]],λ (t:List UInt8) (a:Int) (dp:Int) (bad:Bool)=>⟨(some (3 * (101 - dp).toNat<n/\0<=a/\a<=(t.length:Int)/\t.length<=10000/\0<=dp/\dp<=1000),[⟨(.st .expr),(gm t a dp bad).e⟩],[[⟨.str,t⟩,⟨(.int .i64),((gm t a dp bad).a:Int)⟩,⟨(.int .i64),((gm t a dp bad).dp:Int)⟩,⟨.bool,(gm t a dp bad).bad⟩]])⟩⟩
def qx:fL:=⟨gD,[[.d .str, .d (.int .i64), .d (.int .i64), .d .bool]],[.b 0],[[.str,(.int .i64),(.int .i64), .bool]],λ (t:List UInt8) (a:Int) (dp:Int) (bad:Bool)=>⟨(some (0<=a/\a<=(t.length:Int)/\t.length<=10000/\0<=dp/\dp<=1000),[⟨(.st .expr),(gm t a dp bad).e⟩],[[⟨.str,t⟩,⟨(.int .i64),((gm t a dp bad).a:Int)⟩,⟨(.int .i64),((gm t a dp bad).dp:Int)⟩,⟨.bool,(gm t a dp bad).bad⟩]])⟩⟩
def DA(t:List UInt8)(a:Int)(dp:Int)(bad:Bool):Nat->aE:=λ _ => .none
def BR(n:Nat)(hE:aC [])(hO:cO [])(hM:cT [])(hS:cR [dm,jA,ja n,fw n]):fL.Good (fw (n+1)):=by
 refine⟨au iS rfl (by decide),?_⟩;show ∀ (t:List UInt8) (a:Int) (dp:Int) (bad:Bool),(3 * (101 - dp).toNat+2<n+1/\0<=a/\a<=(t.length:Int)/\t.length<=10000/\0<=dp/\dp<=100/\bad=false)->qI prog jK [[.d .str, .d (.int .i64), .d (.int .i64), .d .bool]] [.box 0] [[⟨.str,t⟩,⟨(.int .i64),a⟩,⟨(.int .i64),dp⟩,⟨.bool,bad⟩]] [⟨(.st .expr),(dG t a dp).e⟩] [[⟨.str,t⟩,⟨(.int .i64),((dG t a dp).a:Int)⟩,⟨(.int .i64),((dG t a dp).dp:Int)⟩,⟨.bool,(dG t a dp).bad⟩]];intro t a dp bad hp;refine ig (own:=[30,57,66,71]) (wr:=[]) (cl:=[]) (ro:=[]) hE hO hM hS iS zP (DA t a dp bad) rfl rfl (let v0:=dG t a dp;let v3:=dp+(1:Int);let v4:=a+(1:Int);let v6:=ck t a.toNat;let vb:=decide (v6=(116:Int));let vc:=decide (v6=(126:Int));let vd:=decide ((100:Int)<v3);let vf:=decide (v6=(40:Int));let vg:=(v0.dp:Int);let vh:=(v0.a:Int);let vi:=(t.length:Int);let v7:=3 * (101 - v3).toNat+2<n/\0<=v4/\v4<=vi/\t.length<=10000/\0<=v3/\v3<=100/\bad=false;let vj:=lM t a.toNat dp.toNat;let vk:=dG t v4 v3;let ve:=(vk.dp:Int);let vl:=v0.bad;let v1:=O (ve - (1:Int))/\((J.mk (5:Int) (0:Int) ([(aJ (vk.e))]))=(v0.e)/\((t=t/\(((vk.a:Int))=vh/\((ve - (1:Int))=vg/\(vk.bad)=vl)))/\True));let v2:=(3 * (101 - dp).toNat+1<n/\0<=a/\a<=vi/\t.length<=10000/\0<=dp/\dp<=100/\bad=false/\ck t a.toNat=40)/\((aJ (v0.e))=(v0.e)/\((t=t/\((vh)=vh/\((vg)=vg/\vl=vl)))/\True));let v5:=(aJ (vj.e))=(v0.e)/\((t=t/\(((vj.a:Int))=vh/\(dp=vg/\(vj.bad)=vl)))/\True);let v8:=zE=(v0.e)/\((t=t/\(v4=vh/\(v3=vg/\true=vl)))/\True);let v9:=zE=(v0.e)/\((t=t/\(a=vh/\(dp=vg/\true=vl)))/\True);let va:=(t=t/\(v4=vh/\(dp=vg/\bad=vl)))/\True;(((0<=a/\a<=vi/\t.length<=10000)/\(((decide (v6=(48:Int)))=true->(O a->(O v4/\((J.mk (1:Int) (0:Int) [])=(v0.e)/\va))))/\((decide (v6=(48:Int)))=false->(((decide (v6=(49:Int)))=true->(O a->(O v4/\((J.mk (2:Int) (0:Int) [])=(v0.e)/\va))))/\((decide (v6=(49:Int)))=false->((vb=true->((vb=true->((0<=a/\a<=vi/\t.length<=10000/\0<=dp/\(ck t a.toNat=116\/ck t a.toNat=97)/\bad=false)/\v5))/\(vb=false->((vc=true->(O a->(O v4/\(O dp->(O v3/\(O v3->((vd=true->v8)/\(vd=false->(v7/\(O ve->v1))))))))))/\(vc=false->((vf=true->v2)/\(vf=false->v9)))))))/\(vb=false->(((decide (v6=(97:Int)))=true->((0<=a/\a<=vi/\t.length<=10000/\0<=dp/\(ck t a.toNat=116\/ck t a.toNat=97)/\bad=false)/\v5))/\((decide (v6=(97:Int)))=false->((vc=true->(O a->(O v4/\(O dp->(O v3/\(O v3->((vd=true->v8)/\(vd=false->(v7/\(O ve->v1))))))))))/\(vc=false->((vf=true->v2)/\(vf=false->v9))))))))))))))) (by kernel_rfl) ?_;obtain⟨hm,h0,h1,h2,h3,h4,h5⟩:=hp;subst h5;by_cases Dh:ck t a.toNat=48
 .have l0:=uV t a.toNat (by rw[Dh];decide);obtain⟨q1,q2,q3,q4⟩:=b2E t a dp h0 h3 Dh;simp only[b4l Dh,(b3Q (by omega):decide (ck t a.toNat=(49:Int))=false),(b3Q (by omega):decide (ck t a.toNat=(116:Int))=false),(b3Q (by omega):decide (ck t a.toNat=(97:Int))=false),(b3Q (by omega):decide (ck t a.toNat=(126:Int))=false),(b3Q (by omega):decide (ck t a.toNat=(40:Int))=false),q1,q2,q3,q4,b4t,b4o,b3K,b3I,b3M,b3L,b4c,b4d,b4k,b4p,b3T,b4E,b3W,O,aK];repeat' (first|intro _|apply And.intro)
  all_goals first|exact True.intro|omega|with_reducible rfl
 .by_cases FR:ck t a.toNat=49
  .have l0:=uV t a.toNat (by rw[FR];decide);obtain⟨q1,q2,q3,q4⟩:=b2F t a dp h0 h3 FR;simp only[(b3Q (by omega):decide (ck t a.toNat=(48:Int))=false),b4l FR,(b3Q (by omega):decide (ck t a.toNat=(116:Int))=false),(b3Q (by omega):decide (ck t a.toNat=(97:Int))=false),(b3Q (by omega):decide (ck t a.toNat=(126:Int))=false),(b3Q (by omega):decide (ck t a.toNat=(40:Int))=false),q1,q2,q3,q4,b4t,b4o,b3K,b3I,b3M,b3L,b4c,b4d,b4k,b4p,b3T,b4E,b3W,O,aK];repeat' (first|intro _|apply And.intro)
   all_goals first|exact True.intro|omega|with_reducible rfl
  .by_cases yH:ck t a.toNat=116
   .obtain⟨q1,q2,q3,q4⟩:=XT t a dp h0 h3;simp only[a2s t a dp (.inl yH),(b3Q (by omega):decide (ck t a.toNat=(48:Int))=false),(b3Q (by omega):decide (ck t a.toNat=(49:Int))=false),b4l yH,(b3Q (by omega):decide (ck t a.toNat=(97:Int))=false),(b3Q (by omega):decide (ck t a.toNat=(126:Int))=false),(b3Q (by omega):decide (ck t a.toNat=(40:Int))=false),q3,b4t,b4o,b3K,b3I,b3M,b3L,b4c,b4d,b4k,b4p,b3T,b4E,b3W,O,aK];repeat' (first|intro _|apply And.intro)
    all_goals first|exact True.intro|omega|with_reducible rfl
   .by_cases Pw:ck t a.toNat=97
    .obtain⟨q1,q2,q3,q4⟩:=XT t a dp h0 h3;simp only[a2s t a dp (.inr Pw),(b3Q (by omega):decide (ck t a.toNat=(48:Int))=false),(b3Q (by omega):decide (ck t a.toNat=(49:Int))=false),(b3Q (by omega):decide (ck t a.toNat=(116:Int))=false),b4l Pw,(b3Q (by omega):decide (ck t a.toNat=(126:Int))=false),(b3Q (by omega):decide (ck t a.toNat=(40:Int))=false),q3,b4t,b4o,b3K,b3I,b3M,b3L,b4c,b4d,b4k,b4p,b3T,b4E,b3W,O,aK];repeat' (first|intro _|apply And.intro)
     all_goals first|exact True.intro|omega|with_reducible rfl
    .by_cases ZG:ck t a.toNat=126
     .have l0:=uV t a.toNat (by rw[ZG];decide);by_cases hd:100<dp+1
      .obtain⟨q1,q2,q3,q4⟩:=a7J t a dp h0 h3 hd ZG;simp only[hd,(b3Q (by omega):decide (ck t a.toNat=(48:Int))=false),(b3Q (by omega):decide (ck t a.toNat=(49:Int))=false),(b3Q (by omega):decide (ck t a.toNat=(116:Int))=false),(b3Q (by omega):decide (ck t a.toNat=(97:Int))=false),b4l ZG,(b3Q (by omega):decide (ck t a.toNat=(40:Int))=false),q1,q2,q3,q4,b4t,b4o,b3K,b3I,b3M,b3L,b4c,b4d,b4k,b4p,b3T,b4E,b3W,O,aK];repeat' (first|intro _|apply And.intro)
       all_goals first|exact True.intro|omega|with_reducible rfl
      .obtain⟨q1,q2,q3,q4⟩:=a9a t a dp h0 (by omega) h3 hd ZG;have b1:=Qf t (a+1) (dp+1) (by omega) (by omega) (by omega) (by omega);simp only[hd,(b3Q (by omega):decide (ck t a.toNat=(48:Int))=false),(b3Q (by omega):decide (ck t a.toNat=(49:Int))=false),(b3Q (by omega):decide (ck t a.toNat=(116:Int))=false),(b3Q (by omega):decide (ck t a.toNat=(97:Int))=false),b4l ZG,(b3Q (by omega):decide (ck t a.toNat=(40:Int))=false),q1,q2,q3,q4,b4t,b4o,b3K,b3I,b3M,b3L,b4c,b4d,b4k,b4p,b3T,b4E,b3W,O,aK];repeat' (first|intro _|apply And.intro)
       all_goals first|exact True.intro|omega|with_reducible rfl
     .by_cases Ww:ck t a.toNat=40
      .simp only[(b3Q (by omega):decide (ck t a.toNat=(48:Int))=false),(b3Q (by omega):decide (ck t a.toNat=(49:Int))=false),(b3Q (by omega):decide (ck t a.toNat=(116:Int))=false),(b3Q (by omega):decide (ck t a.toNat=(97:Int))=false),(b3Q (by omega):decide (ck t a.toNat=(126:Int))=false),b4l Ww,b4t,b4o,b3K,b3I,b3M,b3L,b4c,b4d,b4k,b4p,b3T,b4E,b3W,O,aK];repeat' (first|intro _|apply And.intro)
       all_goals first|exact True.intro|omega|with_reducible rfl
      .obtain⟨q1,q2,q3,q4⟩:=a7K t a dp h0 h3 ⟨Dh,FR,yH,Pw,ZG,Ww⟩;simp only[(b3Q (by omega):decide (ck t a.toNat=(48:Int))=false),(b3Q (by omega):decide (ck t a.toNat=(49:Int))=false),(b3Q (by omega):decide (ck t a.toNat=(116:Int))=false),(b3Q (by omega):decide (ck t a.toNat=(97:Int))=false),(b3Q (by omega):decide (ck t a.toNat=(126:Int))=false),(b3Q (by omega):decide (ck t a.toNat=(40:Int))=false),q1,q2,q3,q4,b4t,b4o,b3K,b3I,b3M,b3L,b4c,b4d,b4k,b4p,b3T,b4E,b3W,O,aK];repeat' (first|intro _|apply And.intro)
       all_goals first|exact True.intro|omega|with_reducible rfl
def E5(t:List UInt8)(a:Int)(dp:Int)(bad:Bool):Nat->aE:=λ _ => .none
def DK(n:Nat)(hE:aC [])(hO:cO [])(hM:cT [])(hS:cR [dm,jB,iZ n]):fL.Good (ja (n+1)):=by
 refine⟨au jo rfl (by decide),?_⟩;show ∀ (t:List UInt8) (a:Int) (dp:Int) (bad:Bool),(3 * (101 - dp).toNat+1<n+1/\0<=a/\a<=(t.length:Int)/\t.length<=10000/\0<=dp/\dp<=100/\bad=false/\ck t a.toNat=40)->qI prog kL [[.d .str, .d (.int .i64), .d (.int .i64), .d .bool]] [.box 0] [[⟨.str,t⟩,⟨(.int .i64),a⟩,⟨(.int .i64),dp⟩,⟨.bool,bad⟩]] [⟨(.st .expr),(dG t a dp).e⟩] [[⟨.str,t⟩,⟨(.int .i64),((dG t a dp).a:Int)⟩,⟨(.int .i64),((dG t a dp).dp:Int)⟩,⟨.bool,(dG t a dp).bad⟩]];intro t a dp bad hp;refine ig (own:=[9,27,32]) (wr:=[]) (cl:=[]) (ro:=[]) hE hO hM hS jo BI (E5 t a dp bad) rfl rfl (let v5:=(t.length:Int);let v7:=((dC t a.toNat (40:Int):Nat):Int);let v0:=gm t v7 dp (fH t a.toNat (40:Int) bad);let v6:=(v0.dp:Int);let v8:=dG t a dp;let vc:=(v0.a:Int);let v1:=((dC t vc.toNat (32:Int):Nat):Int);let v9:=v1+(1:Int);let v4:=((dC t v9.toNat (32:Int):Nat):Int);let va:=fH t vc.toNat (32:Int) (v0.bad);let v2:=gm t v4 v6 (fH t v9.toNat (32:Int) va);let v3:=gm t v1 v6 va;let vb:=decide ((ck t v1.toNat)=(43:Int));let vd:=(v2.a:Int);let ve:=(v3.a:Int);(((0<=a/\a<=v5/\t.length<=10000)/\((3 * (101 - dp).toNat<n/\0<=v7/\v7<=v5/\t.length<=10000/\0<=dp/\dp<=1000)/\((0<=vc/\vc<=v5/\t.length<=10000)/\((0<=v1/\v1<=v5/\t.length<=10000)/\((vb=true->(O v1->(O v9/\((0<=v9/\v9<=v5/\t.length<=10000)/\((3 * (101 - v6).toNat<n/\0<=v4/\v4<=v5/\t.length<=10000/\0<=v6/\v6<=1000)/\((0<=vd/\vd<=v5/\t.length<=10000)/\((J.mk (6:Int) (0:Int) ([(aJ (v0.e)),(aJ (v2.e))]))=(v8.e)/\((t=t/\((((dC t vd.toNat (41:Int):Nat):Int))=(v8.a:Int)/\(((v2.dp:Int))=(v8.dp:Int)/\(fH t vd.toNat (41:Int) (v2.bad))=(v8.bad))))/\True))))))))/\(vb=false->((3 * (101 - v6).toNat<n/\0<=v1/\v1<=v5/\t.length<=10000/\0<=v6/\v6<=1000)/\((0<=ve/\ve<=v5/\t.length<=10000)/\((J.mk (7:Int) (0:Int) ([(aJ (v0.e)),(aJ (v3.e))]))=(v8.e)/\((t=t/\((((dC t ve.toNat (41:Int):Nat):Int))=(v8.a:Int)/\(((v3.dp:Int))=(v8.dp:Int)/\(fH t ve.toNat (41:Int) (v3.bad))=(v8.bad))))/\True)))))))))))) (by kernel_rfl) ?_;obtain⟨hm,h0,h1,h2,h3,h4,h5,h6⟩:=hp;subst h5;have l0:=uV t a.toNat (by rw[h6];decide);obtain⟨g1,g2⟩:=b2T t a 40 h0 h6;have b1:=VF t (a+1) dp false (by omega) (by omega) h3;obtain⟨p1,p2⟩:=a7L t a dp h0 (by omega) h3 h4 h6 _ rfl;simp only[yE] at p1 p2;simp only[g1,g2,b3W];generalize gm t (a+1) dp false=X at *
 have c1:=GK t X.a 32 (by decide) (by omega);by_cases hs:ck t (dC t X.a 32)=43
 .obtain⟨q1,q2,q3,q4⟩:=p1 hs;have l1:=uV t (dC t X.a 32) (by rw[hs];decide);have e1:(((dC t X.a 32:Nat):Int)+1).toNat=dC t X.a 32+1:=by omega
  have c2:=GK t (dC t X.a 32+1) 32 (by decide) (by omega);have b2:=VF t ((dC t (dC t X.a 32+1) 32:Nat):Int) (X.dp:Int) (fH t (dC t X.a 32+1) 32 (fH t X.a 32 X.bad)) (by omega) (by omega) (by omega);simp only[hs,e1,q1,q2,q3,q4,b4t,b4o,b3K,b3I,b3M,b3L,b4c,b4d,b4k,b4p,b3T,b4E,b3W,O,aK];generalize gm t ((dC t (dC t X.a 32+1) 32:Nat):Int) (X.dp:Int) (fH t (dC t X.a 32+1) 32 (fH t X.a 32 X.bad))=Y at *
  have c3:=GK t Y.a 41 (by decide) (by omega);repeat' (first|intro _|apply And.intro)
  all_goals first|exact True.intro|omega|with_reducible rfl
 .obtain⟨q1,q2,q3,q4⟩:=p2 hs;have b2:=VF t ((dC t X.a 32:Nat):Int) (X.dp:Int) (fH t X.a 32 X.bad) (by omega) (by omega) (by omega);simp only[hs,q1,q2,q3,q4,b4t,b4o,b3K,b3I,b3M,b3L,b4c,b4d,b4k,b4p,b3T,b4E,b3W,O,aK];generalize gm t ((dC t X.a 32:Nat):Int) (X.dp:Int) (fH t X.a 32 X.bad)=Y at *
  have c3:=GK t Y.a 41 (by decide) (by omega);repeat' (first|intro _|apply And.intro)
  all_goals first|exact True.intro|omega|with_reducible rfl
def E3(t:List UInt8)(a:Int)(dp:Int)(bad:Bool):Nat->aE:=(λ zb=>if Nat.beq zb 0 then .mk (Nat) (λ m=>m<=sE t (dG t a (dp+1))) (λ m=>sE t (dG t a (dp+1)) - m) [] [4,5,6,7,8,9,10,11,12,13,14,15,16,17,18,19,20,21,26,27] (λ m=>[]) [2] (λ m=>[(400000, .box [.aI ⟨.str,(t:List UInt8)⟩, .aI ⟨(.int .i64),(((dG t a (dp+1)).a:Int)+(m:Int):Int)⟩, .aI ⟨(.int .i64),(((dG t a (dp+1)).dp:Int):Int)⟩, .aI ⟨.bool,((dG t a (dp+1)).bad:Bool)⟩]),(3, .box [.aI ⟨(.int .i64),((cq 8 m (dG t a (dp+1)).e).aq:Int)⟩, .aI ⟨(.int .i64),((cq 8 m (dG t a (dp+1)).e).aM:Int)⟩, .aw 7100]),(7100, .aw (.st .expr) ((cq 8 m (dG t a (dp+1)).e).M:List J))]) [] [] (λ m=>λ _ => .none) else .none)
def DI(n:Nat)(hE:aC [])(hO:cO [])(hM:cT [])(hS:cR [dm,fw n]):fL.Good (iZ (n+1)):=by
 refine⟨au fT rfl (by decide),?_⟩;show ∀ (t:List UInt8) (a:Int) (dp:Int) (bad:Bool),(3 * (101 - dp).toNat<n+1/\0<=a/\a<=(t.length:Int)/\t.length<=10000/\0<=dp/\dp<=1000)->qI prog gD [[.d .str, .d (.int .i64), .d (.int .i64), .d .bool]] [.box 0] [[⟨.str,t⟩,⟨(.int .i64),a⟩,⟨(.int .i64),dp⟩,⟨.bool,bad⟩]] [⟨(.st .expr),(gm t a dp bad).e⟩] [[⟨.str,t⟩,⟨(.int .i64),((gm t a dp bad).a:Int)⟩,⟨(.int .i64),((gm t a dp bad).dp:Int)⟩,⟨.bool,(gm t a dp bad).bad⟩]];intro t a dp bad hp;refine ig (own:=[27,46]) (wr:=[]) (cl:=[]) (ro:=[]) hE hO hM hS fT BG (E3 t a dp bad) rfl rfl (let v0:=dG t a (dp+1);let v3:=gm t a dp bad;let v4:=(v0.a:Int);let v5:=(v0.dp:Int);let vc:=True/\True;let v6:=True/\(True/\vc);let vd:=(1:Int);let v2:=dp+vd;let v8:=3 * (101 - v2).toNat+2<n/\0<=a/\a<=(t.length:Int)/\t.length<=10000/\0<=v2/\v2<=100/\bad=false;let vb:=dG t a v2;let vf:=(0:Int);let v1:=(vf=vf/\(vf=vf/\vc))/\True;let vg:=(v3.a:Int);let va:=zE=(v3.e)/\((t=t/\(a=vg/\(v2=(v3.dp:Int)/\true=(v3.bad))))/\True);let vh:=v0.bad;let v7:=(v5 - vd)=(v3.dp:Int)/\vh=(v3.bad);let v9:=v5=v5/\(vh=vh/\True);let ve:=((vb.dp:Int))=v5/\((vb.bad)=vh/\True);((O dp->(O v2/\((bad=false->(O v2->(((decide ((100:Int)<v2))=true->va)/\((decide ((100:Int)<v2))=false->(v8/\((∃ m1:Nat,let vi:=cq 8 m1 v0.e;(m1<=sE t v0/\(v6/\((t=t/\(((vb.a:Int))=(v4+(m1:Int))/\ve))/\(((vb.e).aq=(vi.aq)/\((vb.e).aM=(vi.aM)/\vc))/\((vb.e).M=(vi.M)/\v1))))))/\(∀ m1:Nat,let vj:=v4+(m1:Int);let vl:=decide ((ck t vj.toNat)=(42:Int));let vm:=cq 8 m1 v0.e;let vi:=J.mk (vm.aq) (vm.aM) (vm.M);let vk:=O (v5 - vd)/\(vi=(v3.e)/\((t=t/\(vj=vg/\v7))/\True));(m1<=sE t v0->(((!vh)=true->((0<=vj/\vj<=(t.length:Int)/\t.length<=10000)/\((vl=true->(O vj->(O (vj+vd)/\(∃ m2:Nat,let vn:=cq 8 m2 v0.e;(m2<=sE t v0/\(sE t v0 - m2<sE t v0 - m1/\(v6/\((t=t/\((vj+vd)=(v4+(m2:Int))/\v9))/\(((8:Int)=(vn.aq)/\(vf=(vn.aM)/\vc))/\(([vi])=(vn.M)/\v1))))))))))/\(vl=false->(O v5->vk)))))/\((!vh)=(!true)->((false=true->(O vj->(O (vj+vd)/\(∃ m2:Nat,let vn:=cq 8 m2 v0.e;(m2<=sE t v0/\(sE t v0 - m2<sE t v0 - m1/\(v6/\((t=t/\((vj+vd)=(v4+(m2:Int))/\v9))/\(((8:Int)=(vn.aq)/\(vf=(vn.aM)/\vc))/\(([vi])=(vn.M)/\v1))))))))))/\(false=false->(O v5->vk)))))))))))))/\(bad=(!false)->((true=true->va)/\(true=false->(v8/\((∃ m1:Nat,let vi:=cq 8 m1 v0.e;(m1<=sE t v0/\(v6/\((t=t/\(((vb.a:Int))=(v4+(m1:Int))/\ve))/\(((vb.e).aq=(vi.aq)/\((vb.e).aM=(vi.aM)/\vc))/\((vb.e).M=(vi.M)/\v1))))))/\(∀ m1:Nat,let vj:=v4+(m1:Int);let vl:=decide ((ck t vj.toNat)=(42:Int));let vm:=cq 8 m1 v0.e;let vi:=J.mk (vm.aq) (vm.aM) (vm.M);let vk:=O (v5 - vd)/\(vi=(v3.e)/\((t=t/\(vj=vg/\v7))/\True));(m1<=sE t v0->(((!vh)=true->((0<=vj/\vj<=(t.length:Int)/\t.length<=10000)/\((vl=true->(O vj->(O (vj+vd)/\(∃ m2:Nat,let vn:=cq 8 m2 v0.e;(m2<=sE t v0/\(sE t v0 - m2<sE t v0 - m1/\(v6/\((t=t/\((vj+vd)=(v4+(m2:Int))/\v9))/\(((8:Int)=(vn.aq)/\(vf=(vn.aM)/\vc))/\(([vi])=(vn.M)/\v1))))))))))/\(vl=false->(O v5->vk)))))/\((!vh)=(!true)->((false=true->(O vj->(O (vj+vd)/\(∃ m2:Nat,let vn:=cq 8 m2 v0.e;(m2<=sE t v0/\(sE t v0 - m2<sE t v0 - m1/\(v6/\((t=t/\((vj+vd)=(v4+(m2:Int))/\v9))/\(((8:Int)=(vn.aq)/\(vf=(vn.aM)/\vc))/\(([vi])=(vn.M)/\v1))))))))))/\(false=false->(O v5->vk))))))))))))))))) (by kernel_rfl) ?_;obtain⟨hm,h0,h1,h2,h3,h4⟩:=hp;cases bad with
 | true =>
  obtain⟨q1,q2,q3,q4⟩:=a1Z t a dp true h0 h3 (.inl rfl);simp only[q1,q2,q3,q4,b4t,b4o,b3K,b3I,b3M,b3L,b4c,b4d,b4k,b4p,b3T,b4E,b3W,O,aK];repeat' (first|intro _|apply And.intro)
  all_goals first|exact True.intro|omega|with_reducible rfl
 | false =>
  by_cases hd:100<dp+1
  .obtain⟨q1,q2,q3,q4⟩:=a1Z t a dp false h0 h3 (.inr hd);simp only[hd,q1,q2,q3,q4,b4t,b4o,b3K,b3I,b3M,b3L,b4c,b4d,b4k,b4p,b3T,b4E,b3W,O,aK];repeat' (first|intro _|apply And.intro)
   all_goals first|exact True.intro|omega|with_reducible rfl
  .obtain⟨q1,q2,q3,q4⟩:=a8Q t a dp false h0 h1 h3 rfl hd;have b1:=Qf t a (dp+1) h0 h1 (by omega) (by omega);have b2:=b1j t a (dp+1) h0 h1 (by omega) (by omega);simp only[hd,q1,q2,q3,q4,b4t,b4o,b3K,b3I,b3M,b3L,b4c,b4d,b4k,b4p,b3T,b4E,b3W,O,aK];generalize dG t a (dp+1)=R at *
   cases hB:R.bad with
   | true =>
    have z:=a9q t R hB;simp only[hB,z,b4t,b4o,b3K,b3I,b3M,b3L,b4c,b4d,b4k,b4p,b3T,b4E,b3W,O,aK];repeat' (first|intro _|apply And.intro)
    all_goals first|exact True.intro|omega|with_reducible rfl|exact⟨0,b4O _,by omega,⟨rfl,rfl⟩,rfl⟩|(simp only[J.eta];congr 1;omega)
   | false =>
    have z:=λ m h=>b1i t R m hB h;simp only[hB,b4t,b4o,b3K,b3I,b3M,b3L,b4c,b4d,b4k,b4p,b3T,b4E,b3W,O,aK];repeat' (first|intro _|apply And.intro)
    all_goals (try simp only[b3E,b3D] at *)
    all_goals first|exact True.intro|omega|with_reducible rfl|exact⟨0,b4O _,by omega,⟨rfl,rfl⟩,rfl⟩|(rename_i m1 _ _ _;have g:=z m1 (by assumption);first|omega|(simp only[J.eta];congr 1;omega)|exact⟨m1+1,by omega,by omega,by omega,⟨by rw[dQ],by rw[dQ]⟩,by rw[dQ,J.eta]⟩)
def Zt:∀ n,cR [fw n,ja n,iZ n]
 | 0=>⟨⟨au iS rfl (by decide),λ _ _ _ _ h=>absurd h.1 (b4y _)⟩,⟨au jo rfl (by decide),λ _ _ _ _ h=>absurd h.1 (b4y _)⟩,⟨au fT rfl (by decide),λ _ _ _ _ h=>absurd h.1 (b4y _)⟩,U⟩
 | n+1=>by
  have ih:=Zt n;exact⟨BR n trivial trivial trivial ⟨dO,Bo,ih.2.1,ih.1,U⟩,DK n trivial trivial trivial ⟨dO,Bp,ih.2.2.1,U⟩,DI n trivial trivial trivial ⟨dO,ih.1,U⟩,U⟩
def Bn:fL.Good qx :=
 ⟨au fT rfl (by decide),λ t a dp bad hp=>(Zt (3 * (101 - dp).toNat+1)).2.2.1.2 t a dp bad (⟨b4v _,hp⟩)⟩
end
end Go.Proofs.YtmjfpcajohhbeaaGreatDoor

set_option maxRecDepth 4000
set_option maxHeartbeats 4000000
namespace Go.Proofs.YtmjfpcajohhbeaaGreatDoor
noncomputable section
def Oq(gg:aT)(t:List UInt8):J:=bif bK gg&&decide (t.length<=4000) then oQ gg t else zX
def To(gg:aT)(t:List UInt8):Int:=bif bK gg then (bif decide (t.length<=4000) then (bif eR gg t then 0 else 5) else 2) else 1
def a7k(t:List UInt8):gm t 0 0 false=Bz t:=rfl
def rP:aH:=⟨uk,[.v (.st .sig), .v .str],λ (gg:aT) (t:List UInt8)=>⟨(some (bK gg=true/\t.length<=8000),[⟨(.st .expr),oQ gg t⟩,⟨.bool,eR gg t⟩])⟩⟩
def Qv(gg:aT)(t:List UInt8):Nat->aE:=λ _ => .none
def Og(hE:aC [jz,Jc])(hO:cO [])(hM:cT [])(hS:cR [wk]):aH.bX rP:=by
 refine⟨au B4 rfl (by decide),?_⟩;show ∀ (gg:aT) (t:List UInt8),(bK gg=true/\t.length<=8000)->cY prog uk [.val ⟨(.st .sig),gg⟩, .val ⟨.str,t⟩] [⟨(.st .expr),oQ gg t⟩,⟨.bool,eR gg t⟩];intro gg t hp;refine cj (own:=[12]) (wr:=[]) (cl:=[]) (ro:=[2]) hE hO hM hS B4 KI (Qv gg t) (let v1:=zE=(oQ gg t)/\false=(eR gg t);let v5:=xE t (40:Int) (0:Int);let v0:=aJ (v5.e);let v2:=v0=(oQ gg t)/\true=(eR gg t);let v3 := !decide ((bY v0)=t);let v4:=ea v0=true/\(bY v0).length<=1000000;let v6 := !(decide (((v5.a:Int))=((t.length:Int))));let v7 := !(bW gg v0);let v8 := !false;(((0<=(0:Int)/\(0:Int)<=(t.length:Int)/\t.length<=10000 /\ -1<=(40:Int)/\(40:Int)<=40)/\(((!(v5.ok))=false->(O ((v5.a:Int))->(O ((t.length:Int))->((v6=false->((v7=false->(v4/\((bY v0).length<=140737488355328->((v3=true->v1)/\(v3=false->v2)))))/\(v7=v8->((true=true->v1)/\(true=false->v2)))))/\(v6=v8->((true=false->(v4/\((bY v0).length<=140737488355328->((v3=true->v1)/\(v3=false->v2)))))/\(true=v8->((true=true->v1)/\(true=false->v2)))))))))/\((!(v5.ok))=v8->((true=false->((v7=false->(v4/\((bY v0).length<=140737488355328->((v3=true->v1)/\(v3=false->v2)))))/\(v7=v8->((true=true->v1)/\(true=false->v2)))))/\(true=v8->((true=false->(v4/\((bY v0).length<=140737488355328->((v3=true->v1)/\(v3=false->v2)))))/\(true=v8->((true=true->v1)/\(true=false->v2))))))))))) (by kernel_rfl) ?_;obtain⟨hg,hl⟩:=hp;have r1:eR gg t=((xE t 40 0).ok&&decide ((xE t 40 0).a=t.length)&&bW gg (xE t 40 0).e&&decide (bY (xE t 40 0).e=t)):=rfl;have r2:oQ gg t=bif eR gg t then (xE t 40 0).e else zX:=rfl
 have r3:=Gc gg (xE t 40 0).e hg;rcases b4G (xE t 40 0).ok with h1|h1
 .by_cases h2:(xE t 40 0).a=t.length
  .have d2:decide (((xE t 40 0).a:Int)=(t.length:Int))=true:=b4l (by omega);rcases b4G (bW gg (xE t 40 0).e) with h3|h3
   .obtain⟨g1,g2,g3⟩:=r3 h3;by_cases h4:bY (xE t 40 0).e=t
    .have k1:eR gg t=true:=by rw[r1,h1,b4l h2,h3,b4l h4];rfl
     have k2:oQ gg t=(xE t 40 0).e:=by rw[r2,k1];rfl
     simp only[h1,d2,h3,b4l h4,g1,k1,k2,b4t,b4o,b3K,b3I,b3M,b3L,b4c,b4d,b4k,b4p,b3T,b4E,b3W,O,aK];repeat' (first|intro _|apply And.intro)
     all_goals first|exact True.intro|omega|with_reducible rfl
    .have k1:eR gg t=false:=by rw[r1,b3Q h4];simp
     have k2:oQ gg t=zX:=by rw[r2,k1];rfl
     simp only[h1,d2,h3,b3Q h4,g1,k1,k2,b4t,b4o,b3K,b3I,b3M,b3L,b4c,b4d,b4k,b4p,b3T,b4E,b3W,O,aK];repeat' (first|intro _|apply And.intro)
     all_goals first|exact True.intro|omega|with_reducible rfl
   .have k1:eR gg t=false:=by rw[r1,h3];simp
    have k2:oQ gg t=zX:=by rw[r2,k1];rfl
    simp only[h1,d2,h3,k1,k2,b4t,b4o,b3K,b3I,b3M,b3L,b4c,b4d,b4k,b4p,b3T,b4E,b3W,O,aK];repeat' (first|intro _|apply And.intro)
    all_goals first|exact True.intro|omega|with_reducible rfl
  .have d2:decide (((xE t 40 0).a:Int)=(t.length:Int))=false:=b3Q (by omega);have k1:eR gg t=false:=by rw[r1,b3Q h2];simp
   have k2:oQ gg t=zX:=by rw[r2,k1];rfl
   simp only[h1,d2,k1,k2,b4t,b4o,b3K,b3I,b3M,b3L,b4c,b4d,b4k,b4p,b3T,b4E,b3W,O,aK];repeat' (first|intro _|apply And.intro)
   all_goals first|exact True.intro|omega|with_reducible rfl
 .have k1:eR gg t=false:=by rw[r1,h1];rfl
  have k2:oQ gg t=zX:=by rw[r2,k1];rfl
  simp only[h1,k1,k2,b4t,b4o,b3K,b3I,b3M,b3L,b4c,b4d,b4k,b4p,b3T,b4E,b3W,O,aK];repeat' (first|intro _|apply And.intro)
  all_goals first|exact True.intro|omega|with_reducible rfl
def JD:aH.bX rP:=Og ⟨lZ,PN,U⟩ trivial trivial ⟨Fj,U⟩
def rT:aH:=⟨uu,[.v (.st .sig), .v .str],λ (gg:aT) (t:List UInt8)=>⟨(none,[⟨(.st .expr),Oq gg t⟩,⟨(.int .i64),To gg t⟩])⟩⟩
def Qz(gg:aT)(t:List UInt8):Nat->aE:=λ _ => .none
def Ok(hE:aC [mJ,oO])(hO:cO [])(hM:cT [])(hS:cR [qx]):aH.bX rT:=by
 refine⟨au B9 rfl (by decide),?_⟩;show ∀ (gg:aT) (t:List UInt8),True->cY prog uu [.val ⟨(.st .sig),gg⟩, .val ⟨.str,t⟩] [⟨(.st .expr),Oq gg t⟩,⟨(.int .i64),To gg t⟩];intro gg t _;refine cj (own:=[20]) (wr:=[]) (cl:=[]) (ro:=[2]) hE hO hM hS B9 KO (Qz gg t) (let v2:=zE=(Oq gg t)/\(5:Int)=(To gg t);let v3:=(t.length:Int);let v5:=(0:Int);let v0:=gm t v5 v5 false;let v1:=(aJ (v0.e))=(Oq gg t)/\v5=(To gg t);let v4 := !(Bl gg (aJ (v0.e)));let v6 := !(decide (((v0.a:Int))=(v3)));((((!(bK gg))=true->(zE=(Oq gg t)/\(1:Int)=(To gg t)))/\((!(bK gg))=false->(O (v3)->(((decide ((4000:Int)<(v3)))=true->(zE=(Oq gg t)/\(2:Int)=(To gg t)))/\((decide ((4000:Int)<(v3)))=false->((0<=v5/\v5<=v3/\t.length<=10000/\0<=v5/\v5<=1000)/\(((v0.bad)=false->(O ((v0.a:Int))->(O (v3)->((v6=false->((v4=true->v2)/\(v4=false->v1)))/\(v6=(!false)->((true=true->v2)/\(true=false->v1)))))))/\((v0.bad)=(!false)->((true=false->((v4=true->v2)/\(v4=false->v1)))/\(true=(!false)->((true=true->v2)/\(true=false->v1)))))))))))))) (by kernel_rfl) ?_;have r1:Oq gg t=bif bK gg&&decide (t.length<=4000) then oQ gg t else zX:=rfl
 have r2:To gg t=bif bK gg then (bif decide (t.length<=4000) then (bif eR gg t then 0 else 5) else 2) else 1:=rfl
 have r3:eR gg t=false->oQ gg t=zX:=λ h=>by unfold oQ;rw[h];rfl
 rcases b4G (bK gg) with hg|hg
 .by_cases hl:t.length<=4000
  .have d1:decide ((4000:Int)<((t.length:Int)))=false:=decide_eq_false (by omega);have s0:=a8f gg t hg;rw[<-a7k] at s0;obtain⟨s1,s2⟩:=s0;have s3:Bl gg (gm t 0 0 false).e=bW gg (gm t 0 0 false).e:=by unfold Bl;rw[hg];rfl
   simp only[r1,r2,hg,d1,b4l hl,s3,b6W,b6S,b4t,b4o,b3K,b3I,b3M,b3L,b4c,b4d,b4k,b4p,b3T,b4E,b3W,O,aK];rcases b4G (gm t 0 0 false).bad with h1|h1
   .have k:eR gg t=false:=by rw[<-s1,h1];rfl
    simp only[h1,k,r3 k,b6w,b4t,b4o,b3K,b3I,b3M,b3L,b4c,b4d,b4k,b4p,b3T,b4E,b3W,O,aK];repeat' (first|intro _|apply And.intro)
    all_goals first|exact True.intro|omega|with_reducible rfl|with_reducible assumption
   .by_cases h2:(gm t 0 0 false).a=t.length
    .have d2:decide (((gm t 0 0 false).a:Int)=(t.length:Int))=true:=b4l (by omega);rcases b4G (bW gg (gm t 0 0 false).e) with h3|h3
     .have k:eR gg t=true:=by rw[<-s1,h1,b4l h2,h3];rfl
      have k2:=s2 k;simp only[h1,d2,h3,k,b6S,b4t,b4o,b3K,b3I,b3M,b3L,b4c,b4d,b4k,b4p,b3T,b4E,b3W,O,aK];repeat' (first|intro _|apply And.intro)
      all_goals first|exact True.intro|omega|with_reducible rfl|with_reducible assumption
     .have k:eR gg t=false:=by rw[<-s1,h3];simp
      simp only[h1,d2,h3,k,r3 k,b6w,b4t,b4o,b3K,b3I,b3M,b3L,b4c,b4d,b4k,b4p,b3T,b4E,b3W,O,aK];repeat' (first|intro _|apply And.intro)
      all_goals first|exact True.intro|omega|with_reducible rfl|with_reducible assumption
    .have d2:decide (((gm t 0 0 false).a:Int)=(t.length:Int))=false:=b3Q (by omega);have k:eR gg t=false:=by rw[<-s1,b3Q h2];simp
     simp only[h1,d2,k,r3 k,b6w,b4t,b4o,b3K,b3I,b3M,b3L,b4c,b4d,b4k,b4p,b3T,b4E,b3W,O,aK];repeat' (first|intro _|apply And.intro)
     all_goals first|exact True.intro|omega|with_reducible rfl|with_reducible assumption
  .have d1:decide ((4000:Int)<((t.length:Int)))=true:=b4l (by omega);simp only[r1,r2,hg,d1,b3Q hl,b5c,b6S,b6w,b4t,b4o,b3K,b3I,b3M,b3L,b4c,b4d,b4k,b4p,b3T,b4E,b3W,O,aK];repeat' (first|intro _|apply And.intro)
   all_goals first|exact True.intro|omega|with_reducible rfl|with_reducible assumption
 .simp only[r1,r2,hg,b4Y,b6w,b4t,b4o,b3K,b3I,b3M,b3L,b4c,b4d,b4k,b4p,b3T,b4E,b3W,O,aK];repeat' (first|intro _|apply And.intro)
  all_goals first|exact True.intro|omega|with_reducible rfl|with_reducible assumption
def JH:aH.bX rT:=Ok ⟨re,nw,U⟩ trivial trivial ⟨Bn,U⟩
end
end Go.Proofs.YtmjfpcajohhbeaaGreatDoor

set_option maxRecDepth 4000
set_option maxHeartbeats 4000000
namespace Go.Proofs.YtmjfpcajohhbeaaGreatDoor
noncomputable section
def eqL(t:List UInt8):List UInt8:=qp t [32,61,32]
def eqR(t:List UInt8):List UInt8:=jS t [32,61,32]
def eqC(t:List UInt8):Bool:=sK t [32,61,32]
def zQ:ar:=ar.mk zE zE
def sw(gg:aT)(t:List UInt8):Bool:=eqC t&&eR gg (eqL t)&&eR gg (eqR t)
def LK(gg:aT)(t:List UInt8):ar:=bif sw gg t then ar.mk (oQ gg (eqL t)) (oQ gg (eqR t)) else zQ
def Q8(gg:aT)(t:List UInt8):ar:=bif eqC t then ar.mk (Oq gg (eqL t)) (Oq gg (eqR t)) else zQ
def a6j(gg:aT)(t:List UInt8)(hg:bK gg=true)(h:eR gg t=true):t.length<=1000:=by
 simp only[eR,b3J,b3E] at h;obtain⟨⟨_,h2⟩,h3⟩:=h;have:=Gc gg _ hg h2;have e:=congrArg List.length h3;omega
def a1q(gg:aT)(t:List UInt8)(hg:bK gg=true):(decide (To gg t=0)=eR gg t)/\(eR gg t=true->Oq gg t=oQ gg t):=by
 unfold To Oq;rw[hg];rcases Bool.eq_false_or_eq_true (eR gg t) with h|h
 .have:=a6j gg t hg h;rw[h,b4l (show t.length<=4000 by omega)];exact⟨rfl,λ _=>rfl⟩
 .rw[h];refine⟨?_,λ q=>by cases q⟩;cases decide (t.length<=4000)<;>rfl
def a9p(gg:aT)(t:List UInt8)(hg:bK gg=true)(h:sw gg t=true):Q8 gg t=LK gg t:=by
 unfold Q8 LK;rw[h];simp only[sw,Bool.and_eq_true] at h;rw[h.1.1,(a1q gg _ hg).2 h.1.2,(a1q gg _ hg).2 h.2]
def a0o(gg:aT)(t:List UInt8):sw gg t=(sK t [32,61,32]&&eR gg (qp t [32,61,32])&&eR gg (jS t [32,61,32])) /\
  (sw gg t=true->LK gg t=ar.mk (oQ gg (qp t [32,61,32])) (oQ gg (jS t [32,61,32])))/\(sw gg t=false->LK gg t=ar.mk zE zE):=by
 refine⟨rfl,λ h=>?_,λ h=>?_⟩<;>· unfold LK;rw[h];rfl
def a4u(gg:aT)(t:List UInt8):(sK t [32,61,32]=true->Ch t [32,61,32]=qp t [32,61,32]/\Q8 gg t=ar.mk (Oq gg (qp t [32,61,32])) (Oq gg (jS t [32,61,32]))) /\
  (sK t [32,61,32]=false->Q8 gg t=ar.mk zE zE):=by
 refine⟨λ h=>⟨?_,?_⟩,λ h=>?_⟩
 .unfold Ch;rw[h];rfl
 .unfold Q8 eqC;rw[h];rfl
 .unfold Q8 eqC;rw[h];rfl
def lD:aH:=⟨mP,[.v (.st .sig), .v .str],λ (gg:aT) (t:List UInt8)=>⟨(some (bK gg=true/\t.length<=8000),[⟨(.st .equation),LK gg t⟩,⟨.bool,sw gg t⟩])⟩⟩
def HT(gg:aT)(t:List UInt8):Nat->aE:=λ _ => .none
abbrev qs(gg:aT)(t:List UInt8):Prop:=(let v0:=jS t ([32,61,32]);(((!(eR gg v0))=true ->
 ((ar.mk zE zE)=(LK gg t)/\false=(sw gg t)))/\((!(eR gg v0))=false ->
 ((ar.mk (aJ (oQ gg (qp t ([32,61,32])))) (aJ (oQ gg v0)))=(LK gg t)/\true=(sw gg t)))))
abbrev qt(gg:aT)(t:List UInt8):Prop:=((true=true ->
 ((ar.mk zE zE)=(LK gg t)/\false=(sw gg t)))/\(true=false ->
 ((ar.mk (aJ (oQ gg (qp t ([32,61,32])))) (aJ (oQ gg (jS t ([32,61,32])))))=(LK gg t)/\true=(sw gg t))))
def GC(hE:aC [Jg])(hO:cO [rP])(hM:cT [])(hS:cR []):aH.bX lD:=by
 refine⟨au sF rfl (by decide),?_⟩;show ∀ (gg:aT) (t:List UInt8),(bK gg=true/\t.length<=8000)->cY prog mP [.val ⟨(.st .sig),gg⟩, .val ⟨.str,t⟩] [⟨(.st .equation),LK gg t⟩,⟨.bool,sw gg t⟩];intro gg t hp;refine cj (own:=[22,28]) (wr:=[]) (cl:=[]) (ro:=[2]) hE hO hM hS sF Em (HT gg t) (let v0:=[32,61,32];((t.length<=1048576/\((qp t v0).length<=140737488355328->((jS t v0).length<=140737488355328->((bK gg=true/\(qp t v0).length<=8000)/\((bK gg=true/\(jS t v0).length<=8000)/\(((!(sK t v0))=false->(((!(eR gg (qp t v0)))=false->(qs gg t))/\((!(eR gg (qp t v0)))=(!false)->(qt gg t))))/\((!(sK t v0))=(!false)->((true=false->(qs gg t))/\(true=(!false)->(qt gg t)))))))))))) (by kernel_rfl) ?_;obtain⟨f2,f3,f4⟩:=a0o gg t;have f0:(qp t [32,61,32]).length<=t.length/\(jS t [32,61,32]).length<=t.length:=ZF t _;refine⟨?_,λ _ _=>⟨?_,?_,λ _=>⟨λ _=>⟨λ _=>⟨?_,?_⟩,λ _=>⟨?_,?_⟩⟩,λ _=>⟨λ _=>⟨?_,?_⟩,λ _=>⟨?_,?_⟩⟩⟩,λ _=>⟨λ _=>⟨λ _=>⟨?_,?_⟩,λ _=>⟨?_,?_⟩⟩,λ _=>⟨λ _=>⟨?_,?_⟩,λ _=>⟨?_,?_⟩⟩⟩⟩⟩;all_goals try and_intros
 all_goals try (first|with_reducible rfl|with_reducible assumption)
 all_goals try simp only[J.eta,ag.eta,ar.eta,aK,br,bG] at *
 all_goals first|rfl|trivial|omega|(simp only[b3E,b3D,b3S,b4f,b3I,b3K,ak,O,b3P,b4b] at *;first|omega|grind)|grind
def DF:aH.bX lD:=GC ⟨PV,U⟩ ⟨JD,U⟩ trivial trivial
def nC:aH:=⟨yi,[.v (.st .sig), .v .str],λ (gg:aT) (t:List UInt8)=>⟨(some (bK gg=true/\t.length<=8000),[⟨(.st .equation),Q8 gg t⟩,⟨.bool,sw gg t⟩])⟩⟩
def SC(gg:aT)(t:List UInt8):Nat->aE:=λ _ => .none
def Q0(hE:aC [AW])(hO:cO [rT])(hM:cT [])(hS:cR []):aH.bX nC:=by
 refine⟨au Eg rfl (by decide),?_⟩;show ∀ (gg:aT) (t:List UInt8),(bK gg=true/\t.length<=8000)->cY prog yi [.val ⟨(.st .sig),gg⟩, .val ⟨.str,t⟩] [⟨(.st .equation),Q8 gg t⟩,⟨.bool,sw gg t⟩];intro gg t hp;refine cj (own:=[25,31]) (wr:=[]) (cl:=[]) (ro:=[2]) hE hO hM hS Eg MP (SC gg t) (let v0:=[32,61,32];let v1:=ar.mk (aJ (Oq gg (Ch t v0))) (aJ (Oq gg (jS t v0)));let v2:=decide ((To gg (Ch t v0))=(0:Int));(((t.length<=1048576/\1<=v0.length/\v0.length<=100)/\((Ch t v0).length<=140737488355328->((jS t v0).length<=140737488355328->(((!(sK t v0))=true->((ar.mk zE zE)=(Q8 gg t)/\false=(sw gg t)))/\((!(sK t v0))=false->(O (To gg (Ch t v0))->(O (To gg (jS t v0))->((v2=true->(v1=(Q8 gg t)/\(decide ((To gg (jS t v0))=(0:Int)))=(sw gg t)))/\(v2=(!true)->(v1=(Q8 gg t)/\false=(sw gg t))))))))))))) (by kernel_rfl) ?_;obtain⟨f3,f4⟩:=a4u gg t;have f5:=(a0o gg t).1;have f1:=(a1q gg (qp t [32,61,32]) hp.1).1;have f2:=(a1q gg (jS t [32,61,32]) hp.1).1;refine⟨?_,λ _ _=>⟨λ _=>⟨?_,?_⟩,λ _ _ _=>⟨λ _=>⟨?_,?_⟩,λ _=>⟨?_,?_⟩⟩⟩⟩;all_goals try and_intros
 all_goals try (first|with_reducible rfl|with_reducible assumption)
 all_goals try simp only[J.eta,ag.eta,ar.eta,aK,br,bG] at *
 all_goals first|rfl|trivial|omega|(simp only[b3E,b3D,b3S,b4f,b3I,b3K,ak,O,b3P,b4b] at *;first|omega|grind)|grind
def Lu:aH.bX nC:=Q0 ⟨PT,U⟩ ⟨JH,U⟩ trivial trivial
end
end Go.Proofs.YtmjfpcajohhbeaaGreatDoor

set_option maxRecDepth 4000
set_option maxHeartbeats 4000000
namespace Go.Proofs.YtmjfpcajohhbeaaGreatDoor
noncomputable section
def gP:aT:=aT.mk (3:Int) (4:Int)
def oD:List (List UInt8):=[[40,97,48,32,43,32,40,97,49,32,43,32,97,50,41,41,32,61,32,40,40,97,48,32,43,32,97,49,41,32,43,32,97,50,41],[40,97,48,32,43,32,97,49,41,32,61,32,40,97,49,32,43,32,97,48,41],[40,97,48,32,43,32,48,41,32,61,32,97,48],[40,97,48,32,43,32,97,48,41,32,61,32,97,48],[40,97,48,32,40,97,49,32,97,50,41,41,32,61,32,40,40,97,48,32,97,49,41,32,97,50,41],[40,49,32,97,48,41,32,61,32,97,48],[40,97,48,32,49,41,32,61,32,97,48],[40,97,48,32,40,97,49,32,43,32,97,50,41,41,32,61,32,40,40,97,48,32,97,49,41,32,43,32,40,97,48,32,97,50,41,41],[40,40,97,48,32,43,32,97,49,41,32,97,50,41,32,61,32,40,40,97,48,32,97,50,41,32,43,32,40,97,49,32,97,50,41,41],[40,48,32,97,48,41,32,61,32,48],[40,97,48,32,48,41,32,61,32,48],[40,49,32,43,32,40,97,48,32,97,48,42,41,41,32,61,32,97,48,42],[40,49,32,43,32,40,97,48,42,32,97,48,41,41,32,61,32,97,48,42],[40,116,48,32,116,48,41,32,61,32,116,48],[40,116,48,32,116,49,41,32,61,32,40,116,49,32,116,48,41],[40,116,48,32,43,32,126,116,48,41,32,61,32,49],[40,116,48,32,126,116,48,41,32,61,32,48],[126,126,116,48,32,61,32,116,48],[126,40,116,48,32,43,32,116,49,41,32,61,32,40,126,116,48,32,126,116,49,41],[126,40,116,48,32,116,49,41,32,61,32,40,126,116,48,32,43,32,126,116,49,41],[126,48,32,61,32,49],[126,49,32,61,32,48],[40,116,48,32,43,32,49,41,32,61,32,49],[40,40,116,48,32,43,32,116,49,41,32,40,116,48,32,43,32,116,50,41,41,32,61,32,40,116,48,32,43,32,40,116,49,32,116,50,41,41]]
def FA:List ar:=oD.map (LK gP)
def oE:oD.length=24:=rfl
def b0w:oD.all (λ t=>sw gP t&&decide (t.length<=100))=true:=by kernel_rfl
def a3o(i:Nat)(h:i<24):sw gP (oD.getD i [])=true/\(oD.getD i []).length<=100/\Q8 gP (oD.getD i [])=LK gP (oD.getD i []):=by
 have hm:oD.getD i []∈oD:=by
  rw[b3V,b4j (by rw[oE];exact h)];exact b4Z _
 have:=b4C.1 b0w _ hm;rw[b3J,b3E] at this;exact⟨this.1,this.2,a9p gP _ (by decide) this.1⟩
def O0(i:Nat):List ar:=(oD.take i).map (LK gP)
def a5E(i:Nat)(h:i<24):O0 (i+1)=O0 i++[LK gP (oD.getD i [])]:=by
 unfold O0;rw[cr [] oD i (by rw[oE];exact h)];simp
def a6U(i:Nat)(h:24<=i):O0 i=FA:=by
 unfold O0 FA;rw[List.take_of_length_le (by rw[oE];exact h)]
def a6V(i:Nat)(h:i<=24):(O0 i).length=i:=by
 unfold O0;rw[List.length_map,List.length_take,oE];omega
def pH:aH:=⟨pU,[],⟨(none,[⟨(.st .sig),gP⟩])⟩⟩
def NN :Nat->aE:=λ _ => .none
def Lw(hE:aC []):aH.Good pH:=by
 refine⟨au yr rfl (by decide),?_⟩;show True->bd prog pU [] (·=[⟨(.st .sig),gP⟩]);intro  _;refine aU (wr:=[]) (cl:=[]) (ro:=[]) hE yr Ht (NN ) ((aT.mk (3:Int) (4:Int))=gP) (by kernel_rfl) ?_;refine ?_;all_goals try and_intros
 all_goals first|rfl|trivial|omega|(simp only[b3E,b3D,ak,O,bQ,cw,bI,aY] at *;omega)|(simp[ak,O] at *;omega)|grind
def HF:aH.Good pH:=Lw trivial
def xQ:aH:=⟨yn,[],⟨(none,[⟨(.st .sig),gP⟩])⟩⟩
def U5 :Nat->aE:=λ _ => .none
def Td(hE:aC []):aH.Good xQ:=by
 refine⟨au Ek rfl (by decide),?_⟩;show True->bd prog yn [] (·=[⟨(.st .sig),gP⟩]);intro  _;refine aU (wr:=[]) (cl:=[]) (ro:=[]) hE Ek MT (U5 ) ((aT.mk (3:Int) (4:Int))=gP) (by kernel_rfl) ?_;refine ?_;all_goals try and_intros
 all_goals first|rfl|trivial|omega|(simp only[b3E,b3D,ak,O,bQ,cw,bI,aY] at *;omega)|(simp[ak,O] at *;omega)|grind
def Nu:aH.Good xQ:=Td trivial
def ia:aH:=⟨lK,[],⟨(none,[⟨(.slice .str),oD⟩])⟩⟩
def HR :Nat->aE:=λ _ => .none
def GA(hE:aC []):aH.Good ia:=by
 refine⟨au qM rfl (by decide),?_⟩;show True->bd prog lK [] (·=[⟨(.slice .str),oD⟩]);intro  _;refine aU (wr:=[]) (cl:=[]) (ro:=[]) hE qM Dc (HR ) (([([40,97,48,32,43,32,40,97,49,32,43,32,97,50,41,41,32,61,32,40,40,97,48,32,43,32,97,49,41,32,43,32,97,50,41]),([40,97,48,32,43,32,97,49,41,32,61,32,40,97,49,32,43,32,97,48,41]),([40,97,48,32,43,32,48,41,32,61,32,97,48]),([40,97,48,32,43,32,97,48,41,32,61,32,97,48]),([40,97,48,32,40,97,49,32,97,50,41,41,32,61,32,40,40,97,48,32,97,49,41,32,97,50,41]),([40,49,32,97,48,41,32,61,32,97,48]),([40,97,48,32,49,41,32,61,32,97,48]),([40,97,48,32,40,97,49,32,43,32,97,50,41,41,32,61,32,40,40,97,48,32,97,49,41,32,43,32,40,97,48,32,97,50,41,41]),([40,40,97,48,32,43,32,97,49,41,32,97,50,41,32,61,32,40,40,97,48,32,97,50,41,32,43,32,40,97,49,32,97,50,41,41]),([40,48,32,97,48,41,32,61,32,48]),([40,97,48,32,48,41,32,61,32,48]),([40,49,32,43,32,40,97,48,32,97,48,42,41,41,32,61,32,97,48,42]),([40,49,32,43,32,40,97,48,42,32,97,48,41,41,32,61,32,97,48,42]),([40,116,48,32,116,48,41,32,61,32,116,48]),([40,116,48,32,116,49,41,32,61,32,40,116,49,32,116,48,41]),([40,116,48,32,43,32,126,116,48,41,32,61,32,49]),([40,116,48,32,126,116,48,41,32,61,32,48]),([126,126,116,48,32,61,32,116,48]),([126,40,116,48,32,43,32,116,49,41,32,61,32,40,126,116,48,32,126,116,49,41]),([126,40,116,48,32,116,49,41,32,61,32,40,126,116,48,32,43,32,126,116,49,41]),([126,48,32,61,32,49]),([126,49,32,61,32,48]),([40,116,48,32,43,32,49,41,32,61,32,49]),([40,40,116,48,32,43,32,116,49,41,32,40,116,48,32,43,32,116,50,41,41,32,61,32,40,116,48,32,43,32,40,116,49,32,116,50,41,41])])=oD) (by kernel_rfl) ?_;refine ?_;all_goals try and_intros
 all_goals first|rfl|trivial|omega|(simp only[b3E,b3D,ak,O,bQ,cw,bI,aY] at *;omega)|(simp[ak,O] at *;omega)|grind
def oI:aH.Good ia:=GA trivial
def o8:aH:=⟨A2,[],⟨(none,[⟨(.slice (.st .equation)),FA⟩])⟩⟩
def U8 :Nat->aE:=(λ zb=>if Nat.beq zb 0 then .mk (Nat) (λ i=>i<=24) (λ i=>24 - i) [7] [0,6] (λ i=>[(9, .aI ⟨(.int .i64),((i:Int):Int)⟩),(8, .aI ⟨(.int .i64),((24:Int):Int)⟩),(7, .aI ⟨(.slice .str),(oD:List (List UInt8))⟩),(1, .aw 2300)]) [] (λ i=>[(2300, .aw (.st .equation) (O0 i:List ar))]) [] [] (λ i=>λ _ => .none) else .none)
def Te(hE:aC [pH])(hO:cO [lD])(hM:cT [])(hS:cR []):aH.bX o8:=by
 refine⟨au GP rfl (by decide),?_⟩;show True->cY prog A2 [] [⟨(.slice (.st .equation)),FA⟩];intro  _;refine cj (own:=[6,16,21,22]) (wr:=[]) (cl:=[]) (ro:=[]) hE hO hM hS GP O1 (U8 ) (let v0:=[([40,97,48,32,43,32,40,97,49,32,43,32,97,50,41,41,32,61,32,40,40,97,48,32,43,32,97,49,41,32,43,32,97,50,41]),([40,97,48,32,43,32,97,49,41,32,61,32,40,97,49,32,43,32,97,48,41]),([40,97,48,32,43,32,48,41,32,61,32,97,48]),([40,97,48,32,43,32,97,48,41,32,61,32,97,48]),([40,97,48,32,40,97,49,32,97,50,41,41,32,61,32,40,40,97,48,32,97,49,41,32,97,50,41]),([40,49,32,97,48,41,32,61,32,97,48]),([40,97,48,32,49,41,32,61,32,97,48]),([40,97,48,32,40,97,49,32,43,32,97,50,41,41,32,61,32,40,40,97,48,32,97,49,41,32,43,32,40,97,48,32,97,50,41,41]),([40,40,97,48,32,43,32,97,49,41,32,97,50,41,32,61,32,40,40,97,48,32,97,50,41,32,43,32,40,97,49,32,97,50,41,41]),([40,48,32,97,48,41,32,61,32,48]),([40,97,48,32,48,41,32,61,32,48]),([40,49,32,43,32,40,97,48,32,97,48,42,41,41,32,61,32,97,48,42]),([40,49,32,43,32,40,97,48,42,32,97,48,41,41,32,61,32,97,48,42]),([40,116,48,32,116,48,41,32,61,32,116,48]),([40,116,48,32,116,49,41,32,61,32,40,116,49,32,116,48,41]),([40,116,48,32,43,32,126,116,48,41,32,61,32,49]),([40,116,48,32,126,116,48,41,32,61,32,48]),([126,126,116,48,32,61,32,116,48]),([126,40,116,48,32,43,32,116,49,41,32,61,32,40,126,116,48,32,126,116,49,41]),([126,40,116,48,32,116,49,41,32,61,32,40,126,116,48,32,43,32,126,116,49,41]),([126,48,32,61,32,49]),([126,49,32,61,32,48]),([40,116,48,32,43,32,49,41,32,61,32,49]),([40,40,116,48,32,43,32,116,49,41,32,40,116,48,32,43,32,116,50,41,41,32,61,32,40,116,48,32,43,32,40,116,49,32,116,50,41,41])];((O ((v0.length:Int))->((∃ i1:Nat,(i1<=24/\((True/\(v0=oD/\(((v0.length:Int))=(24:Int)/\((0:Int)=(i1:Int)/\True))))/\([]=(O0 i1)/\True))))/\(∀ i1:Nat,let v1:=[(jU (LK (gP) (oD.getD i1 [])))];let v2:=decide ((i1:Int)<(24:Int));(i1<=24->((v2=true->(ak (i1:Int) oD.length/\((oD.getD i1 []).length<=140737488355328->((bK (gP)=true/\(oD.getD i1 []).length<=8000)/\(aY ((O0 i1).length+v1.length) 80/\(O ((i1:Int)+(1:Int))/\(∃ i2:Nat,(i2<=24/\(24 - i2<24 - i1/\((True/\(oD=oD/\((24:Int)=(24:Int)/\(((i1:Int)+(1:Int))=(i2:Int)/\True))))/\(((O0 i1)++v1)=(O0 i2)/\True)))))))))))/\(v2=false->(O0 i1)=FA)))))))) (by kernel_rfl) ?_;have f0:=oE;have f1:bK gP=true:=by decide
 have f2:O0 0=[]:=rfl;refine λ _=>⟨⟨0,?_,⟨U,?_,?_,?_,U⟩,?_,U⟩,λ i1 _=>have Is:=a3o i1;have It:=a5E i1;have Iu:=a6U i1;have Wi:=a6V i1;⟨λ _=>⟨?_,λ _=>⟨?_,?_,?_,i1+1,?_,?_,⟨U,rfl,rfl,?_,U⟩,?_,U⟩⟩,λ _=>?_⟩⟩;all_goals try and_intros
 all_goals try (first|with_reducible rfl|with_reducible assumption)
 all_goals try simp only[J.eta,ag.eta,ar.eta,aK,br,bG] at *
 all_goals first|rfl|trivial|omega|(simp only[b3E,b3D,aY,ak,O,b3P,b4b] at *;first|omega|grind)|grind
def N3:aH.bX o8:=Te ⟨HF,U⟩ ⟨DF,U⟩ trivial trivial
end
end Go.Proofs.YtmjfpcajohhbeaaGreatDoor

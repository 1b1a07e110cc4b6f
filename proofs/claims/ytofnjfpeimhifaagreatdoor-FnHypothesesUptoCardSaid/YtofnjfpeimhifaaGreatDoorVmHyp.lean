/- VmRch2, VmDif, VmDif2, VmDif3, VmEqu, VmSem, VmSem2, VmSem3, VmHyp. -/
import Derived.Test.YtofnjfpeimhifaaGreatDoorVmRch
set_option linter.all false
set_option maxHeartbeats 4000000
set_option maxRecDepth 4000
namespace Go.Proofs.YtofnjfpeimhifaaGreatDoor
def b3J:=@Nat.le_of_lt
def b3S:=@Bool.not_eq_true
def b4J:=@List.mem_singleton_self
def b2D:=@Bool.true_eq_false
def b5m:=@decide_eq_true_iff
def b5g:=@List.length_reverse
def b1l:=@And.left
def b1m:=@And.right
def b2w:=@List.prefix_refl
def b5n:=@List.prefix_append
noncomputable section
def CZ:bc:=⟨Dk,[.v (.st .automaton), .v (.int .i64), .v (.int .i64), .v (.int .i64)],λ (a:ae) (s:Int) (t:Int) (x:Int)=>⟨(some (B7 a s t x),[⟨(.int .i64),fw a s t x⟩])⟩⟩
def Pp(a:ae)(s:Int)(t:Int)(x:Int):Nat->aP:=cw
def Iy:bc.Good CZ:=by
 refine⟨aH AI,?_⟩;intro (a:ae) (s:Int) (t:Int) (x:Int) (hp:B7 a s t x);refine bf [] [] [] [4] trivial AI H0 (Pp a s t x) (let v1:=a.next.getD (Int.toNat s) [];let v0:=v1.getD (Int.toNat t) [];let v2:=v0.getD (Int.toNat x) (0:Int);((((decide (s<(0:Int)))=true->(-1:Int)=(fw a s t x))/\((decide (s<(0:Int)))=false->(a.next.length<=140737488355328->(aI s a.next.length/\(v1.length<=140737488355328->(aI t v1.length/\(v0.length<=140737488355328->(aI x v0.length/\(av v2->v2=(fw a s t x)))))))))))) ?_;have ha:=hp.h.ha;have n0:=hp.h.s0;have n1:=hp.h.s1;have n2:=hp.h.t0;have n3:=hp.h.t1;have n4:=hp.x0;have n5:=hp.x1;have n6:=ha.rwl s.toNat t.toNat;have n7:=n6.nx;have n8:=n6.r;have n9:=n6.rr;refine⟨λ _=>?_,λ _ _=>⟨?_,λ _=>⟨?_,λ _=>⟨?_,λ _=>?_⟩⟩⟩⟩;all_goals try and_intros
 all_goals (try simp only[b1g,b1r,b0R,b0Q,aI,av,bC,dH,b1H,b2I,b1S,b3x,b1J,b1D,b1z,b0Y,b0W,b1f,b1P] at *);first|done|with_reducible assumption|omega|with_reducible rfl|exact trivial|exact a5v (by with_reducible assumption)|exact a5u (by with_reducible assumption)
def Fu:bc:=⟨FG,[.r (.st .automaton), .v (.int .i64), .v (.int .i64), .v (.int .i64)],λ (a:ae) (s:Int) (t:Int) (x:Int)=>⟨(some (B7 a s t x),[⟨(.int .i64),fw a s t x⟩])⟩⟩
def Q8(a:ae)(s:Int)(t:Int)(x:Int):Nat->aP:=cw
def Kk:bc.Good Fu:=by
 refine⟨aH Cd,?_⟩;intro (a:ae) (s:Int) (t:Int) (x:Int) (hp:B7 a s t x);refine bf [] [] [] [] trivial Cd J7 (Q8 a s t x) (let v1:=a.next.getD (Int.toNat s) [];let v0:=v1.getD (Int.toNat t) [];let v2:=v0.getD (Int.toNat x) (0:Int);((((decide (s<(0:Int)))=true->(-1:Int)=(fw a s t x))/\((decide (s<(0:Int)))=false->(a.next.length<=140737488355328->(aI s a.next.length/\(v1.length<=140737488355328->(aI t v1.length/\(v0.length<=140737488355328->(aI x v0.length/\(av v2->v2=(fw a s t x)))))))))))) ?_;have ha:=hp.h.ha;have n0:=hp.h.s0;have n1:=hp.h.s1;have n2:=hp.h.t0;have n3:=hp.h.t1;have n4:=hp.x0;have n5:=hp.x1;have n6:=ha.rwl s.toNat t.toNat;have n7:=n6.nx;have n8:=n6.r;have n9:=n6.rr;refine⟨λ _=>?_,λ _ _=>⟨?_,λ _=>⟨?_,λ _=>⟨?_,λ _=>?_⟩⟩⟩⟩;all_goals try and_intros
 all_goals (try simp only[b1g,b1r,b0R,b0Q,aI,av,bC,dH,b1H,b2I,b1S,b3x,b1J,b1D,b1z,b0Y,b0W,b1f,b1P] at *);first|done|with_reducible assumption|omega|with_reducible rfl|exact trivial|exact a5v (by with_reducible assumption)|exact a5u (by with_reducible assumption)
def A1:bc:=⟨Bg,[.v (.st .automaton), .v (.int .i64), .v (.int .i64)],λ (a:ae) (s:Int) (t:Int)=>⟨(some (HG a s t),[⟨.bool,jK a s t⟩])⟩⟩
def MO(a:ae)(s:Int)(t:Int):Nat->aP:=cw
def Gy:bc.Good A1:=by
 refine⟨aH xS,?_⟩;intro (a:ae) (s:Int) (t:Int) (hp:HG a s t);refine bf [] [] [] [3] trivial xS F2 (MO a s t) (let v0:=a.accept.getD (Int.toNat s) [];((((decide ((0:Int)<=s))=true->(a.accept.length<=140737488355328->(aI s a.accept.length/\(v0.length<=140737488355328->(aI t v0.length/\(v0.getD (Int.toNat t) false)=(jK a s t))))))/\((decide ((0:Int)<=s))=(!true)->false=(jK a s t))))) ?_;have ha:=hp.ha;have n0:=hp.s0;have n1:=hp.s1;have n2:=hp.t0;have n3:=hp.t1;have n6:=ha.rwl s.toNat t.toNat;have n7:=n6.n;have n8:=n6.ac;refine⟨λ _ _=>⟨?_,λ _=>⟨?_,?_⟩⟩,λ _=>?_⟩;all_goals try and_intros
 all_goals (try simp only[b1g,b1r,b0R,b0Q,aI,av,bC,dH,b1H,b2I,b1S,b3x,b1J,b1D,b1z,b0Y,b0W,b1f,b1P] at *);first|done|with_reducible assumption|omega|with_reducible rfl|exact trivial|exact a4Z (by with_reducible assumption)|exact YA (by with_reducible assumption)|exact YA (by omega)
def C5:bc:=⟨Dr,[.r (.st .automaton), .v (.int .i64), .v (.int .i64)],λ (a:ae) (s:Int) (t:Int)=>⟨(some (HG a s t),[⟨.bool,jK a s t⟩])⟩⟩
def Pw(a:ae)(s:Int)(t:Int):Nat->aP:=cw
def IE:bc.Good C5:=by
 refine⟨aH AN,?_⟩;intro (a:ae) (s:Int) (t:Int) (hp:HG a s t);refine bf [] [] [] [] trivial AN H9 (Pw a s t) (let v0:=a.accept.getD (Int.toNat s) [];((((decide ((0:Int)<=s))=true->(a.accept.length<=140737488355328->(aI s a.accept.length/\(v0.length<=140737488355328->(aI t v0.length/\(v0.getD (Int.toNat t) false)=(jK a s t))))))/\((decide ((0:Int)<=s))=(!true)->false=(jK a s t))))) ?_;have ha:=hp.ha;have n0:=hp.s0;have n1:=hp.s1;have n2:=hp.t0;have n3:=hp.t1;have n6:=ha.rwl s.toNat t.toNat;have n7:=n6.n;have n8:=n6.ac;refine⟨λ _ _=>⟨?_,λ _=>⟨?_,?_⟩⟩,λ _=>?_⟩;all_goals try and_intros
 all_goals (try simp only[b1g,b1r,b0R,b0Q,aI,av,bC,dH,b1H,b2I,b1S,b3x,b1J,b1D,b1z,b0Y,b0W,b1f,b1P] at *);first|done|with_reducible assumption|omega|with_reducible rfl|exact trivial|exact a4Z (by with_reducible assumption)|exact YA (by with_reducible assumption)|exact YA (by omega)
structure RnI(a b:ae)(i:Nat):Prop where
 l1:(aG a b i).length<=3721
 l2:1<=(aG a b i).length
def T3{a b:ae}(h:AB a b)(i:Nat):RnI a b i:=by
 have q:=j8 h i;have:=q.lV h;have:=q.pos;exact⟨by omega,by omega⟩
structure RnT(a b:ae)(i t:Nat):Prop where
 t1:(cA a b ((aG a b i).getD i (af.mk (au.mk (0:Int) (0:Int)) (0:Int) (0:Int) (0:Int))).pair i (aG a b i) t).length<=3721
 t2:i<(cA a b ((aG a b i).getD i (af.mk (au.mk (0:Int) (0:Int)) (0:Int) (0:Int) (0:Int))).pair i (aG a b i) t).length
def rnT{a b:ae}(h:AB a b){i t:Nat}(hi:i<(aG a b i).length)(ht:t<=mK a):RnT a b i t:=by
 have q:=Eb h ((j8 h i).get hi) (j8 h i) hi t ht;have:=q.g.lV h;have:=q.up;exact⟨by omega,by omega⟩
structure RnX(a b:ae)(i t x:Nat):Prop where
 x1:(cI a b ((aG a b i).getD i (af.mk (au.mk (0:Int) (0:Int)) (0:Int) (0:Int) (0:Int))).pair i t (cA a b ((aG a b i).getD i (af.mk (au.mk (0:Int) (0:Int)) (0:Int) (0:Int) (0:Int))).pair i (aG a b i) t) x).length<=3721
 x2:i<(cI a b ((aG a b i).getD i (af.mk (au.mk (0:Int) (0:Int)) (0:Int) (0:Int) (0:Int))).pair i t (cA a b ((aG a b i).getD i (af.mk (au.mk (0:Int) (0:Int)) (0:Int) (0:Int) (0:Int))).pair i (aG a b i) t) x).length
def rnX{a b:ae}(h:AB a b){i t x:Nat}(hi:i<(aG a b i).length)(ht:t<mK a)(hx:x<=kK a):RnX a b i t x:=by
 have q0:=Eb h ((j8 h i).get hi) (j8 h i) hi t (b3J ht);have:=q0.up;have q:=NJ h ((j8 h i).get hi) ht q0.g (show i<(cA a b ((aG a b i).getD i (af.mk (au.mk (0:Int) (0:Int)) (0:Int) (0:Int) (0:Int))).pair i (aG a b i) t).length by omega) x hx;have:=q.g.lV h;have:=q.up;exact⟨by omega,by omega⟩
def rnN{a b:ae}(h:AB a b){i t x:Nat}(hi:i<(aG a b i).length)(ht:t<mK a)(hx:x<kK a):B7 a ((aG a b i).getD i (af.mk (au.mk (0:Int) (0:Int)) (0:Int) (0:Int) (0:Int))).pair.a0 (t:Int) (x:Int)/\B7 b ((aG a b i).getD i (af.mk (au.mk (0:Int) (0:Int)) (0:Int) (0:Int) (0:Int))).pair.a1 (t:Int) (x:Int):=YZ h ((j8 h i).get hi) ht hx
def a5B{a b:ae}(h:AB a b){i t x:Nat}(hi:i<(aG a b i).length)(ht:t<mK a)(hx:x<kK a):B7 a ((aG a b i).getD i (af.mk (au.mk (0:Int) (0:Int)) (0:Int) (0:Int) (0:Int))).pair.a0 (t:Int) (x:Int):=(rnN h hi ht hx).1
def a5C{a b:ae}(h:AB a b){i t x:Nat}(hi:i<(aG a b i).length)(ht:t<mK a)(hx:x<kK a):B7 b ((aG a b i).getD i (af.mk (au.mk (0:Int) (0:Int)) (0:Int) (0:Int) (0:Int))).pair.a1 (t:Int) (x:Int):=(rnN h hi ht hx).2
def a2Q{a b:ae}(h:AB a b){i t x:Nat}(hi:i<(aG a b i).length)(ht:t<mK a)(hx:x<kK a) : -1<=(Nn a b ((aG a b i).getD i (af.mk (au.mk (0:Int) (0:Int)) (0:Int) (0:Int) (0:Int))).pair t x).a0 /\ -1<=(Nn a b ((aG a b i).getD i (af.mk (au.mk (0:Int) (0:Int)) (0:Int) (0:Int) (0:Int))).pair t x).a1:=by
 have q:=rnN h hi ht hx;exact⟨(TN q.1).1,(TN q.2).1⟩
def XS{a b:ae}(h:AB a b){i t x:Nat}(hi:i<(aG a b i).length)(ht:t<mK a)(hx:x<kK a)(w:Option.getD (fK (cI a b ((aG a b i).getD i (af.mk (au.mk (0:Int) (0:Int)) (0:Int) (0:Int) (0:Int))).pair i t (cA a b ((aG a b i).getD i (af.mk (au.mk (0:Int) (0:Int)) (0:Int) (0:Int) (0:Int))).pair i (aG a b i) t) x) (au.mk (fw a ((aG a b i).getD i (af.mk (au.mk (0:Int) (0:Int)) (0:Int) (0:Int) (0:Int))).pair.a0 (t:Int) (x:Int)) (fw b ((aG a b i).getD i (af.mk (au.mk (0:Int) (0:Int)) (0:Int) (0:Int) (0:Int))).pair.a1 (t:Int) (x:Int)))) false=true):(cI a b ((aG a b i).getD i (af.mk (au.mk (0:Int) (0:Int)) (0:Int) (0:Int) (0:Int))).pair i t (cA a b ((aG a b i).getD i (af.mk (au.mk (0:Int) (0:Int)) (0:Int) (0:Int) (0:Int))).pair i (aG a b i) t) x)=(cI a b ((aG a b i).getD i (af.mk (au.mk (0:Int) (0:Int)) (0:Int) (0:Int) (0:Int))).pair i t (cA a b ((aG a b i).getD i (af.mk (au.mk (0:Int) (0:Int)) (0:Int) (0:Int) (0:Int))).pair i (aG a b i) t) (x+1)):=a2L (ls:=(cI a b ((aG a b i).getD i (af.mk (au.mk (0:Int) (0:Int)) (0:Int) (0:Int) (0:Int))).pair i t (cA a b ((aG a b i).getD i (af.mk (au.mk (0:Int) (0:Int)) (0:Int) (0:Int) (0:Int))).pair i (aG a b i) t) x)) (q:=(TX a b ((aG a b i).getD i (af.mk (au.mk (0:Int) (0:Int)) (0:Int) (0:Int) (0:Int))).pair i t x)) ((YP (a2Q h hi ht hx)).1 w)
def a6Y{a b:ae}(h:AB a b){i t x:Nat}(hi:i<(aG a b i).length)(ht:t<mK a)(hx:x<kK a)(w:Option.getD (fK (cI a b ((aG a b i).getD i (af.mk (au.mk (0:Int) (0:Int)) (0:Int) (0:Int) (0:Int))).pair i t (cA a b ((aG a b i).getD i (af.mk (au.mk (0:Int) (0:Int)) (0:Int) (0:Int) (0:Int))).pair i (aG a b i) t) x) (au.mk (fw a ((aG a b i).getD i (af.mk (au.mk (0:Int) (0:Int)) (0:Int) (0:Int) (0:Int))).pair.a0 (t:Int) (x:Int)) (fw b ((aG a b i).getD i (af.mk (au.mk (0:Int) (0:Int)) (0:Int) (0:Int) (0:Int))).pair.a1 (t:Int) (x:Int)))) false=true):fK (cI a b ((aG a b i).getD i (af.mk (au.mk (0:Int) (0:Int)) (0:Int) (0:Int) (0:Int))).pair i t (cA a b ((aG a b i).getD i (af.mk (au.mk (0:Int) (0:Int)) (0:Int) (0:Int) (0:Int))).pair i (aG a b i) t) x)=fK (cI a b ((aG a b i).getD i (af.mk (au.mk (0:Int) (0:Int)) (0:Int) (0:Int) (0:Int))).pair i t (cA a b ((aG a b i).getD i (af.mk (au.mk (0:Int) (0:Int)) (0:Int) (0:Int) (0:Int))).pair i (aG a b i) t) (x+1)):=congrArg fK (XS h hi ht hx w)
def a7a{a b:ae}(h:AB a b){i t x:Nat}(hi:i<(aG a b i).length)(ht:t<mK a)(hx:x<kK a)(w:Option.getD (fK (cI a b ((aG a b i).getD i (af.mk (au.mk (0:Int) (0:Int)) (0:Int) (0:Int) (0:Int))).pair i t (cA a b ((aG a b i).getD i (af.mk (au.mk (0:Int) (0:Int)) (0:Int) (0:Int) (0:Int))).pair i (aG a b i) t) x) (au.mk (fw a ((aG a b i).getD i (af.mk (au.mk (0:Int) (0:Int)) (0:Int) (0:Int) (0:Int))).pair.a0 (t:Int) (x:Int)) (fw b ((aG a b i).getD i (af.mk (au.mk (0:Int) (0:Int)) (0:Int) (0:Int) (0:Int))).pair.a1 (t:Int) (x:Int)))) false=true):(cI a b ((aG a b i).getD i (af.mk (au.mk (0:Int) (0:Int)) (0:Int) (0:Int) (0:Int))).pair i t (cA a b ((aG a b i).getD i (af.mk (au.mk (0:Int) (0:Int)) (0:Int) (0:Int) (0:Int))).pair i (aG a b i) t) x).length+1=(cI a b ((aG a b i).getD i (af.mk (au.mk (0:Int) (0:Int)) (0:Int) (0:Int) (0:Int))).pair i t (cA a b ((aG a b i).getD i (af.mk (au.mk (0:Int) (0:Int)) (0:Int) (0:Int) (0:Int))).pair i (aG a b i) t) (x+1)).length+1:=congrArg (λ l=>List.length l+1) (XS h hi ht hx w)
def XR{a b:ae}(h:AB a b){i t x:Nat}(hi:i<(aG a b i).length)(ht:t<mK a)(hx:x<kK a)(w:Option.getD (fK (cI a b ((aG a b i).getD i (af.mk (au.mk (0:Int) (0:Int)) (0:Int) (0:Int) (0:Int))).pair i t (cA a b ((aG a b i).getD i (af.mk (au.mk (0:Int) (0:Int)) (0:Int) (0:Int) (0:Int))).pair i (aG a b i) t) x) (au.mk (fw a ((aG a b i).getD i (af.mk (au.mk (0:Int) (0:Int)) (0:Int) (0:Int) (0:Int))).pair.a0 (t:Int) (x:Int)) (fw b ((aG a b i).getD i (af.mk (au.mk (0:Int) (0:Int)) (0:Int) (0:Int) (0:Int))).pair.a1 (t:Int) (x:Int)))) false=false):(cI a b ((aG a b i).getD i (af.mk (au.mk (0:Int) (0:Int)) (0:Int) (0:Int) (0:Int))).pair i t (cA a b ((aG a b i).getD i (af.mk (au.mk (0:Int) (0:Int)) (0:Int) (0:Int) (0:Int))).pair i (aG a b i) t) x)++[af.mk (au.mk (fw a ((aG a b i).getD i (af.mk (au.mk (0:Int) (0:Int)) (0:Int) (0:Int) (0:Int))).pair.a0 (t:Int) (x:Int)) (fw b ((aG a b i).getD i (af.mk (au.mk (0:Int) (0:Int)) (0:Int) (0:Int) (0:Int))).pair.a1 (t:Int) (x:Int))) (i:Int) (t:Int) (x:Int)]=(cI a b ((aG a b i).getD i (af.mk (au.mk (0:Int) (0:Int)) (0:Int) (0:Int) (0:Int))).pair i t (cA a b ((aG a b i).getD i (af.mk (au.mk (0:Int) (0:Int)) (0:Int) (0:Int) (0:Int))).pair i (aG a b i) t) (x+1)):=a2I (ls:=(cI a b ((aG a b i).getD i (af.mk (au.mk (0:Int) (0:Int)) (0:Int) (0:Int) (0:Int))).pair i t (cA a b ((aG a b i).getD i (af.mk (au.mk (0:Int) (0:Int)) (0:Int) (0:Int) (0:Int))).pair i (aG a b i) t) x)) (q:=(TX a b ((aG a b i).getD i (af.mk (au.mk (0:Int) (0:Int)) (0:Int) (0:Int) (0:Int))).pair i t x)) λ q=>absurd ((YP (a2Q h hi ht hx)).2 q) (by rw[b3S];exact w)
def a6X{a b:ae}(h:AB a b){i t x:Nat}(hi:i<(aG a b i).length)(ht:t<mK a)(hx:x<kK a)(w:Option.getD (fK (cI a b ((aG a b i).getD i (af.mk (au.mk (0:Int) (0:Int)) (0:Int) (0:Int) (0:Int))).pair i t (cA a b ((aG a b i).getD i (af.mk (au.mk (0:Int) (0:Int)) (0:Int) (0:Int) (0:Int))).pair i (aG a b i) t) x) (au.mk (fw a ((aG a b i).getD i (af.mk (au.mk (0:Int) (0:Int)) (0:Int) (0:Int) (0:Int))).pair.a0 (t:Int) (x:Int)) (fw b ((aG a b i).getD i (af.mk (au.mk (0:Int) (0:Int)) (0:Int) (0:Int) (0:Int))).pair.a1 (t:Int) (x:Int)))) false=false):fb (fK (cI a b ((aG a b i).getD i (af.mk (au.mk (0:Int) (0:Int)) (0:Int) (0:Int) (0:Int))).pair i t (cA a b ((aG a b i).getD i (af.mk (au.mk (0:Int) (0:Int)) (0:Int) (0:Int) (0:Int))).pair i (aG a b i) t) x)) (au.mk (fw a ((aG a b i).getD i (af.mk (au.mk (0:Int) (0:Int)) (0:Int) (0:Int) (0:Int))).pair.a0 (t:Int) (x:Int)) (fw b ((aG a b i).getD i (af.mk (au.mk (0:Int) (0:Int)) (0:Int) (0:Int) (0:Int))).pair.a1 (t:Int) (x:Int))) true=fK (cI a b ((aG a b i).getD i (af.mk (au.mk (0:Int) (0:Int)) (0:Int) (0:Int) (0:Int))).pair i t (cA a b ((aG a b i).getD i (af.mk (au.mk (0:Int) (0:Int)) (0:Int) (0:Int) (0:Int))).pair i (aG a b i) t) (x+1)):=by
 rw[<-XR h hi ht hx w];exact a2t (cI a b ((aG a b i).getD i (af.mk (au.mk (0:Int) (0:Int)) (0:Int) (0:Int) (0:Int))).pair i t (cA a b ((aG a b i).getD i (af.mk (au.mk (0:Int) (0:Int)) (0:Int) (0:Int) (0:Int))).pair i (aG a b i) t) x) (TX a b ((aG a b i).getD i (af.mk (au.mk (0:Int) (0:Int)) (0:Int) (0:Int) (0:Int))).pair i t x)
def a6Z{a b:ae}(h:AB a b){i t x:Nat}(hi:i<(aG a b i).length)(ht:t<mK a)(hx:x<kK a)(w:Option.getD (fK (cI a b ((aG a b i).getD i (af.mk (au.mk (0:Int) (0:Int)) (0:Int) (0:Int) (0:Int))).pair i t (cA a b ((aG a b i).getD i (af.mk (au.mk (0:Int) (0:Int)) (0:Int) (0:Int) (0:Int))).pair i (aG a b i) t) x) (au.mk (fw a ((aG a b i).getD i (af.mk (au.mk (0:Int) (0:Int)) (0:Int) (0:Int) (0:Int))).pair.a0 (t:Int) (x:Int)) (fw b ((aG a b i).getD i (af.mk (au.mk (0:Int) (0:Int)) (0:Int) (0:Int) (0:Int))).pair.a1 (t:Int) (x:Int)))) false=false):gv (fK (cI a b ((aG a b i).getD i (af.mk (au.mk (0:Int) (0:Int)) (0:Int) (0:Int) (0:Int))).pair i t (cA a b ((aG a b i).getD i (af.mk (au.mk (0:Int) (0:Int)) (0:Int) (0:Int) (0:Int))).pair i (aG a b i) t) x) (au.mk (fw a ((aG a b i).getD i (af.mk (au.mk (0:Int) (0:Int)) (0:Int) (0:Int) (0:Int))).pair.a0 (t:Int) (x:Int)) (fw b ((aG a b i).getD i (af.mk (au.mk (0:Int) (0:Int)) (0:Int) (0:Int) (0:Int))).pair.a1 (t:Int) (x:Int)))) ((cI a b ((aG a b i).getD i (af.mk (au.mk (0:Int) (0:Int)) (0:Int) (0:Int) (0:Int))).pair i t (cA a b ((aG a b i).getD i (af.mk (au.mk (0:Int) (0:Int)) (0:Int) (0:Int) (0:Int))).pair i (aG a b i) t) x).length+1)=(cI a b ((aG a b i).getD i (af.mk (au.mk (0:Int) (0:Int)) (0:Int) (0:Int) (0:Int))).pair i t (cA a b ((aG a b i).getD i (af.mk (au.mk (0:Int) (0:Int)) (0:Int) (0:Int) (0:Int))).pair i (aG a b i) t) (x+1)).length+1:=by
 rw[<-XR h hi ht hx w,a2s (by rw[b3S];exact w)];simp
def rzT{a b:ae}{p:au}{i:Nat}{ls:List af}:ls=cA a b p i ls 0:=rfl
def rzX{a b:ae}{p:au}{i t:Nat}{ls:List af}:ls=cI a b p i t ls 0:=rfl
def rzL(a b:ae):[af.mk (au.mk (0:Int) (0:Int)) (-1:Int) (0:Int) (0:Int)]=aG a b 0:=rfl
def a4b(q:au):fK [af.mk (au.mk (0:Int) (0:Int)) (-1:Int) (0:Int) (0:Int)] q=if (q.a0=0/\q.a1=0)\/(q.a0 = -1/\q.a1 = -1) then some true else none:=by
 unfold fK;have:lL [af.mk (au.mk (0:Int) (0:Int)) (-1:Int) (0:Int) (0:Int)] q=true↔(q.a0=0/\q.a1=0):=by
  rw[pM];constructor
  .rintro⟨r,h1,h2⟩;rw[b0Z] at h1;subst h1;subst h2;exact⟨rfl,rfl⟩
  .rintro⟨h1,h2⟩;refine⟨_,b4J _,?_⟩;obtain⟨q0,q1⟩:=q;simp only at h1 h2;rw[h1,h2]
 simp only[this]
def Nt(p q:au):p=q↔p.a0=q.a0/\p.a1=q.a1:=by
 obtain⟨p0,p1⟩:=p;obtain⟨q0,q1⟩:=q;simp
def YQ(a b:ae):fb (fb (iL au Bool) (au.mk (0:Int) (0:Int)) true) (au.mk (-1:Int) (-1:Int)) true=fK (aG a b 0):=by
 rw[<-rzL];funext q;rw[a4b];unfold fb iL;simp only[Nt];by_cases h1:q.a0=0/\q.a1=0
 .rw[b0N (show ¬ (q.a0 = -1/\q.a1 = -1) by omega),b0T h1,b0T (Or.inl h1)]
 .by_cases h2:q.a0 = -1/\q.a1 = -1
  .rw[b0T h2,b0T (Or.inr h2)]
  .rw[b0N h2,b0N h1,b0N (λ w=>w.elim h1 h2)]
def a4c(a b:ae):fb (fb (iL au Bool) (au.mk (-1:Int) (-1:Int)) true) (au.mk (0:Int) (0:Int)) true=fK (aG a b 0):=by
 rw[<-YQ];funext q;unfold fb;simp only[Nt];by_cases h1:q.a0=0/\q.a1=0
 .rw[b0T h1,b0N (show ¬ (q.a0 = -1/\q.a1 = -1) by omega),b0T h1]
 .rw[b0N h1];by_cases h2:q.a0 = -1/\q.a1 = -1
  .rw[b0T h2,b0T h2]
  .rw[b0N h2,b0N h2,b0N h1]
def a4d(a b:ae):gv (fb (iL au Bool) (au.mk (0:Int) (0:Int)) true (au.mk (-1:Int) (-1:Int))) (gv (iL au Bool (au.mk (0:Int) (0:Int))) 0)=(aG a b 0).length+1:=by
 unfold fb;rw[if_neg (by rw[Nt];decide)];rfl
def a4e(a b:ae):gv (fb (iL au Bool) (au.mk (-1:Int) (-1:Int)) true (au.mk (0:Int) (0:Int))) (gv (iL au Bool (au.mk (-1:Int) (-1:Int))) 0)=(aG a b 0).length+1:=by
 unfold fb;rw[if_neg (by rw[Nt];decide)];rfl
def rxT{a b:ae}{i t x:Nat}(h:x=kK a):(cI a b ((aG a b i).getD i (af.mk (au.mk (0:Int) (0:Int)) (0:Int) (0:Int) (0:Int))).pair i t (cA a b ((aG a b i).getD i (af.mk (au.mk (0:Int) (0:Int)) (0:Int) (0:Int) (0:Int))).pair i (aG a b i) t) x)=cA a b ((aG a b i).getD i (af.mk (au.mk (0:Int) (0:Int)) (0:Int) (0:Int) (0:Int))).pair i (aG a b i) (t+1):=by subst h;rfl
def rtI{a b:ae}{i t:Nat}(hi:i<(aG a b i).length)(h:t=mK a):(cA a b ((aG a b i).getD i (af.mk (au.mk (0:Int) (0:Int)) (0:Int) (0:Int) (0:Int))).pair i (aG a b i) t)=aG a b (i+1):=by subst h;rw[aG,b0T hi]
def Ft:bc:=⟨FC,[.v (.st .automaton), .v (.st .automaton)],λ (a:ae) (b:ae)=>⟨(some (AB a b),[⟨(.slice (.st .reached)),cN a b⟩])⟩⟩
def Q3(a:ae)(b:ae):Nat->aP:=(eR 100003 (.u (AB a b) [0,1,4,12,13,14] [(5, .row 14),(6, .mp 15)] [] [(14, .row mu (.st .reached) ((aG a b 0):List af)),(15, .map ⟨(.st .arr2), .bool,(fK (aG a b 0):au->Option Bool),((aG a b 0).length+1)⟩)] (eR 0 (.mk (Nat) (λ i=>i<=(aG a b i).length) (λ i=>3722 - i) [] [] (λ i=>[(7, .aO ⟨(.int .i64),((i:Int):Int)⟩),(5, .row 14),(6, .mp 15)]) [] (λ i=>[(14, .row mu (.st .reached) ((aG a b i):List af)),(15, .map ⟨(.st .arr2), .bool,(fK (aG a b i):au->Option Bool),((aG a b i).length+1)⟩)]) [] [] (λ i=>(eR 2 (.mk (Nat) (λ t=>t<=mK a/\i<(aG a b i).length) (λ t=>mK a - t) [] [19,20,21,22,25,26,27,28,29,30,31] (λ t=>[(33, .aO ⟨(.int .i64),((t:Int):Int)⟩),(5, .row 14),(6, .mp 15)]) [8] (λ t=>[(14, .row mu (.st .reached) ((cA a b ((aG a b i).getD i (af.mk (au.mk (0:Int) (0:Int)) (0:Int) (0:Int) (0:Int))).pair i (aG a b i) t):List af)),(15, .map ⟨(.st .arr2), .bool,(fK (cA a b ((aG a b i).getD i (af.mk (au.mk (0:Int) (0:Int)) (0:Int) (0:Int) (0:Int))).pair i (aG a b i) t):au->Option Bool),((cA a b ((aG a b i).getD i (af.mk (au.mk (0:Int) (0:Int)) (0:Int) (0:Int) (0:Int))).pair i (aG a b i) t).length+1)⟩)]) [] [] (λ t=>(eR 4 (.a (Nat) (λ x=>x<=kK a/\t<mK a) (λ x=>kK a - x) [34,35,36,37] (λ x=>[(39, .aO ⟨(.int .i64),((x:Int):Int)⟩),(5, .row 14),(6, .mp 15)]) [8] (λ x=>[(14, .row mu (.st .reached) ((cI a b ((aG a b i).getD i (af.mk (au.mk (0:Int) (0:Int)) (0:Int) (0:Int) (0:Int))).pair i t (cA a b ((aG a b i).getD i (af.mk (au.mk (0:Int) (0:Int)) (0:Int) (0:Int) (0:Int))).pair i (aG a b i) t) x):List af)),(15, .map ⟨(.st .arr2), .bool,(fK (cI a b ((aG a b i).getD i (af.mk (au.mk (0:Int) (0:Int)) (0:Int) (0:Int) (0:Int))).pair i t (cA a b ((aG a b i).getD i (af.mk (au.mk (0:Int) (0:Int)) (0:Int) (0:Int) (0:Int))).pair i (aG a b i) t) x):au->Option Bool),((cI a b ((aG a b i).getD i (af.mk (au.mk (0:Int) (0:Int)) (0:Int) (0:Int) (0:Int))).pair i t (cA a b ((aG a b i).getD i (af.mk (au.mk (0:Int) (0:Int)) (0:Int) (0:Int) (0:Int))).pair i (aG a b i) t) x).length+1)⟩)])) cw))) cw))) cw)) cw)
abbrev AX(a:ae)(b:ae):Prop:=(let v0:=au.mk (0:Int) (0:Int);let v1:=iL au Bool;let v2:=au.mk (-1:Int) (-1:Int);(0<1000000000/\((gv ((v1 v0)) 0)<1000000000/\(∃ u1:Unit,(AB a b/\((a=a/\(b=b/\(True/\(True/\True))))/\(([(af.mk v0 (-1:Int) (0:Int) (0:Int))])=(aG a b 0)/\(((fb (fb v1 v0 true) v2 true)=(fK (aG a b 0))/\(gv (((fb v1 v0 true) v2)) (gv ((v1 v0)) 0))=((aG a b 0).length+1))/\True))))))))
abbrev ML(a:ae)(b:ae):Prop:=(let v0:=au.mk (-1:Int) (-1:Int);let v1:=au.mk (0:Int) (0:Int);let v2:=iL au Bool;((0<1000000000/\((gv ((v2 v0)) 0)<1000000000/\(∃ u1:Unit,(AB a b/\((a=a/\(b=b/\(True/\(True/\True))))/\(([(af.mk v1 (-1:Int) (0:Int) (0:Int))])=(aG a b 0)/\(((fb (fb v2 v0 true) v1 true)=(fK (aG a b 0))/\(gv (((fb v2 v0 true) v1)) (gv ((v2 v0)) 0))=((aG a b 0).length+1))/\True)))))))/\True))
abbrev MM(a:ae)(b:ae)(i2:Nat):Prop:=(let v0:=(aG a b i2).getD i2 (af.mk (au.mk (0:Int) (0:Int)) (0:Int) (0:Int) (0:Int));((v0.pair.a0=v0.pair.a0/\(v0.pair.a1=v0.pair.a1/\True))/\True))
abbrev AY(a:ae)(b:ae)(i2:Nat)(t3:Nat)(x4:Nat)(x5:Nat):Prop:=(a=a/\(b=b/\(True/\(True/\((i2:Int)=(i2:Int)/\(True/\((t3:Int)=(t3:Int)/\((bn a.sig)=(bn a.sig)/\((t3:Int)=(t3:Int)/\(a.sig.aw=a.sig.aw/\(((x4:Int)+(1:Int))=(x5:Int)/\True)))))))))))
def Kh:bc.Good Ft:=by
 refine⟨aH B9,?_⟩;intro (a:ae) (b:ae) (hp:AB a b);refine bf [jy,CZ] [] [] [2,3] ⟨je,Iy,ag⟩ B9 J2 (Q3 a b) (let v2:=bn a.sig;let v3:=(0:Int);let v0:=af.mk (au.mk v3 v3) v3 v3 v3;let v5:=ML a b;let v1:=(AX a b)/\v5;let v4:=(AX a b)/\(v1/\True);let v6:=(1:Int);((((v4/\((v1/\v5)/\True))/\((v4/\(v1/\True))/\(((v1/\v5)/\(v1/\True))/\True)))/\(∀ u1:Unit,(AB a b->((∃ i2:Nat,(i2<=(aG a b i2).length/\((a=a/\(b=b/\(True/\(True/\(v3=(i2:Int)/\True)))))/\((aG a b 0)=(aG a b i2)/\(((fK (aG a b 0))=(fK (aG a b i2))/\((aG a b 0).length+1)=((aG a b i2).length+1))/\True)))))/\(∀ i2:Nat,let v8:=aG a b i2;let v7:=v8.getD i2 v0;let v9:=(i2:Int);let va:=MM a b i2;let vb:=decide (v9<((v8.length:Int)));(i2<=v8.length->(av ((v8.length:Int))->((vb=true->(aI v9 v8.length/\((0<=a.sig.aS/\a.sig.aS<=3)/\(av v2->((∃ t3:Nat,let vc:=cA a b v7.pair i2 v8 t3;((t3<=mK a/\i2<v8.length)/\((a=a/\(b=b/\(True/\(True/\(v9=v9/\(True/\(v2=v2/\(v3=(t3:Int)/\True))))))))/\(v8=vc/\(((fK v8)=(fK vc)/\(v8.length+1)=(vc.length+1))/\va)))))/\(∀ t3:Nat,let vc:=cA a b v7.pair i2 v8 t3;let vd:=(t3:Int);((t3<=mK a/\i2<v8.length)->(((decide (vd<v2))=true->(av a.sig.aw->((∃ x4:Nat,let ve:=cI a b v7.pair i2 t3 vc x4;((x4<=kK a/\t3<mK a)/\((a=a/\(b=b/\(True/\(True/\(v9=v9/\(True/\(vd=vd/\(v2=v2/\(vd=vd/\(a.sig.aw=a.sig.aw/\(v3=(x4:Int)/\True)))))))))))/\(vc=ve/\(((fK vc)=(fK ve)/\(vc.length+1)=(ve.length+1))/\va)))))/\(∀ x4:Nat,let vf:=cI a b v7.pair i2 t3 vc x4;let vg:=(x4:Int);let ve:=au.mk (fw a v7.pair.a0 vd vg) (fw b v7.pair.a1 vd vg);let vh:=vf.length+1;let vi := !(Option.getD (((fK vf) ve)) false);((x4<=kK a/\t3<mK a)->(((decide (vg<a.sig.aw))=true->(B7 a v7.pair.a0 vd vg/\(B7 b v7.pair.a1 vd vg/\(av v7.pair.a0->(av (fw a v7.pair.a0 vd vg)->(av v7.pair.a1->(av (fw b v7.pair.a1 vd vg)->((vi=true->(vh<1000000000/\(bC (vf.length+([(af.mk ve v9 vd vg)]).length) 40/\(av (vg+v6)/\(∃ x5:Nat,let vj:=cI a b v7.pair i2 t3 vc x5;((x5<=kK a/\t3<mK a)/\(kK a - x5<kK a - x4/\((AY a b i2 t3 x4 x5)/\((vf++([(af.mk ve v9 vd vg)]))=vj/\(((fb (fK vf) ve true)=(fK vj)/\(gv (((fK vf) ve)) vh)=(vj.length+1))/\va))))))))))/\(vi=false->(av (vg+v6)/\(∃ x5:Nat,let vj:=cI a b v7.pair i2 t3 vc x5;((x5<=kK a/\t3<mK a)/\(kK a - x5<kK a - x4/\((AY a b i2 t3 x4 x5)/\(vf=vj/\(((fK vf)=(fK vj)/\vh=(vj.length+1))/\va))))))))))))))))/\((decide (vg<a.sig.aw))=false->(av (vd+v6)/\(∃ t5:Nat,let vj:=cA a b v7.pair i2 v8 t5;((t5<=mK a/\i2<v8.length)/\(mK a - t5<mK a - t3/\((a=a/\(b=b/\(True/\(True/\(v9=v9/\(True/\(v2=v2/\((vd+v6)=(t5:Int)/\True))))))))/\(vf=vj/\(((fK vf)=(fK vj)/\vh=(vj.length+1))/\va))))))))))))))/\((decide (vd<v2))=false->(av (v9+v6)/\(∃ i4:Nat,(i4<=(aG a b i4).length/\(3722 - i4<3722 - i2/\((a=a/\(b=b/\(True/\(True/\((v9+v6)=(i4:Int)/\True)))))/\(vc=(aG a b i4)/\(((fK vc)=(fK (aG a b i4))/\(vc.length+1)=((aG a b i4).length+1))/\True))))))))))))))))/\(vb=false->v8=(cN a b)))))))))))) ?_;have ha:=hp.ka;have hb:=hp.kb;have n1:(bn a.sig)=(mK a:Int):=ha.lens.2.2.2.1.symm;have n2:a.sig.aw=(kK a:Int):=ha.lens.2.2.2.2.symm;have n4:=(dy a.sig).1 ha.s;have n5:=ha.lens;refine⟨⟨⟨⟨⟨?_,?_,(),?_,⟨rfl,rfl,ag,ag,ag⟩,?_,⟨?_,?_⟩,ag⟩,⟨⟨?_,?_,(),?_,⟨rfl,rfl,ag,ag,ag⟩,?_,⟨?_,?_⟩,ag⟩,⟨?_,?_,(),?_,⟨rfl,rfl,ag,ag,ag⟩,?_,⟨?_,?_⟩,ag⟩,ag⟩,ag⟩,⟨⟨⟨?_,?_,(),?_,⟨rfl,rfl,ag,ag,ag⟩,?_,⟨?_,?_⟩,ag⟩,⟨?_,?_,(),?_,⟨rfl,rfl,ag,ag,ag⟩,?_,⟨?_,?_⟩,ag⟩,ag⟩,⟨?_,?_,(),?_,⟨rfl,rfl,ag,ag,ag⟩,?_,⟨?_,?_⟩,ag⟩,ag⟩,ag⟩,⟨⟨⟨?_,?_,(),?_,⟨rfl,rfl,ag,ag,ag⟩,?_,⟨?_,?_⟩,ag⟩,⟨⟨?_,?_,(),?_,⟨rfl,rfl,ag,ag,ag⟩,?_,⟨?_,?_⟩,ag⟩,⟨?_,?_,(),?_,⟨rfl,rfl,ag,ag,ag⟩,?_,⟨?_,?_⟩,ag⟩,ag⟩,ag⟩,⟨⟨?_,?_,(),?_,⟨rfl,rfl,ag,ag,ag⟩,?_,⟨?_,?_⟩,ag⟩,⟨?_,?_,(),?_,⟨rfl,rfl,ag,ag,ag⟩,?_,⟨?_,?_⟩,ag⟩,ag⟩,ag⟩,⟨⟨⟨⟨?_,?_,(),?_,⟨rfl,rfl,ag,ag,ag⟩,?_,⟨?_,?_⟩,ag⟩,⟨?_,?_,(),?_,⟨rfl,rfl,ag,ag,ag⟩,?_,⟨?_,?_⟩,ag⟩,ag⟩,⟨?_,?_,(),?_,⟨rfl,rfl,ag,ag,ag⟩,?_,⟨?_,?_⟩,ag⟩,ag⟩,⟨⟨?_,?_,(),?_,⟨rfl,rfl,ag,ag,ag⟩,?_,⟨?_,?_⟩,ag⟩,⟨?_,?_,(),?_,⟨rfl,rfl,ag,ag,ag⟩,?_,⟨?_,?_⟩,ag⟩,ag⟩,ag⟩,ag⟩,λ u1 a0=>⟨⟨0,?_,⟨rfl,rfl,ag,ag,?_,ag⟩,?_,⟨?_,?_⟩,ag⟩,λ i2 a1 _=>⟨λ _=>⟨?_,?_,λ _=>⟨⟨0,?_,⟨rfl,rfl,ag,ag,rfl,ag,rfl,?_,ag⟩,?_,⟨?_,?_⟩,⟨rfl,rfl,ag⟩,ag⟩,λ t3 _=>⟨λ _ _=>⟨⟨0,?_,⟨rfl,rfl,ag,ag,rfl,ag,rfl,rfl,rfl,rfl,?_,ag⟩,?_,⟨?_,?_⟩,⟨rfl,rfl,ag⟩,ag⟩,λ x4 _=>⟨λ _=>⟨?_,?_,λ _ _ _ _=>⟨λ _=>⟨?_,?_,?_,x4+1,?_,?_,⟨rfl,rfl,ag,ag,rfl,ag,rfl,rfl,rfl,rfl,?_,ag⟩,?_,⟨?_,?_⟩,⟨rfl,rfl,ag⟩,ag⟩,λ _=>⟨?_,x4+1,?_,?_,⟨rfl,rfl,ag,ag,rfl,ag,rfl,rfl,rfl,rfl,?_,ag⟩,?_,⟨?_,?_⟩,⟨rfl,rfl,ag⟩,ag⟩⟩⟩,λ _=>⟨?_,t3+1,?_,?_,⟨rfl,rfl,ag,ag,rfl,ag,rfl,?_,ag⟩,?_,⟨?_,?_⟩,⟨rfl,rfl,ag⟩,ag⟩⟩⟩,λ _=>⟨?_,i2+1,?_,?_,⟨rfl,rfl,ag,ag,?_,ag⟩,?_,⟨?_,?_⟩,ag⟩⟩⟩⟩,λ _=>?_⟩⟩⟩;all_goals try and_intros
 all_goals (try simp only[b1g,b1r,b0R,b0Q,aI,av,bC,dH,b1H,b2I,b1S,b3x,b1J,b1D,b1z,b2D,b0Y,b0W,b1f,b1P] at *);first|done|with_reducible assumption|omega|with_reducible rfl|exact trivial|(have q0:=T3 hp i2;obtain⟨_,_⟩:=q0;omega)|(have q0:=T3 hp i2;obtain⟨_,_⟩:=q0;have q0:=rnT hp (i:=i2) (t:=t3) (by omega) (by omega);obtain⟨_,_⟩:=q0;omega)|(have q0:=T3 hp i2;obtain⟨_,_⟩:=q0;have q0:=rnT hp (i:=i2) (t:=t3) (by omega) (by omega);obtain⟨_,_⟩:=q0;have q0:=rnX hp (i:=i2) (t:=t3) (x:=x4) (by omega) (by omega) (by omega);obtain⟨_,_⟩:=q0;omega)|exact a5B hp (by omega) (by omega) (by omega)|exact a5C hp (by omega) (by omega) (by omega)|exact XS hp (by omega) (by omega) (by omega) (by with_reducible assumption)|exact a6Y hp (by omega) (by omega) (by omega) (by with_reducible assumption)|exact a7a hp (by omega) (by omega) (by omega) (by with_reducible assumption)|exact XR hp (by omega) (by omega) (by omega) (by with_reducible assumption)|exact a6X hp (by omega) (by omega) (by omega) (by with_reducible assumption)|exact a6Z hp (by omega) (by omega) (by omega) (by with_reducible assumption)|exact YQ a b|exact a4c a b|exact a4d a b|exact a4e a b|exact rzL a b|exact rzT|exact congrArg fK rzT|exact congrArg (λ l=>List.length l+1) rzT|exact rzX|exact congrArg fK rzX|exact congrArg (λ l=>List.length l+1) rzX|(simp[gv,iL];done)|exact rxT (by omega)|exact congrArg fK (rxT (by omega))|exact congrArg (λ l=>List.length l+1) (rxT (by omega))|exact rtI (by omega) (by omega)|exact congrArg fK (rtI (by omega) (by omega))|exact congrArg (λ l=>List.length l+1) (rtI (by omega) (by omega))|exact YY hp (by omega)|(have q0:=T3 hp i2;obtain⟨_,_⟩:=q0;exact P4 (i:=i2) (by omega) (by omega))
def p0(ls:List af):List Int:=ls.map λ r=>r.pair.a0
def p1(ls:List af):List Int:=ls.map λ r=>r.pair.a1
def YU(ls:List af):(p0 ls).length=ls.length:=by simp[p0]
def YV(ls:List af):(p1 ls).length=ls.length:=by simp[p1]
def D7{ls:List af}{k:Nat}(h:k<ls.length):(p0 ls).getD k 0=(ls.getD k (af.mk (au.mk (0:Int) (0:Int)) (0:Int) (0:Int) (0:Int))).pair.a0:=by simp[p0,b0S,h]
def D8{ls:List af}{k:Nat}(h:k<ls.length):(p1 ls).getD k 0=(ls.getD k (af.mk (au.mk (0:Int) (0:Int)) (0:Int) (0:Int) (0:Int))).pair.a1:=by simp[p1,b0S,h]
def pz0(a b:ae):[(0:Int)]=p0 (aG a b 0):=rfl
def pz1(a b:ae):[(0:Int)]=p1 (aG a b 0):=rfl
abbrev XN(a:ae)(ls:List af)(i t x:Nat):Int:=fw a ((p0 ls).getD i 0) (t:Int) (x:Int)
abbrev qw1(b:ae)(ls:List af)(i t x:Nat):Int:=fw b ((p1 ls).getD i 0) (t:Int) (x:Int)
def oI(a b:ae)(ls:List af)(i t x:Nat):au:=au.mk (XN a ls i t x) (qw1 b ls i t x)
def oH(ls:List af)(q:au)(k:Nat):Bool:=y7 q||lL (ls.take k) q
def a6N{ls:List af}{q:au}{k:Nat}{p:Prop}(h:oH ls q k=true)(h2:oH ls q k=false):p:=by rw[h] at h2;cases h2
def T4{a b:ae}(h:AB a b){i t x:Nat}(hi:i<(aG a b i).length)(ht:t<mK a)(hx:x<=kK a):(cI a b ((aG a b i).getD i (af.mk (au.mk (0:Int) (0:Int)) (0:Int) (0:Int) (0:Int))).pair i t (cA a b ((aG a b i).getD i (af.mk (au.mk (0:Int) (0:Int)) (0:Int) (0:Int) (0:Int))).pair i (aG a b i) t) x).getD i (af.mk (au.mk (0:Int) (0:Int)) (0:Int) (0:Int) (0:Int))=(aG a b i).getD i (af.mk (au.mk (0:Int) (0:Int)) (0:Int) (0:Int) (0:Int)):=by
 have q0:=Eb h ((j8 h i).get hi) (j8 h i) hi t (b3J ht);have u:=q0.up;have q:=NJ h ((j8 h i).get hi) ht q0.g (show i<(cA a b ((aG a b i).getD i (af.mk (au.mk (0:Int) (0:Int)) (0:Int) (0:Int) (0:Int))).pair i (aG a b i) t).length by omega) x hx;exact (q.pre i (by omega)).trans (q0.pre i hi)
def a2F{a b:ae}(h:AB a b){i t x:Nat}(hi:i<(aG a b i).length)(ht:t<mK a)(hx:x<=kK a):oI a b (cI a b ((aG a b i).getD i (af.mk (au.mk (0:Int) (0:Int)) (0:Int) (0:Int) (0:Int))).pair i t (cA a b ((aG a b i).getD i (af.mk (au.mk (0:Int) (0:Int)) (0:Int) (0:Int) (0:Int))).pair i (aG a b i) t) x) i t x=Nn a b ((aG a b i).getD i (af.mk (au.mk (0:Int) (0:Int)) (0:Int) (0:Int) (0:Int))).pair t x:=by
 have u:=(rnX h hi ht hx).x2;unfold oI Nn XN qw1;rw[D7 u,D8 u,T4 h hi ht hx]
def qn0{a b:ae}(h:AB a b){i t x:Nat}(hi:i<(aG a b i).length)(ht:t<mK a)(hx:x<kK a):B7 a ((p0 (cI a b ((aG a b i).getD i (af.mk (au.mk (0:Int) (0:Int)) (0:Int) (0:Int) (0:Int))).pair i t (cA a b ((aG a b i).getD i (af.mk (au.mk (0:Int) (0:Int)) (0:Int) (0:Int) (0:Int))).pair i (aG a b i) t) x)).getD i 0) (t:Int) (x:Int):=by
 have u:=(rnX h hi ht (b3J hx)).x2;rw[D7 u,T4 h hi ht (b3J hx)];exact a5B h hi ht hx
def qn1{a b:ae}(h:AB a b){i t x:Nat}(hi:i<(aG a b i).length)(ht:t<mK a)(hx:x<kK a):B7 b ((p1 (cI a b ((aG a b i).getD i (af.mk (au.mk (0:Int) (0:Int)) (0:Int) (0:Int) (0:Int))).pair i t (cA a b ((aG a b i).getD i (af.mk (au.mk (0:Int) (0:Int)) (0:Int) (0:Int) (0:Int))).pair i (aG a b i) t) x)).getD i 0) (t:Int) (x:Int):=by
 have u:=(rnX h hi ht (b3J hx)).x2;rw[D8 u,T4 h hi ht (b3J hx)];exact a5C h hi ht hx
def a6I{a b:ae}{ls:List af}{i t x:Nat}(h:XN a ls i t x<0):decide (qw1 b ls i t x<0)=oH ls (oI a b ls i t x) 0:=by
 unfold oH y7 oI lL;simp[h]
def a2u{a b:ae}{ls:List af}{i t x:Nat}(h:¬ XN a ls i t x<0):false=oH ls (oI a b ls i t x) 0:=by
 unfold oH y7 oI lL;simp[h]
def a2v{ls:List af}{q:au}{k:Nat}(hk:k<ls.length)(w:oH ls q k=false):oH ls q (k+1)=(decide ((p0 ls).getD k 0=q.a0)&&decide ((p1 ls).getD k 0=q.a1)):=by
 unfold oH at w ⊢;rw[Bool.or_eq_false_iff] at w;rw[w.1,Bool.false_or,List.take_add_one,D7 hk,D8 hk];have e:ls[k]?.toList=[ls.getD k (af.mk (au.mk (0:Int) (0:Int)) (0:Int) (0:Int) (0:Int))]:=by simp[List.getD_eq_getElem?_getD,hk]
 rw[e];unfold lL at w ⊢;rw[List.any_append,w.2,Bool.false_or,List.any_cons,List.any_nil,Bool.or_false]
def a6K{a b:ae}{ls:List af}{i t x k:Nat}(hk:k<ls.length)(w:oH ls (oI a b ls i t x) k=false)(h:(p0 ls).getD k 0=XN a ls i t x):decide ((p1 ls).getD k 0=qw1 b ls i t x)=oH ls (oI a b ls i t x) (k+1):=by
 rw[a2v hk w];unfold oI;rw[h,decide_eq_true rfl,Bool.true_and]
def a6J{a b:ae}{ls:List af}{i t x k:Nat}(hk:k<ls.length)(w:oH ls (oI a b ls i t x) k=false)(h:¬ (p0 ls).getD k 0=XN a ls i t x):false=oH ls (oI a b ls i t x) (k+1):=by
 rw[a2v hk w];unfold oI;rw[decide_eq_false h,Bool.false_and]
def a5r{a b:ae}(h:AB a b){i t x k:Nat}(hi:i<(aG a b i).length)(ht:t<mK a)(hx:x<kK a)(w:oH (cI a b ((aG a b i).getD i (af.mk (au.mk (0:Int) (0:Int)) (0:Int) (0:Int) (0:Int))).pair i t (cA a b ((aG a b i).getD i (af.mk (au.mk (0:Int) (0:Int)) (0:Int) (0:Int) (0:Int))).pair i (aG a b i) t) x) (oI a b (cI a b ((aG a b i).getD i (af.mk (au.mk (0:Int) (0:Int)) (0:Int) (0:Int) (0:Int))).pair i t (cA a b ((aG a b i).getD i (af.mk (au.mk (0:Int) (0:Int)) (0:Int) (0:Int) (0:Int))).pair i (aG a b i) t) x) i t x) k=true):(cI a b ((aG a b i).getD i (af.mk (au.mk (0:Int) (0:Int)) (0:Int) (0:Int) (0:Int))).pair i t (cA a b ((aG a b i).getD i (af.mk (au.mk (0:Int) (0:Int)) (0:Int) (0:Int) (0:Int))).pair i (aG a b i) t) x)=(cI a b ((aG a b i).getD i (af.mk (au.mk (0:Int) (0:Int)) (0:Int) (0:Int) (0:Int))).pair i t (cA a b ((aG a b i).getD i (af.mk (au.mk (0:Int) (0:Int)) (0:Int) (0:Int) (0:Int))).pair i (aG a b i) t) (x+1)):=by
 rw[a2F h hi ht (Nat.le_of_lt hx)] at w;unfold oH at w;rw[Bool.or_eq_true] at w;refine a2L (ls:=(cI a b ((aG a b i).getD i (af.mk (au.mk (0:Int) (0:Int)) (0:Int) (0:Int) (0:Int))).pair i t (cA a b ((aG a b i).getD i (af.mk (au.mk (0:Int) (0:Int)) (0:Int) (0:Int) (0:Int))).pair i (aG a b i) t) x)) (q:=(TX a b ((aG a b i).getD i (af.mk (au.mk (0:Int) (0:Int)) (0:Int) (0:Int) (0:Int))).pair i t x)) (w.imp id λ w=>?_);obtain⟨r,h1,h2⟩:=pM.1 w;exact pM.2 ⟨r,List.mem_of_mem_take h1,h2⟩
def a6O{a b:ae}(h:AB a b){i t x k:Nat}(hi:i<(aG a b i).length)(ht:t<mK a)(hx:x<kK a)(w:oH (cI a b ((aG a b i).getD i (af.mk (au.mk (0:Int) (0:Int)) (0:Int) (0:Int) (0:Int))).pair i t (cA a b ((aG a b i).getD i (af.mk (au.mk (0:Int) (0:Int)) (0:Int) (0:Int) (0:Int))).pair i (aG a b i) t) x) (oI a b (cI a b ((aG a b i).getD i (af.mk (au.mk (0:Int) (0:Int)) (0:Int) (0:Int) (0:Int))).pair i t (cA a b ((aG a b i).getD i (af.mk (au.mk (0:Int) (0:Int)) (0:Int) (0:Int) (0:Int))).pair i (aG a b i) t) x) i t x) k=true):p0 (cI a b ((aG a b i).getD i (af.mk (au.mk (0:Int) (0:Int)) (0:Int) (0:Int) (0:Int))).pair i t (cA a b ((aG a b i).getD i (af.mk (au.mk (0:Int) (0:Int)) (0:Int) (0:Int) (0:Int))).pair i (aG a b i) t) x)=p0 (cI a b ((aG a b i).getD i (af.mk (au.mk (0:Int) (0:Int)) (0:Int) (0:Int) (0:Int))).pair i t (cA a b ((aG a b i).getD i (af.mk (au.mk (0:Int) (0:Int)) (0:Int) (0:Int) (0:Int))).pair i (aG a b i) t) (x+1)):=congrArg p0 (a5r h hi ht hx w)
def a6P{a b:ae}(h:AB a b){i t x k:Nat}(hi:i<(aG a b i).length)(ht:t<mK a)(hx:x<kK a)(w:oH (cI a b ((aG a b i).getD i (af.mk (au.mk (0:Int) (0:Int)) (0:Int) (0:Int) (0:Int))).pair i t (cA a b ((aG a b i).getD i (af.mk (au.mk (0:Int) (0:Int)) (0:Int) (0:Int) (0:Int))).pair i (aG a b i) t) x) (oI a b (cI a b ((aG a b i).getD i (af.mk (au.mk (0:Int) (0:Int)) (0:Int) (0:Int) (0:Int))).pair i t (cA a b ((aG a b i).getD i (af.mk (au.mk (0:Int) (0:Int)) (0:Int) (0:Int) (0:Int))).pair i (aG a b i) t) x) i t x) k=true):p1 (cI a b ((aG a b i).getD i (af.mk (au.mk (0:Int) (0:Int)) (0:Int) (0:Int) (0:Int))).pair i t (cA a b ((aG a b i).getD i (af.mk (au.mk (0:Int) (0:Int)) (0:Int) (0:Int) (0:Int))).pair i (aG a b i) t) x)=p1 (cI a b ((aG a b i).getD i (af.mk (au.mk (0:Int) (0:Int)) (0:Int) (0:Int) (0:Int))).pair i t (cA a b ((aG a b i).getD i (af.mk (au.mk (0:Int) (0:Int)) (0:Int) (0:Int) (0:Int))).pair i (aG a b i) t) (x+1)):=congrArg p1 (a5r h hi ht hx w)
def a5q{a b:ae}(h:AB a b){i t x k:Nat}(hi:i<(aG a b i).length)(ht:t<mK a)(hx:x<kK a)(w:oH (cI a b ((aG a b i).getD i (af.mk (au.mk (0:Int) (0:Int)) (0:Int) (0:Int) (0:Int))).pair i t (cA a b ((aG a b i).getD i (af.mk (au.mk (0:Int) (0:Int)) (0:Int) (0:Int) (0:Int))).pair i (aG a b i) t) x) (oI a b (cI a b ((aG a b i).getD i (af.mk (au.mk (0:Int) (0:Int)) (0:Int) (0:Int) (0:Int))).pair i t (cA a b ((aG a b i).getD i (af.mk (au.mk (0:Int) (0:Int)) (0:Int) (0:Int) (0:Int))).pair i (aG a b i) t) x) i t x) k=false)(hk:¬ k<(cI a b ((aG a b i).getD i (af.mk (au.mk (0:Int) (0:Int)) (0:Int) (0:Int) (0:Int))).pair i t (cA a b ((aG a b i).getD i (af.mk (au.mk (0:Int) (0:Int)) (0:Int) (0:Int) (0:Int))).pair i (aG a b i) t) x).length):(cI a b ((aG a b i).getD i (af.mk (au.mk (0:Int) (0:Int)) (0:Int) (0:Int) (0:Int))).pair i t (cA a b ((aG a b i).getD i (af.mk (au.mk (0:Int) (0:Int)) (0:Int) (0:Int) (0:Int))).pair i (aG a b i) t) x)++[af.mk (oI a b (cI a b ((aG a b i).getD i (af.mk (au.mk (0:Int) (0:Int)) (0:Int) (0:Int) (0:Int))).pair i t (cA a b ((aG a b i).getD i (af.mk (au.mk (0:Int) (0:Int)) (0:Int) (0:Int) (0:Int))).pair i (aG a b i) t) x) i t x) (i:Int) (t:Int) (x:Int)]=(cI a b ((aG a b i).getD i (af.mk (au.mk (0:Int) (0:Int)) (0:Int) (0:Int) (0:Int))).pair i t (cA a b ((aG a b i).getD i (af.mk (au.mk (0:Int) (0:Int)) (0:Int) (0:Int) (0:Int))).pair i (aG a b i) t) (x+1)):=by
 rw[a2F h hi ht (Nat.le_of_lt hx)] at w ⊢;unfold oH at w;rw[Bool.or_eq_false_iff,List.take_of_length_le (by omega)] at w;refine a2I (ls:=(cI a b ((aG a b i).getD i (af.mk (au.mk (0:Int) (0:Int)) (0:Int) (0:Int) (0:Int))).pair i t (cA a b ((aG a b i).getD i (af.mk (au.mk (0:Int) (0:Int)) (0:Int) (0:Int) (0:Int))).pair i (aG a b i) t) x)) (q:=(TX a b ((aG a b i).getD i (af.mk (au.mk (0:Int) (0:Int)) (0:Int) (0:Int) (0:Int))).pair i t x)) ?_;show ¬ (y7 (Nn a b ((aG a b i).getD i (af.mk (au.mk (0:Int) (0:Int)) (0:Int) (0:Int) (0:Int))).pair t x)=true\/lL (cI a b ((aG a b i).getD i (af.mk (au.mk (0:Int) (0:Int)) (0:Int) (0:Int) (0:Int))).pair i t (cA a b ((aG a b i).getD i (af.mk (au.mk (0:Int) (0:Int)) (0:Int) (0:Int) (0:Int))).pair i (aG a b i) t) x) (Nn a b ((aG a b i).getD i (af.mk (au.mk (0:Int) (0:Int)) (0:Int) (0:Int) (0:Int))).pair t x)=true);rw[w.1,w.2];simp
def a6L{a b:ae}(h:AB a b){i t x k:Nat}(hi:i<(aG a b i).length)(ht:t<mK a)(hx:x<kK a)(w:oH (cI a b ((aG a b i).getD i (af.mk (au.mk (0:Int) (0:Int)) (0:Int) (0:Int) (0:Int))).pair i t (cA a b ((aG a b i).getD i (af.mk (au.mk (0:Int) (0:Int)) (0:Int) (0:Int) (0:Int))).pair i (aG a b i) t) x) (oI a b (cI a b ((aG a b i).getD i (af.mk (au.mk (0:Int) (0:Int)) (0:Int) (0:Int) (0:Int))).pair i t (cA a b ((aG a b i).getD i (af.mk (au.mk (0:Int) (0:Int)) (0:Int) (0:Int) (0:Int))).pair i (aG a b i) t) x) i t x) k=false)(hk:¬ k<(cI a b ((aG a b i).getD i (af.mk (au.mk (0:Int) (0:Int)) (0:Int) (0:Int) (0:Int))).pair i t (cA a b ((aG a b i).getD i (af.mk (au.mk (0:Int) (0:Int)) (0:Int) (0:Int) (0:Int))).pair i (aG a b i) t) x).length):p0 (cI a b ((aG a b i).getD i (af.mk (au.mk (0:Int) (0:Int)) (0:Int) (0:Int) (0:Int))).pair i t (cA a b ((aG a b i).getD i (af.mk (au.mk (0:Int) (0:Int)) (0:Int) (0:Int) (0:Int))).pair i (aG a b i) t) x)++[XN a (cI a b ((aG a b i).getD i (af.mk (au.mk (0:Int) (0:Int)) (0:Int) (0:Int) (0:Int))).pair i t (cA a b ((aG a b i).getD i (af.mk (au.mk (0:Int) (0:Int)) (0:Int) (0:Int) (0:Int))).pair i (aG a b i) t) x) i t x]=p0 (cI a b ((aG a b i).getD i (af.mk (au.mk (0:Int) (0:Int)) (0:Int) (0:Int) (0:Int))).pair i t (cA a b ((aG a b i).getD i (af.mk (au.mk (0:Int) (0:Int)) (0:Int) (0:Int) (0:Int))).pair i (aG a b i) t) (x+1)):=by
 rw[<-a5q h hi ht hx w hk];simp[p0,oI]
def a6M{a b:ae}(h:AB a b){i t x k:Nat}(hi:i<(aG a b i).length)(ht:t<mK a)(hx:x<kK a)(w:oH (cI a b ((aG a b i).getD i (af.mk (au.mk (0:Int) (0:Int)) (0:Int) (0:Int) (0:Int))).pair i t (cA a b ((aG a b i).getD i (af.mk (au.mk (0:Int) (0:Int)) (0:Int) (0:Int) (0:Int))).pair i (aG a b i) t) x) (oI a b (cI a b ((aG a b i).getD i (af.mk (au.mk (0:Int) (0:Int)) (0:Int) (0:Int) (0:Int))).pair i t (cA a b ((aG a b i).getD i (af.mk (au.mk (0:Int) (0:Int)) (0:Int) (0:Int) (0:Int))).pair i (aG a b i) t) x) i t x) k=false)(hk:¬ k<(cI a b ((aG a b i).getD i (af.mk (au.mk (0:Int) (0:Int)) (0:Int) (0:Int) (0:Int))).pair i t (cA a b ((aG a b i).getD i (af.mk (au.mk (0:Int) (0:Int)) (0:Int) (0:Int) (0:Int))).pair i (aG a b i) t) x).length):p1 (cI a b ((aG a b i).getD i (af.mk (au.mk (0:Int) (0:Int)) (0:Int) (0:Int) (0:Int))).pair i t (cA a b ((aG a b i).getD i (af.mk (au.mk (0:Int) (0:Int)) (0:Int) (0:Int) (0:Int))).pair i (aG a b i) t) x)++[qw1 b (cI a b ((aG a b i).getD i (af.mk (au.mk (0:Int) (0:Int)) (0:Int) (0:Int) (0:Int))).pair i t (cA a b ((aG a b i).getD i (af.mk (au.mk (0:Int) (0:Int)) (0:Int) (0:Int) (0:Int))).pair i (aG a b i) t) x) i t x]=p1 (cI a b ((aG a b i).getD i (af.mk (au.mk (0:Int) (0:Int)) (0:Int) (0:Int) (0:Int))).pair i t (cA a b ((aG a b i).getD i (af.mk (au.mk (0:Int) (0:Int)) (0:Int) (0:Int) (0:Int))).pair i (aG a b i) t) (x+1)):=by
 rw[<-a5q h hi ht hx w hk];simp[p1,oI]
def yL:bc:=⟨yW,[.r (.st .automaton), .r (.st .automaton)],λ (a:ae) (b:ae)=>⟨(some (AB a b),[⟨(.slice (.int .i64)),p0 (cN a b)⟩,⟨(.slice (.int .i64)),p1 (cN a b)⟩])⟩⟩
def KR(a:ae)(b:ae):Nat->aP:=(eR 0 (.mk (Nat) (λ i=>i<=(aG a b i).length) (λ i=>3722 - i) [] [4,5,15,16] (λ i=>[(8, .aO ⟨(.int .i64),((i:Int):Int)⟩),(6, .row 15),(7, .row 16)]) [] (λ i=>[(15, .row nH (.int .i64) (p0 (aG a b i):List Int)),(16, .row nH (.int .i64) (p1 (aG a b i):List Int))]) [] [] (λ i=>(eR 2 (.mk (Nat) (λ t=>t<=mK a/\i<(aG a b i).length) (λ t=>mK a - t) [] [17,18,19,20] (λ t=>[(9, .aO ⟨(.int .i64),((t:Int):Int)⟩),(6, .row 15),(7, .row 16)]) [] (λ t=>[(15, .row nH (.int .i64) (p0 (cA a b ((aG a b i).getD i (af.mk (au.mk (0:Int) (0:Int)) (0:Int) (0:Int) (0:Int))).pair i (aG a b i) t):List Int)),(16, .row nH (.int .i64) (p1 (cA a b ((aG a b i).getD i (af.mk (au.mk (0:Int) (0:Int)) (0:Int) (0:Int) (0:Int))).pair i (aG a b i) t):List Int))]) [] [] (λ t=>(eR 4 (.mk (Nat) (λ x=>x<=kK a/\t<mK a) (λ x=>kK a - x) [] [23,24,25,26,27,28,29] (λ x=>[(10, .aO ⟨(.int .i64),((x:Int):Int)⟩),(6, .row 15),(7, .row 16)]) [] (λ x=>[(15, .row nH (.int .i64) (p0 (cI a b ((aG a b i).getD i (af.mk (au.mk (0:Int) (0:Int)) (0:Int) (0:Int) (0:Int))).pair i t (cA a b ((aG a b i).getD i (af.mk (au.mk (0:Int) (0:Int)) (0:Int) (0:Int) (0:Int))).pair i (aG a b i) t) x):List Int)),(16, .row nH (.int .i64) (p1 (cI a b ((aG a b i).getD i (af.mk (au.mk (0:Int) (0:Int)) (0:Int) (0:Int) (0:Int))).pair i t (cA a b ((aG a b i).getD i (af.mk (au.mk (0:Int) (0:Int)) (0:Int) (0:Int) (0:Int))).pair i (aG a b i) t) x):List Int))]) [] [] (λ x=>(eR 6 (.a (Nat) (λ k=>k<=(cI a b ((aG a b i).getD i (af.mk (au.mk (0:Int) (0:Int)) (0:Int) (0:Int) (0:Int))).pair i t (cA a b ((aG a b i).getD i (af.mk (au.mk (0:Int) (0:Int)) (0:Int) (0:Int) (0:Int))).pair i (aG a b i) t) x).length/\x<kK a) (λ k=>(cI a b ((aG a b i).getD i (af.mk (au.mk (0:Int) (0:Int)) (0:Int) (0:Int) (0:Int))).pair i t (cA a b ((aG a b i).getD i (af.mk (au.mk (0:Int) (0:Int)) (0:Int) (0:Int) (0:Int))).pair i (aG a b i) t) x).length - k) [32,33,34,35,36,37,38,41,42,43,44,45,46,47,48,49,50,51,52,53,54,55,56,57,58,59,60,61,62] (λ k=>[(14, .aO ⟨(.int .i64),((k:Int):Int)⟩),(13, .aO ⟨.bool,(oH (cI a b ((aG a b i).getD i (af.mk (au.mk (0:Int) (0:Int)) (0:Int) (0:Int) (0:Int))).pair i t (cA a b ((aG a b i).getD i (af.mk (au.mk (0:Int) (0:Int)) (0:Int) (0:Int) (0:Int))).pair i (aG a b i) t) x) (oI a b (cI a b ((aG a b i).getD i (af.mk (au.mk (0:Int) (0:Int)) (0:Int) (0:Int) (0:Int))).pair i t (cA a b ((aG a b i).getD i (af.mk (au.mk (0:Int) (0:Int)) (0:Int) (0:Int) (0:Int))).pair i (aG a b i) t) x) i t x) k:Bool)⟩)]) [15,16] (λ k=>[])) cw))) cw))) cw))) cw)
abbrev uy(a:ae)(b:ae)(i1:Nat)(t2:Nat)(x3:Nat):Prop:=(let v1:=(aG a b i1).getD i1 (af.mk (au.mk (0:Int) (0:Int)) (0:Int) (0:Int) (0:Int));let v0:=cI a b v1.pair i1 t2 (cA a b v1.pair i1 (aG a b i1) t2) x3;((p0 v0)=(p0 v0)/\((p1 v0)=(p1 v0)/\True)))
abbrev Hc(a:ae)(b:ae)(i1:Nat)(t2:Nat)(x3:Nat)(k4:Nat):Prop:=(let v4:=(0:Int);let v3:=(aG a b i1).getD i1 (af.mk (au.mk v4 v4) v4 v4 v4);let v0:=cI a b v3.pair i1 t2 (cA a b v3.pair i1 (aG a b i1) t2) x3;let v5:=(k4:Int)+(1:Int);let v6:=(t2:Int);let v7:=(x3:Int);let v1:=fw a ((p0 v0).getD i1 v4) v6 v7;let v2:=fw b ((p1 v0).getD i1 v4) v6 v7;let v8:=(p0 v0).getD k4 v4;let v9:=uy a b i1 t2 x3;(aI (k4:Int) (p0 v0).length/\(av v8 ->
 (((decide (v8=v1))=true ->
 (aI (k4:Int) (p1 v0).length/\(av ((p1 v0).getD k4 v4) ->
 (av v5/\(∃ k5:Nat,((k5<=v0.length/\x3<kK a)/\(v0.length - k5<v0.length - k4/\((a=a/\(b=b/\(True/\(True/\((i1:Int)=(i1:Int)/\(v6=v6/\(v7=v7/\(v1=v1/\(v2=v2/\((decide (((p1 v0).getD k4 v4)=v2))=(oH v0 (oI a b v0 i1 t2 x3) k5)/\(v5=(k5:Int)/\True)))))))))))/\v9))))))))/\((decide (v8=v1))=(!true) ->
 (av v5/\(∃ k5:Nat,((k5<=v0.length/\x3<kK a)/\(v0.length - k5<v0.length - k4/\((a=a/\(b=b/\(True/\(True/\((i1:Int)=(i1:Int)/\(v6=v6/\(v7=v7/\(v1=v1/\(v2=v2/\(false=(oH v0 (oI a b v0 i1 t2 x3) k5)/\(v5=(k5:Int)/\True)))))))))))/\v9))))))))))
abbrev uz(a:ae)(b:ae)(i1:Nat)(t2:Nat)(x3:Nat)(x5:Nat):Prop:=(a=a/\(b=b/\(True/\(True/\((i1:Int)=(i1:Int)/\((t2:Int)=(t2:Int)/\(((x3:Int)+(1:Int))=(x5:Int)/\True)))))))
abbrev Hd(a:ae)(b:ae)(i1:Nat)(t2:Nat)(x3:Nat)(k4:Nat):Prop:=(let v5:=(0:Int);let v0:=(aG a b i1).getD i1 (af.mk (au.mk v5 v5) v5 v5 v5);let v2:=cA a b v0.pair i1 (aG a b i1) t2;let v1:=cI a b v0.pair i1 t2 v2 x3;let v3:=[(fw a ((p0 v1).getD i1 v5) (t2:Int) (x3:Int))];let v4:=[(fw b ((p1 v1).getD i1 v5) (t2:Int) (x3:Int))];let v6 := !(oH v1 (oI a b v1 i1 t2 x3) k4);((v6=true ->
 (bC ((p0 v1).length+v3.length) 8/\(bC ((p1 v1).length+v4.length) 8/\(av ((x3:Int)+(1:Int))/\(∃ x5:Nat,((x5<=kK a/\t2<mK a)/\(kK a - x5<kK a - x3/\((uz a b i1 t2 x3 x5)/\(((p0 v1)++v3)=(p0 (cI a b v0.pair i1 t2 v2 x5))/\(((p1 v1)++v4)=(p1 (cI a b v0.pair i1 t2 v2 x5))/\True))))))))))/\(v6=false ->
 (av ((x3:Int)+(1:Int))/\(∃ x5:Nat,((x5<=kK a/\t2<mK a)/\(kK a - x5<kK a - x3/\((uz a b i1 t2 x3 x5)/\((p0 v1)=(p0 (cI a b v0.pair i1 t2 v2 x5))/\((p1 v1)=(p1 (cI a b v0.pair i1 t2 v2 x5))/\True))))))))))
abbrev He(a:ae)(b:ae)(i1:Nat)(t2:Nat)(x3:Nat):Prop:=(let v1:=(aG a b i1).getD i1 (af.mk (au.mk (0:Int) (0:Int)) (0:Int) (0:Int) (0:Int));let v0:=cI a b v1.pair i1 t2 (cA a b v1.pair i1 (aG a b i1) t2) x3;let v2:=((p0 v0).length:Int);(∀ k4:Nat,let v3 := !(oH v0 (oI a b v0 i1 t2 x3) k4);let v4:=Hc a b i1 t2 x3 k4;let v5:=Hd a b i1 t2 x3 k4;((k4<=v0.length/\x3<kK a) ->
 (av v2 ->
 (((decide ((k4:Int)<v2))=true ->
 ((v3=true ->
 v4)/\(v3=false ->
 v5)))/\((decide ((k4:Int)<v2))=(!true) ->
 ((false=true ->
 v4)/\(false=false ->
 v5))))))))
def EM:bc.Good yL:=by
 refine⟨aH vT,?_⟩;intro (a:ae) (b:ae) (hp:AB a b);refine bf [iG,Fu] [] [] [] ⟨im,Kk,ag⟩ vT EC (KR a b) (let v1:=(0:Int);let v0:=af.mk (au.mk v1 v1) v1 v1 v1;(((∃ i1:Nat,(i1<=(aG a b i1).length/\((a=a/\(b=b/\(True/\(True/\(v1=(i1:Int)/\True)))))/\(([v1])=(p0 (aG a b i1))/\(([v1])=(p1 (aG a b i1))/\True)))))/\(∀ i1:Nat,let v3:=aG a b i1;let v2:=v3.getD i1 v0;let v4:=(i1:Int);let v5:=((p0 v3).length:Int);(i1<=v3.length->(av v5->(((decide (v4<v5))=true->((∃ t2:Nat,((t2<=mK a/\i1<v3.length)/\((a=a/\(b=b/\(True/\(True/\(v4=v4/\(v1=(t2:Int)/\True))))))/\((p0 v3)=(p0 (cA a b v2.pair i1 v3 t2))/\((p1 v3)=(p1 (cA a b v2.pair i1 v3 t2))/\True)))))/\(∀ t2:Nat,let v6:=cA a b v2.pair i1 v3 t2;let v7:=(t2:Int);((t2<=mK a/\i1<v3.length)->((0<=a.sig.aS/\a.sig.aS<=3)/\(av (bn a.sig)->(((decide (v7<(bn a.sig)))=true->((∃ x3:Nat,((x3<=kK a/\t2<mK a)/\((a=a/\(b=b/\(True/\(True/\(v4=v4/\(v7=v7/\(v1=(x3:Int)/\True)))))))/\((p0 v6)=(p0 (cI a b v2.pair i1 t2 v6 x3))/\((p1 v6)=(p1 (cI a b v2.pair i1 t2 v6 x3))/\True)))))/\(∀ x3:Nat,let v8:=cI a b v2.pair i1 t2 v6 x3;let vb:=(x3:Int);let vc:=(p0 v8).getD i1 v1;let v9:=fw a vc v7 vb;let vd:=(p1 v8).getD i1 v1;let va:=fw b vd v7 vb;let ve:=uy a b i1 t2 x3;let vf:=He a b i1 t2 x3;((x3<=kK a/\t2<mK a)->(av a.sig.aw->(((decide (vb<a.sig.aw))=true->(aI v4 (p0 v8).length/\(av vc->(B7 a vc v7 vb/\(av v9->(aI v4 (p1 v8).length/\(av vd->(B7 b vd v7 vb/\(av va->(((decide (v9<v1))=true->((∃ k4:Nat,((k4<=v8.length/\x3<kK a)/\((a=a/\(b=b/\(True/\(True/\(v4=v4/\(v7=v7/\(vb=vb/\(v9=v9/\(va=va/\((decide (va<v1))=(oH v8 (oI a b v8 i1 t2 x3) k4)/\(v1=(k4:Int)/\True)))))))))))/\ve)))/\vf))/\((decide (v9<v1))=(!true)->((∃ k4:Nat,((k4<=v8.length/\x3<kK a)/\((a=a/\(b=b/\(True/\(True/\(v4=v4/\(v7=v7/\(vb=vb/\(v9=v9/\(va=va/\(false=(oH v8 (oI a b v8 i1 t2 x3) k4)/\(v1=(k4:Int)/\True)))))))))))/\ve)))/\vf))))))))))))/\((decide (vb<a.sig.aw))=false->(av (v7+(1:Int))/\(∃ t4:Nat,((t4<=mK a/\i1<v3.length)/\(mK a - t4<mK a - t2/\((a=a/\(b=b/\(True/\(True/\(v4=v4/\((v7+(1:Int))=(t4:Int)/\True))))))/\((p0 v8)=(p0 (cA a b v2.pair i1 v3 t4))/\((p1 v8)=(p1 (cA a b v2.pair i1 v3 t4))/\True))))))))))))))/\((decide (v7<(bn a.sig)))=false->(av (v4+(1:Int))/\(∃ i3:Nat,(i3<=(aG a b i3).length/\(3722 - i3<3722 - i1/\((a=a/\(b=b/\(True/\(True/\((v4+(1:Int))=(i3:Int)/\True)))))/\((p0 v6)=(p0 (aG a b i3))/\((p1 v6)=(p1 (aG a b i3))/\True)))))))))))))))/\((decide (v4<v5))=false->((p0 v3)=(p0 (cN a b))/\(p1 v3)=(p1 (cN a b))))))))))) ?_;have ha:=hp.ka;have hb:=hp.kb;have n1:(bn a.sig)=(mK a:Int):=ha.lens.2.2.2.1.symm;have n2:a.sig.aw=(kK a:Int):=ha.lens.2.2.2.2.symm;have n4:=(dy a.sig).1 ha.s;have n5:=ha.lens;refine⟨⟨0,?_,⟨rfl,rfl,ag,ag,?_,ag⟩,?_,?_,ag⟩,λ i1 _ _=>⟨λ _=>⟨⟨0,?_,⟨rfl,rfl,ag,ag,rfl,?_,ag⟩,?_,?_,ag⟩,λ t2 _=>⟨?_,λ _=>⟨λ _=>⟨⟨0,?_,⟨rfl,rfl,ag,ag,rfl,rfl,?_,ag⟩,?_,?_,ag⟩,λ x3 _ _=>⟨λ _=>⟨?_,λ _=>⟨?_,λ _=>⟨?_,λ _=>⟨?_,λ _=>⟨λ _=>⟨⟨0,?_,⟨rfl,rfl,ag,ag,rfl,rfl,rfl,rfl,rfl,?_,?_,ag⟩,rfl,rfl,ag⟩,λ k4 _ _=>⟨λ _=>⟨λ _=>⟨?_,λ _=>⟨λ _=>⟨?_,λ _=>⟨?_,k4+1,?_,?_,⟨rfl,rfl,ag,ag,rfl,rfl,rfl,rfl,rfl,?_,?_,ag⟩,rfl,rfl,ag⟩⟩,λ _=>⟨?_,k4+1,?_,?_,⟨rfl,rfl,ag,ag,rfl,rfl,rfl,rfl,rfl,?_,?_,ag⟩,rfl,rfl,ag⟩⟩⟩,λ _=>⟨λ _=>⟨?_,?_,?_,x3+1,?_,?_,⟨rfl,rfl,ag,ag,rfl,rfl,?_,ag⟩,?_,?_,ag⟩,λ _=>⟨?_,x3+1,?_,?_,⟨rfl,rfl,ag,ag,rfl,rfl,?_,ag⟩,?_,?_,ag⟩⟩⟩,λ _=>⟨λ _=>⟨?_,λ _=>⟨λ _=>⟨?_,λ _=>⟨?_,k4+1,?_,?_,⟨rfl,rfl,ag,ag,rfl,rfl,rfl,rfl,rfl,?_,?_,ag⟩,rfl,rfl,ag⟩⟩,λ _=>⟨?_,k4+1,?_,?_,⟨rfl,rfl,ag,ag,rfl,rfl,rfl,rfl,rfl,?_,?_,ag⟩,rfl,rfl,ag⟩⟩⟩,λ _=>⟨λ _=>⟨?_,?_,?_,x3+1,?_,?_,⟨rfl,rfl,ag,ag,rfl,rfl,?_,ag⟩,?_,?_,ag⟩,λ _=>⟨?_,x3+1,?_,?_,⟨rfl,rfl,ag,ag,rfl,rfl,?_,ag⟩,?_,?_,ag⟩⟩⟩⟩⟩,λ _=>⟨⟨0,?_,⟨rfl,rfl,ag,ag,rfl,rfl,rfl,rfl,rfl,?_,?_,ag⟩,rfl,rfl,ag⟩,λ k4 _ _=>⟨λ _=>⟨λ _=>⟨?_,λ _=>⟨λ _=>⟨?_,λ _=>⟨?_,k4+1,?_,?_,⟨rfl,rfl,ag,ag,rfl,rfl,rfl,rfl,rfl,?_,?_,ag⟩,rfl,rfl,ag⟩⟩,λ _=>⟨?_,k4+1,?_,?_,⟨rfl,rfl,ag,ag,rfl,rfl,rfl,rfl,rfl,?_,?_,ag⟩,rfl,rfl,ag⟩⟩⟩,λ _=>⟨λ _=>⟨?_,?_,?_,x3+1,?_,?_,⟨rfl,rfl,ag,ag,rfl,rfl,?_,ag⟩,?_,?_,ag⟩,λ _=>⟨?_,x3+1,?_,?_,⟨rfl,rfl,ag,ag,rfl,rfl,?_,ag⟩,?_,?_,ag⟩⟩⟩,λ _=>⟨λ _=>⟨?_,λ _=>⟨λ _=>⟨?_,λ _=>⟨?_,k4+1,?_,?_,⟨rfl,rfl,ag,ag,rfl,rfl,rfl,rfl,rfl,?_,?_,ag⟩,rfl,rfl,ag⟩⟩,λ _=>⟨?_,k4+1,?_,?_,⟨rfl,rfl,ag,ag,rfl,rfl,rfl,rfl,rfl,?_,?_,ag⟩,rfl,rfl,ag⟩⟩⟩,λ _=>⟨λ _=>⟨?_,?_,?_,x3+1,?_,?_,⟨rfl,rfl,ag,ag,rfl,rfl,?_,ag⟩,?_,?_,ag⟩,λ _=>⟨?_,x3+1,?_,?_,⟨rfl,rfl,ag,ag,rfl,rfl,?_,ag⟩,?_,?_,ag⟩⟩⟩⟩⟩⟩⟩⟩⟩⟩,λ _=>⟨?_,t2+1,?_,?_,⟨rfl,rfl,ag,ag,rfl,?_,ag⟩,?_,?_,ag⟩⟩⟩,λ _=>⟨?_,i1+1,?_,?_,⟨rfl,rfl,ag,ag,?_,ag⟩,?_,?_,ag⟩⟩⟩⟩,λ _=>⟨?_,?_⟩⟩⟩;all_goals try and_intros
 all_goals (try simp only[b1g,b1r,b0R,b0Q,aI,av,bC,dH,b1H,b2I,b1S,b3x,b1J,b1D,b1z,b2D,YU,YV,b0Y,b0W,b1f,b1P] at *);first|done|with_reducible assumption|omega|with_reducible rfl|exact trivial|(have q0:=T3 hp i1;obtain⟨_,_⟩:=q0;omega)|(have q0:=T3 hp i1;obtain⟨_,_⟩:=q0;have q0:=rnT hp (i:=i1) (t:=t2) (by omega) (by omega);obtain⟨_,_⟩:=q0;omega)|(have q0:=T3 hp i1;obtain⟨_,_⟩:=q0;have q0:=rnT hp (i:=i1) (t:=t2) (by omega) (by omega);obtain⟨_,_⟩:=q0;have q0:=rnX hp (i:=i1) (t:=t2) (x:=x3) (by omega) (by omega) (by omega);obtain⟨_,_⟩:=q0;omega)|exact a6N (by with_reducible assumption) (by with_reducible assumption)|exact pz0 a b|exact pz1 a b|exact qn0 hp (by omega) (by omega) (by omega)|exact qn1 hp (by omega) (by omega) (by omega)|exact a6I (by with_reducible assumption)|exact a2u (by with_reducible assumption)|exact a2u (by omega)|exact a6K (by omega) (by with_reducible assumption) (by with_reducible assumption)|exact a6J (by omega) (by with_reducible assumption) (by with_reducible assumption)|exact a6O hp (by omega) (by omega) (by omega) (by with_reducible assumption)|exact a6P hp (by omega) (by omega) (by omega) (by with_reducible assumption)|exact a6L hp (by omega) (by omega) (by omega) (by with_reducible assumption) (by omega)|exact a6M hp (by omega) (by omega) (by omega) (by with_reducible assumption) (by omega)|exact congrArg p0 rzT|exact congrArg p0 rzX|exact congrArg p1 rzT|exact congrArg p1 rzX|exact congrArg p0 (rxT (by omega))|exact congrArg p0 (rtI (by omega) (by omega))|(have q0:=T3 hp i1;obtain⟨_,_⟩:=q0;exact congrArg p0 (P4 (i:=i1) (by omega) (by omega)))|exact congrArg p1 (rxT (by omega))|exact congrArg p1 (rtI (by omega) (by omega))|(have q0:=T3 hp i1;obtain⟨_,_⟩:=q0;exact congrArg p1 (P4 (i:=i1) (by omega) (by omega)))|exact YY hp (by omega)
def OA(a b:ae)(r:af)(t:Nat):Prop:=jK a r.pair.a0 (t:Int)=jK b r.pair.a1 (t:Int)
def Rm(a b:ae)(r:af)(t:Nat):Prop:=jK a r.pair.a0 (t:Int)=true->jK b r.pair.a1 (t:Int)=true
noncomputable def sq(a b:ae):Bool := @decide (∀ i,i<(cN a b).length->∀ t,t<mK a->OA a b ((cN a b).getD i (af.mk (au.mk (0:Int) (0:Int)) (0:Int) (0:Int) (0:Int))) t) (Classical.propDecidable _)
noncomputable def DQ(a b:ae):Bool := @decide (∀ i,i<(cN a b).length->∀ t,t<mK a->Rm a b ((cN a b).getD i (af.mk (au.mk (0:Int) (0:Int)) (0:Int) (0:Int) (0:Int))) t) (Classical.propDecidable _)
def Cv{a b:ae}:sq a b=true↔∀ i,i<(cN a b).length->∀ t,t<mK a->OA a b ((cN a b).getD i (af.mk (au.mk (0:Int) (0:Int)) (0:Int) (0:Int) (0:Int))) t := @b5m _ (Classical.propDecidable _)
def NR{a b:ae}:DQ a b=true↔∀ i,i<(cN a b).length->∀ t,t<mK a->Rm a b ((cN a b).getD i (af.mk (au.mk (0:Int) (0:Int)) (0:Int) (0:Int) (0:Int))) t := @b5m _ (Classical.propDecidable _)
def Zk(ls:List af)(i:Nat):(ls.map BZ).getD i (af.mk (au.mk (0:Int) (0:Int)) (0:Int) (0:Int) (0:Int))=BZ (ls.getD i (af.mk (au.mk (0:Int) (0:Int)) (0:Int) (0:Int) (0:Int))):=by
 simp only[b0S,b2i];cases ls[i]?<;>rfl
def a3s{a b:ae}(h:AB a b):(DQ a b&&DQ b a)=sq a b:=by
 have e:mK b=mK a:=by simp only[mK,h.ks]
 rw[b3E,b0U,NR,NR,Cv,a9t h,b1F];constructor
 .rintro⟨h1,h2⟩ i hi t ht;have k1:=h1 i hi t ht;have k2:=h2 i hi t (by omega);rw[Zk] at k2;unfold OA;unfold Rm at k1 k2;simp only[BZ] at k2;exact Bool.eq_iff_iff.2 ⟨k1,k2⟩
 .intro h1;refine⟨λ i hi t ht=>?_,λ i hi t ht=>?_⟩
  .have:=h1 i hi t ht;unfold OA at this;unfold Rm;rw[this];exact id
  .have:=h1 i hi t (by omega);rw[Zk];unfold OA at this;unfold Rm;simp only[BZ];rw[this];exact id
structure qd(a b:ae)(i t:Nat):Prop where
 hi:i<=(cN a b).length
 ht:t<=mK a
 p:∀ j,j<i->∀ s,s<mK a->OA a b ((cN a b).getD j (af.mk (au.mk (0:Int) (0:Int)) (0:Int) (0:Int) (0:Int))) s
 q:∀ s,s<t->OA a b ((cN a b).getD i (af.mk (au.mk (0:Int) (0:Int)) (0:Int) (0:Int) (0:Int))) s
def qd.first(a b:ae):qd a b 0 0:=⟨b1G _,b1G _,λ j hj=>by omega,λ s hs=>by omega⟩
def qd.step{a b:ae}{i t:Nat}(h:qd a b i t)(ht:t<mK a)(e:OA a b ((cN a b).getD i (af.mk (au.mk (0:Int) (0:Int)) (0:Int) (0:Int) (0:Int))) t):qd a b i (t+1):=⟨h.hi,ht,h.p,λ s hs=>by
 rcases b1w s t with r|r
 .exact h.q s r
 .rw[show s=t by omega];exact e⟩
def qd.row{a b:ae}{i t:Nat}(h:qd a b i t)(hi:i<(cN a b).length)(ht:¬ t<mK a):qd a b (i+1) 0:=⟨hi,b1G _,λ j hj s hs=>by
 rcases b1w j i with r|r
 .exact h.p j r s hs
 .rw[show j=i by omega];exact h.q s (by omega),λ s hs=>by omega⟩
def qd.done{a b:ae}{i t:Nat}(h:qd a b i t)(hi:¬ i<(cN a b).length):sq a b=true:=Cv.2 λ j hj s hs=>h.p j (by omega) s hs
structure B4(a b:ae)(p:Nat×Nat):Prop where
 d:qd a b p.1 p.2
 i:p.1<(cN a b).length
 t:p.2<mK a
 n:¬ OA a b ((cN a b).getD p.1 (af.mk (au.mk (0:Int) (0:Int)) (0:Int) (0:Int) (0:Int))) p.2
def B4.uniq{a b:ae}{p q:Nat×Nat}(h:B4 a b p)(k:B4 a b q):p=q:=by
 obtain⟨h1,h2,h3,h4⟩:=h;obtain⟨k1,k2,k3,k4⟩:=k;obtain⟨i,t⟩:=p;obtain⟨j,s⟩:=q;simp only at h1 h2 h3 h4 k1 k2 k3 k4;rcases b4t i j with r|r|r
 .exact absurd (k1.p i r t h3) h4
 .subst r;rcases b4t t s with r|r|r
  .exact absurd (k1.q t r) h4
  .rw[r]
  .exact absurd (h1.q s r) k4
 .exact absurd (h1.p j r s k3) k4
noncomputable def SN(a b:ae):Nat×Nat:=by classical exact if h:∃ p,B4 a b p then h.choose else (0,0)
def SO{a b:ae}{p:Nat×Nat}(h:B4 a b p):SN a b=p:=by
 unfold SN;rw[dif_pos ⟨p,h⟩];exact (Exists.choose_spec (⟨p,h⟩:∃ p,B4 a b p)).uniq h
def Ny{a b:ae}{p:Nat×Nat}(h:B4 a b p):sq a b=false:=by
 rw[b4s];intro q;exact h.n (Cv.1 q _ h.i _ h.t)
def JZ(ls:List af):Nat->Nat->List Int
 | 0,_=>[]
 | n+1,k=>if 0<=(ls.getD k (af.mk (au.mk (0:Int) (0:Int)) (0:Int) (0:Int) (0:Int))).nG then (ls.getD k (af.mk (au.mk (0:Int) (0:Int)) (0:Int) (0:Int) (0:Int))).atom::JZ ls n (ls.getD k (af.mk (au.mk (0:Int) (0:Int)) (0:Int) (0:Int) (0:Int))).nG.toNat else []
def J0(ls:List af):Nat->Nat->List Int
 | 0,_=>[]
 | n+1,k=>if 0<=(ls.getD k (af.mk (au.mk (0:Int) (0:Int)) (0:Int) (0:Int) (0:Int))).nG then (ls.getD k (af.mk (au.mk (0:Int) (0:Int)) (0:Int) (0:Int) (0:Int))).act::J0 ls n (ls.getD k (af.mk (au.mk (0:Int) (0:Int)) (0:Int) (0:Int) (0:Int))).nG.toNat else []
structure Zw(ls:List af):Prop where
 n:ls.length<=3721
 f:∀ j,j<ls.length -> -1<=(ls.getD j (af.mk (au.mk (0:Int) (0:Int)) (0:Int) (0:Int) (0:Int))).nG/\(ls.getD j (af.mk (au.mk (0:Int) (0:Int)) (0:Int) (0:Int) (0:Int))).nG<(j:Int)
def S9{a b:ae}(h:AB a b):Zw (cN a b):=⟨(Jp h).lV h,(Jp h).nG⟩
def WH{ls:List af}(h:Zw ls):∀ n k,k<ls.length->k+1<=n->JZ ls n k=JZ ls (k+1) k
 | 0,k,_,h2=>by omega
 | n+1,k,h1,h2=>by
  have q:=h.f k h1;rw[JZ,JZ];split
  .rename_i w;rw[WH h n _ (by omega) (by omega),WH h k _ (by omega) (by omega)]
  .rfl
def WI{ls:List af}(h:Zw ls):∀ n k,k<ls.length->k+1<=n->J0 ls n k=J0 ls (k+1) k
 | 0,k,_,h2=>by omega
 | n+1,k,h1,h2=>by
  have q:=h.f k h1;rw[J0,J0];split
  .rename_i w;rw[WI h n _ (by omega) (by omega),WI h k _ (by omega) (by omega)]
  .rfl
structure Mo where
 k:Nat
 xs:List Int
 ys:List Int
structure Bw(ls:List af)(i:Nat)(t:Int)(v:Mo):Prop where
 hi:i<ls.length
 hk:v.k<=i
 n:ls.length<=3721
 nx:v.xs.length+v.k<=i+1
 ny:v.ys.length+v.k<=i
 ex:v.xs++JZ ls (v.k+1) v.k=t::JZ ls (i+1) i
 ey:v.ys++J0 ls (v.k+1) v.k=J0 ls (i+1) i
def Bw.first{ls:List af}(h:Zw ls){i:Nat}(hi:i<ls.length)(t:Int):Bw ls i t (Mo.mk i [t] []):=⟨hi,b1d _,h.n,by simp only[b0W,b1f];omega,by simp only[b1f];omega,rfl,rfl⟩
def Bw.Xy{ls:List af}(h:Zw ls){i:Nat}{t:Int}{v:Mo}(q:Bw ls i t v)(w:0<=(ls.getD v.k (af.mk (au.mk (0:Int) (0:Int)) (0:Int) (0:Int) (0:Int))).nG) :
  Bw ls i t (Mo.mk (ls.getD v.k (af.mk (au.mk (0:Int) (0:Int)) (0:Int) (0:Int) (0:Int))).nG.toNat (v.xs++[(ls.getD v.k (af.mk (au.mk (0:Int) (0:Int)) (0:Int) (0:Int) (0:Int))).atom]) (v.ys++[(ls.getD v.k (af.mk (au.mk (0:Int) (0:Int)) (0:Int) (0:Int) (0:Int))).act])):=by
 have e1:=q.hi;have e2:=q.hk;have e3:=q.nx;have e4:=q.ny;have f:=h.f v.k (by omega);have ex:=q.ex;have ey:=q.ey;rw[JZ,b0T w,WH h _ _ (by omega) (by omega)] at ex;rw[J0,b0T w,WI h _ _ (by omega) (by omega)] at ey;exact⟨q.hi,by simp only;omega,h.n,by simp only[b0Y,b0W,b1f];omega,by simp only[b0Y,b0W,b1f];omega,by rw[<-ex];simp,by rw[<-ey];simp⟩
def Bw.a6f{ls:List af}{i:Nat}{t:Int}{v:Mo}(q:Bw ls i t v)(w:¬ 0<=(ls.getD v.k (af.mk (au.mk (0:Int) (0:Int)) (0:Int) (0:Int) (0:Int))).nG):v.xs=t::JZ ls (i+1) i:=by
 have:=q.ex;rw[JZ,b0N w,b1E] at this;exact this
def Bw.a6g{ls:List af}{i:Nat}{t:Int}{v:Mo}(q:Bw ls i t v)(w:¬ 0<=(ls.getD v.k (af.mk (au.mk (0:Int) (0:Int)) (0:Int) (0:Int) (0:Int))).nG):v.ys=J0 ls (i+1) i:=by
 have:=q.ey;rw[J0,b0N w,b1E] at this;exact this
noncomputable def SP(a b:ae):List Int:=bif sq a b then [] else (((SN a b).2:Int)::JZ (cN a b) ((SN a b).1+1) (SN a b).1).reverse
noncomputable def SQ(a b:ae):List Int:=bif sq a b then [] else (J0 (cN a b) ((SN a b).1+1) (SN a b).1).reverse
noncomputable def WO(a b:ae):Bool:=bif sq a b then false else jK a ((cN a b).getD (SN a b).1 (af.mk (au.mk (0:Int) (0:Int)) (0:Int) (0:Int) (0:Int))).pair.a0 ((SN a b).2:Int)
noncomputable def QL(a b:ae):Bool := !sq a b
def a7Z{a b:ae}{p:Nat×Nat}(h:B4 a b p){xs:List Int}(e:xs=(p.2:Int)::JZ (cN a b) (p.1+1) p.1):xs.reverse=SP a b:=by rw[SP,Ny h,SO h,e];rfl
def a8a{a b:ae}{p:Nat×Nat}(h:B4 a b p){xs:List Int}(e:xs=J0 (cN a b) (p.1+1) p.1):xs.reverse=SQ a b:=by rw[SQ,Ny h,SO h,e];rfl
def a7X{a b:ae}{p:Nat×Nat}(h:B4 a b p):jK a ((cN a b).getD p.1 (af.mk (au.mk (0:Int) (0:Int)) (0:Int) (0:Int) (0:Int))).pair.a0 (p.2:Int)=WO a b:=by rw[WO,Ny h,SO h];rfl
def a7W{a b:ae}{p:Nat×Nat}(h:B4 a b p):true=QL a b:=by rw[QL,Ny h];rfl
def a8f{a b:ae}(h:sq a b=true):[]=SP a b:=by rw[SP,h];rfl
def a8g{a b:ae}(h:sq a b=true):[]=SQ a b:=by rw[SQ,h];rfl
def a8d{a b:ae}(h:sq a b=true):false=WO a b:=by rw[WO,h];rfl
def a8c{a b:ae}(h:sq a b=true):false=QL a b:=by rw[QL,h];rfl
def pO(xs:List Int)(k:Nat):List Int:=(List.range xs.length).map λ j=>if j<k\/xs.length<=j+k then xs.getD (xs.length - 1 - j) 0 else xs.getD j 0
def qy(xs:List Int)(k:Nat):(pO xs k).length=xs.length:=by simp[pO]
def y8(xs:List Int)(k:Nat){j:Nat}(h:j<xs.length):(pO xs k).getD j 0=if j<k\/xs.length<=j+k then xs.getD (xs.length - 1 - j) 0 else xs.getD j 0:=by
 simp[pO,b0S,h]
def a7b(xs:List Int):xs=pO xs 0:=by
 apply List.ext_getElem (qy xs 0).symm;intro j h1 h2;have:=y8 xs 0 h1;rw[if_neg (by omega)] at this;simpa [List.getD_eq_getElem?_getD,h1,h2] using this.symm
def VW(xs:List Int){k:Nat}(h:xs.length<=2 * k+1):pO xs k=xs.reverse:=by
 apply b4I (by rw[qy,b5g]);intro j h1 h2;rw[qy] at h1;have:=y8 xs k h1;have e:(pO xs k).getD j 0=(pO xs k)[j]'(by rw[qy];exact h1):=by simp[b0S,qy,h1]
 rw[<-e,this,List.getElem_reverse];split
 .have h4:xs.length - 1 - j<xs.length:=by omega
  simp[b0S,h4]
 .have:xs.length - 1 - j=j:=by omega
  simp[b0S,h1,this]
def a7c(xs:List Int){k:Nat}(h:2 * k+1<xs.length):((pO xs k).set k ((pO xs k).getD (xs.length - 1 - k) 0)).set (xs.length - 1 - k) ((pO xs k).getD k 0)=pO xs (k+1):=by
 apply b4I (by simp[qy]);intro j h1 h2;rw[qy] at h2;have e:∀ m (hm:j<(pO xs m).length),(pO xs m)[j]'hm=(pO xs m).getD j 0:=λ m hm=>by simp[b0S,hm]
 rw[e,y8 xs (k+1) h2,b4x,b4x];by_cases c1:xs.length - 1 - k=j
 .rw[b0T c1,b0T (by omega),y8 xs k (show k<xs.length by omega),b0N (show ¬ (k<k\/xs.length<=k+k) by omega)];congr 1;omega
 .rw[b0N c1];by_cases c2:k=j
  .rw[b0T c2,b0T (by omega),y8 xs k (show xs.length - 1 - k<xs.length by omega),b0N (show ¬ (xs.length - 1 - k<k\/xs.length<=xs.length - 1 - k+k) by omega),c2]
  .rw[b0N c2,e,y8 xs k h2];by_cases c3:j<k\/xs.length<=j+k
   .rw[b0T c3,b0T (by omega)]
   .rw[b0N c3,b0N (by omega)]
def a7d{xs:List Int}{k:Nat}(h:(k:Int)<(xs.length:Int) - 1 - (k:Int)):((pO xs k).set k ((pO xs k).getD ((xs.length:Int) - 1 - (k:Int)).toNat 0)).set ((xs.length:Int) - 1 - (k:Int)).toNat ((pO xs k).getD k 0)=pO xs (k+1):=by
 have e:((xs.length:Int) - 1 - (k:Int)).toNat=xs.length - 1 - k:=by omega
 rw[e];exact a7c xs (by omega)
def iv(n:Nat):JT:=⟨oq,[],(.int .i64),λ  (xs:List Int)=>⟨(some (0<n/\xs.length<=1000000),xs.reverse)⟩⟩
def uI:JT:=⟨oq,[],(.int .i64),λ  (xs:List Int)=>⟨(some (xs.length<=1000000),xs.reverse)⟩⟩
def Hm (xs:List Int):Nat->aP:=(eR 0 (.a (Nat) (λ k=>k<=xs.length) (λ k=>xs.length - k) [4,5,6] (λ k=>[(2, .aO ⟨(.int .i64),((k:Int):Int)⟩),(3, .aO ⟨(.int .i64),((xs.length:Int) - 1 - (k:Int):Int)⟩),(0, .aE 50)]) [] (λ k=>[(50, .aE (.int .i64) (pO xs k:List Int))])) cw)
abbrev gU(xs:List Int)(k1:Nat):Prop:=(let v2:=(k1:Int);let v0:=(xs.length:Int) - 1 - v2;let v1:=(pO xs k1).set k1 ((pO xs k1).getD (Int.toNat v0) (0:Int));let v3:=(50:Nat);(v3=50/\(v2=v2/\(v3=50/\(v0=v0/\(v3=50/\(v2=v2/\(v3=50/\(v0=v0/\(aI v2 (pO xs k1).length/\(v3=50/\(v0=v0/\(v3=50/\(v0=v0/\(aI v0 v1.length/\(av (v2+(1:Int))/\(av (v0 - (1:Int))/\(∃ k2:Nat,(k2<=xs.length/\(xs.length - k2<xs.length - k1/\((True/\((v2+(1:Int))=(k2:Int)/\((v0 - (1:Int))=((xs.length:Int) - 1 - (k2:Int))/\True)))/\((v1.set (Int.toNat v0) ((pO xs k1).getD k1 (0:Int)))=(pO xs k2)/\True))))))))))))))))))))))
abbrev qq(xs:List Int)(k1:Nat):Prop:=(let v0:=(xs.length:Int) - 1 - (k1:Int);((50:Nat)=50/\((k1:Int)=(k1:Int)/\((50:Nat)=50/\(v0=v0/\((gU xs k1)/\((gU xs k1)/\True)))))))
def EW(n:Nat)(hT:NT [iv n]):JT.Good (iv (n+1)):=by
 refine⟨aH jb,?_⟩;intro  (xs:List Int) (hp:0<n+1/\xs.length<=1000000);refine Wg [] [] [] [] [iv n] [20,21,24,25,26,27] [] [] [] trivial trivial trivial trivial hT jb Ce (Hm xs) (let v0:=(xs.length:Int);let v1:=(50:Nat);((av ((v0) - (1:Int))/\((∃ k1:Nat,(k1<=xs.length/\((True/\((0:Int)=(k1:Int)/\(((v0) - (1:Int))=(v0 - 1 - (k1:Int))/\True)))/\(xs=(pO xs k1)/\True))))/\(∀ k1:Nat,let v3:=(k1:Int);let v2:=v0 - 1 - v3;let v4:=pO xs k1;(k1<=xs.length->(((decide (v3<v2))=true->(av v3->(av v2->(av v2->(av v3->(v1=50/\(v3=v3/\(v1=50/\(v2=v2/\(v1=50/\(v2=v2/\(v1=50/\(v3=v3/\((aI v2 v4.length/\(v1=50/\(v3=v3/\(v1=50/\(v2=v2/\(v1=50/\(v3=v3/\((v1=50/\(v3=v3/\(v1=50/\(v2=v2/\(v1=50/\(v3=v3/\(aI v3 v4.length/\(gU xs k1))))))))/\((aI v3 v4.length/\(qq xs k1))/\True)))))))))/\((aI v3 v4.length/\(v1=50/\(v3=v3/\(v1=50/\(v2=v2/\(v1=50/\(v2=v2/\((aI v2 v4.length/\(qq xs k1))/\((v1=50/\(v3=v3/\(v1=50/\(v2=v2/\(v1=50/\(v2=v2/\(aI v2 v4.length/\(gU xs k1))))))))/\True)))))))))/\True)))))))))))))))/\((decide (v3<v2))=false->v4=xs.reverse)))))))) ?_;refine⟨?_,⟨0,?_,⟨ag,?_,?_,ag⟩,?_,ag⟩,λ k1 _=>⟨λ _ _ _ _ _=>⟨?_,rfl,?_,rfl,?_,rfl,?_,rfl,⟨?_,?_,rfl,?_,rfl,?_,rfl,⟨?_,rfl,?_,rfl,?_,rfl,?_,?_,rfl,?_,rfl,?_,rfl,?_,rfl,?_,?_,rfl,?_,rfl,?_,?_,?_,k1+1,?_,?_,⟨ag,?_,?_,ag⟩,?_,ag⟩,⟨?_,?_,rfl,?_,rfl,⟨?_,rfl,?_,rfl,?_,rfl,?_,rfl,?_,?_,rfl,?_,rfl,?_,?_,?_,k1+1,?_,?_,⟨ag,?_,?_,ag⟩,?_,ag⟩,⟨?_,rfl,?_,rfl,?_,rfl,?_,rfl,?_,?_,rfl,?_,rfl,?_,?_,?_,k1+1,?_,?_,⟨ag,?_,?_,ag⟩,?_,ag⟩,ag⟩,ag⟩,⟨?_,?_,rfl,?_,rfl,?_,rfl,⟨?_,?_,rfl,?_,rfl,⟨?_,rfl,?_,rfl,?_,rfl,?_,rfl,?_,?_,rfl,?_,rfl,?_,?_,?_,k1+1,?_,?_,⟨ag,?_,?_,ag⟩,?_,ag⟩,⟨?_,rfl,?_,rfl,?_,rfl,?_,rfl,?_,?_,rfl,?_,rfl,?_,?_,?_,k1+1,?_,?_,⟨ag,?_,?_,ag⟩,?_,ag⟩,ag⟩,⟨?_,rfl,?_,rfl,?_,rfl,?_,?_,rfl,?_,rfl,?_,rfl,?_,rfl,?_,?_,rfl,?_,rfl,?_,?_,?_,k1+1,?_,?_,⟨ag,?_,?_,ag⟩,?_,ag⟩,ag⟩,ag⟩,λ _=>?_⟩⟩;all_goals try and_intros
 all_goals (try simp only[b1g,b1r,b0R,b0Q,aI,av,bC,dH,b1H,b2I,b1S,b3x,b1J,b1D,b1z,b2D,qy,b0Y,b0W,b1f,b1P] at *);first|done|with_reducible assumption|omega|with_reducible rfl|exact trivial|exact a7b xs|exact VW xs (by omega)|exact (VW xs (by omega)).symm|exact a9R (by omega) (by with_reducible assumption)|exact a7d (by omega)
def qg:∀ n,NT [iv n]
 | 0=>⟨⟨aH jb,λ _ h=>absurd h.1 (b1x _)⟩,ag⟩
 | n+1=>⟨EW n (qg n),ag⟩
def B3:JT.Good uI :=
 ⟨aH jb,λ xs hp=>(qg (0+1)).1.2 xs (⟨b1b _,hp⟩)⟩
structure DnI(a b:ae)(i:Nat):Prop where
 h0:HG a ((cN a b).getD i (af.mk (au.mk (0:Int) (0:Int)) (0:Int) (0:Int) (0:Int))).pair.a0 0
 fr:Zw (cN a b)
def a4N{a b:ae}(h:AB a b){i t:Nat}(hi:i<(cN a b).length)(ht:t<mK a):HG a ((cN a b).getD i (af.mk (au.mk (0:Int) (0:Int)) (0:Int) (0:Int) (0:Int))).pair.a0 (t:Int):=by
 have q:=(Jp h).get hi;exact⟨h.ka,q.1.1,q.1.2,by omega,by omega⟩
def a4O{a b:ae}(h:AB a b){i t:Nat}(hi:i<(cN a b).length)(ht:t<mK a):HG b ((cN a b).getD i (af.mk (au.mk (0:Int) (0:Int)) (0:Int) (0:Int) (0:Int))).pair.a1 (t:Int):=by
 have q:=(Jp h).get hi;have e:mK b=mK a:=by simp only[mK,h.ks]
 exact⟨h.kb,q.2.1,q.2.2,by omega,by omega⟩
def Ys{a b:ae}(h:AB a b):(cN a b).length<=3721:=(S9 h).n
def a6d{a b:ae}{i t:Nat}(e:jK a ((cN a b).getD i (af.mk (au.mk (0:Int) (0:Int)) (0:Int) (0:Int) (0:Int))).pair.a0 (t:Int)=jK b ((cN a b).getD i (af.mk (au.mk (0:Int) (0:Int)) (0:Int) (0:Int) (0:Int))).pair.a1 (t:Int)):OA a b ((cN a b).getD i (af.mk (au.mk (0:Int) (0:Int)) (0:Int) (0:Int) (0:Int))) t:=e
def a7V{a b:ae}{i t:Nat}(h:qd a b i t)(hi:i<(cN a b).length)(ht:t<mK a)(e:¬ jK a ((cN a b).getD i (af.mk (au.mk (0:Int) (0:Int)) (0:Int) (0:Int) (0:Int))).pair.a0 (t:Int)=jK b ((cN a b).getD i (af.mk (au.mk (0:Int) (0:Int)) (0:Int) (0:Int) (0:Int))).pair.a1 (t:Int)):B4 a b (i,t):=⟨h,hi,ht,e⟩
def a7Y{a b:ae}{i t:Nat}(h:B4 a b (i,t)){xs ys:List Int}(e:xs=(t:Int)::JZ (cN a b) (i+1) i)(k:ys=J0 (cN a b) (i+1) i):iy.mk xs.reverse ys.reverse=iy.mk (SP a b) (SQ a b):=by rw[<-a7Z h e,<-a8a h k]
def a8e{a b:ae}(h:sq a b=true):iy.mk [] []=iy.mk (SP a b) (SQ a b):=by rw[<-a8f h,<-a8g h]
def sG:bc:=⟨uN,[.v (.st .automaton), .v (.st .automaton)],λ (a:ae) (b:ae)=>⟨(some (AB a b),[⟨(.st .word),iy.mk (SP a b) (SQ a b)⟩,⟨.bool,WO a b⟩,⟨.bool,QL a b⟩])⟩⟩
def ET(a:ae)(b:ae):Nat->aP:=(eR 0 (.mk (Nat) (λ i=>qd a b i 0) (λ i=>(cN a b).length - i) [] [0,1,14,15,16] (λ i=>[(19, .aO ⟨(.int .i64),((i:Int):Int)⟩)]) [4] (λ i=>[]) [] [] (λ i=>(eR 2 (.mk (Nat) (λ t=>qd a b i t/\i<(cN a b).length) (λ t=>mK a - t) [] [20,21,22,23,24,25] (λ t=>[(27, .aO ⟨(.int .i64),((t:Int):Int)⟩)]) [4,9] (λ t=>[]) [] [] (λ t=>(eR 4 (.a (Mo) (λ v=>Bw (cN a b) i (t:Int) v/\B4 a b (i,t)) (λ v=>v.k) [2,3,8,9,10,17,18,19,26,27,28,29,30,31,32,33,34,35,36,37,38,39,40,41,42,43,44,45,46,47] (λ v=>[(13, .aO ⟨(.int .i64),((v.k:Int):Int)⟩)]) [4,9] (λ v=>[(12, .box [.aE 9000, .aE 9100]),(9000, .aE (.int .i64) (v.xs:List Int)),(9100, .aE (.int .i64) (v.ys:List Int))])) cw))) cw))) cw)
abbrev BU(a:ae)(b:ae)(i1:Nat):Prop:=(let v0:=(cN a b).getD i1 (af.mk (au.mk (0:Int) (0:Int)) (0:Int) (0:Int) (0:Int));((v0.pair.a0=v0.pair.a0/\(v0.pair.a1=v0.pair.a1/\(v0.nG=v0.nG/\(v0.atom=v0.atom/\(v0.act=v0.act/\True)))))/\((True/\(True/\True))/\True)))
def Av:bc.zq sG:=by
 refine⟨aH sf,?_⟩;intro (a:ae) (b:ae) (hp:AB a b);refine VI [Ft,jy,A1] [] [] [] [uI] [45,66,67,76,77,81,84] [] [] [2,3] ⟨Kh,je,Gy,ag⟩ trivial trivial trivial ⟨B3,ag⟩ sf BB (ET a b) (let v1:=cN a b;let v2:=(v1.length:Int);let v5:=True/\(True/\True);let v6:=bn a.sig;let v7:=(0:Int);let v0:=af.mk (au.mk v7 v7) v7 v7 v7;let v8:=(12:Nat)=12/\(0:Nat)=0;let v9:=(12:Nat)=12/\(1:Nat)=1;((AB a b/\(v1.length<=140737488355328->(av v2->((∃ i1:Nat,(qd a b i1 0/\((a=a/\(b=b/\(True/\(v1=v1/\(v1=v1/\(v2=v2/\(v7=(i1:Int)/\True)))))))/\(v5/\True))))/\(∀ i1:Nat,let va:=v1.getD i1 v0;let vb:=(i1:Int);let vc:=BU a b i1;(qd a b i1 0->(((decide (vb<v2))=true->(aI vb v1.length/\((0<=a.sig.aS/\a.sig.aS<=3)/\(av v6->((∃ t2:Nat,((qd a b i1 t2/\i1<v1.length)/\((a=a/\(b=b/\(True/\(v1=v1/\(vb=vb/\(True/\(v1=v1/\(v2=v2/\(vb=vb/\(v6=v6/\(v7=(t2:Int)/\True)))))))))))/\vc)))/\(∀ t2:Nat,let ve:=(t2:Int);let vd:=jK a va.pair.a0 ve;((qd a b i1 t2/\i1<v1.length)->(((decide (ve<v6))=true->(av va.pair.a0->(HG a va.pair.a0 ve/\(av va.pair.a1->(HG b va.pair.a1 ve/\(((vd == (jK b va.pair.a1 ve))=true->(av (ve+(1:Int))/\(∃ t3:Nat,((qd a b i1 t3/\i1<v1.length)/\(mK a - t3<mK a - t2/\((a=a/\(b=b/\(True/\(v1=v1/\(vb=vb/\(True/\(v1=v1/\(v2=v2/\(vb=vb/\(v6=v6/\((ve+(1:Int))=(t3:Int)/\True)))))))))))/\vc))))))/\((vd == (jK b va.pair.a1 ve))=false->((∃ v3:Mo,((Bw v1 i1 ve v3/\B4 a b (i1,t2))/\((True/\(v1=v1/\(vd=vd/\(True/\(vb=(v3.k:Int)/\True)))))/\(v5/\(([ve])=v3.xs/\(v3.ys=[]/\vc))))))/\(∀ v3:Mo,let vg:=(v3.k:Int);let vf:=v1.getD (Int.toNat vg) v0;((Bw v1 i1 ve v3/\B4 a b (i1,t2))->(aI vg v1.length/\(av vf.nG->(((decide (v7<=vf.nG))=true->(v1.length<=140737488355328->(av vg->(aI vg v1.length/\(av vf.atom->(v8/\((9000:Nat)=9000/\(v1=v1/\(vg=vg/\(aI vg v1.length/\(vf=vf/\(vf.atom=vf.atom/\(vf.atom=vf.atom/\(v8/\((9000:Nat)=9000/\(bC (v3.xs.length+([vf.atom]).length) 8/\(v1.length<=140737488355328->(av vg->(aI vg v1.length/\(av vf.act->(v9/\((9100:Nat)=9100/\(v1=v1/\(vg=vg/\(aI vg v1.length/\(vf=vf/\(vf.act=vf.act/\(vf.act=vf.act/\(v9/\((9100:Nat)=9100/\(bC (v3.ys.length+([vf.act]).length) 8/\(aI vg v1.length/\(av vf.nG->(∃ v4:Mo,((Bw v1 i1 ve v4/\B4 a b (i1,t2))/\(v4.k<v3.k/\((True/\(v1=v1/\(vd=vd/\(True/\(vf.nG=(v4.k:Int)/\True)))))/\(v5/\((v3.xs++([vf.atom]))=v4.xs/\((v3.ys++([vf.act]))=v4.ys/\vc))))))))))))))))))))))))))))))))))))))))/\((decide (v7<=vf.nG))=false->(v3.xs.length<=1000000/\(v3.ys.length<=1000000/\((iy.mk (v3.xs.reverse) (v3.ys.reverse))=(iy.mk (SP a b) (SQ a b))/\(vd=(WO a b)/\true=(QL a b)))))))))))))))))))/\((decide (ve<v6))=false->(av (vb+(1:Int))/\(∃ i3:Nat,(qd a b i3 0/\(v1.length - i3<v1.length - i1/\((a=a/\(b=b/\(True/\(v1=v1/\(v1=v1/\(v2=v2/\((vb+(1:Int))=(i3:Int)/\True)))))))/\(v5/\True)))))))))))))))/\((decide (vb<v2))=false->((iy.mk [] [])=(iy.mk (SP a b) (SQ a b))/\(false=(WO a b)/\false=(QL a b))))))))))))) ?_;have ha:=hp.ka;have hb:=hp.kb;have n1:(bn a.sig)=(mK a:Int):=ha.lens.2.2.2.1.symm;have n4:=(dy a.sig).1 ha.s;have n5:=ha.lens;have n6:=Ys hp;refine⟨?_,λ a0 a1=>⟨⟨0,?_,⟨rfl,rfl,ag,rfl,rfl,rfl,?_,ag⟩,⟨ag,ag,ag⟩,ag⟩,λ i1 _=>⟨λ _=>⟨?_,?_,λ _=>⟨⟨0,?_,⟨rfl,rfl,ag,rfl,rfl,ag,rfl,rfl,rfl,rfl,?_,ag⟩,⟨rfl,rfl,rfl,rfl,rfl,ag⟩,⟨ag,ag,ag⟩,ag⟩,λ t2 _=>⟨λ _ _=>⟨?_,λ _=>⟨?_,λ _=>⟨?_,t2+1,?_,?_,⟨rfl,rfl,ag,rfl,rfl,ag,rfl,rfl,rfl,rfl,?_,ag⟩,⟨rfl,rfl,rfl,rfl,rfl,ag⟩,⟨ag,ag,ag⟩,ag⟩,λ _=>⟨⟨(Mo.mk i1 [(t2:Int)] []),?_,⟨ag,rfl,rfl,ag,?_,ag⟩,⟨ag,ag,ag⟩,?_,?_,⟨rfl,rfl,rfl,rfl,rfl,ag⟩,⟨ag,ag,ag⟩,ag⟩,λ v3 _=>⟨?_,λ _=>⟨λ _ _ _=>⟨?_,λ _=>⟨⟨?_,?_⟩,?_,rfl,rfl,?_,rfl,rfl,rfl,⟨?_,?_⟩,?_,?_,λ _ _=>⟨?_,λ _=>⟨⟨?_,?_⟩,?_,rfl,rfl,?_,rfl,rfl,rfl,⟨?_,?_⟩,?_,?_,?_,λ _=>⟨(Mo.mk ((cN a b).getD v3.k (af.mk (au.mk (0:Int) (0:Int)) (0:Int) (0:Int) (0:Int))).nG.toNat (v3.xs++[((cN a b).getD v3.k (af.mk (au.mk (0:Int) (0:Int)) (0:Int) (0:Int) (0:Int))).atom]) (v3.ys++[((cN a b).getD v3.k (af.mk (au.mk (0:Int) (0:Int)) (0:Int) (0:Int) (0:Int))).act])),?_,?_,⟨ag,rfl,rfl,ag,?_,ag⟩,⟨ag,ag,ag⟩,?_,?_,⟨rfl,rfl,rfl,rfl,rfl,ag⟩,⟨ag,ag,ag⟩,ag⟩⟩⟩⟩⟩,λ _=>⟨?_,?_,?_,?_,?_⟩⟩⟩⟩⟩⟩,λ _=>⟨?_,i1+1,?_,?_,⟨rfl,rfl,ag,rfl,rfl,rfl,?_,ag⟩,⟨ag,ag,ag⟩,ag⟩⟩⟩⟩,λ _=>⟨?_,?_,?_⟩⟩⟩⟩;all_goals try and_intros
 all_goals (try simp only[b1g,b1r,b0R,b0Q,aI,av,bC,dH,b1H,b2I,b1S,b3x,b1J,b1D,b1z,b2D,b5g,b0Y,b0W,b1f,b1P] at *);first|done|with_reducible assumption|omega|with_reducible rfl|exact trivial|exact qd.first a b|exact a4N hp (by omega) (by omega)|exact a4O hp (by omega) (by omega)|exact qd.step (b1l (by with_reducible assumption)) (by omega) (a6d (by with_reducible assumption))|exact qd.row (b1l (by with_reducible assumption)) (by omega) (by omega)|exact Bw.first (S9 hp) (by omega) _|exact a7V (b1l (by with_reducible assumption)) (by omega) (by omega) (by with_reducible assumption)|(have q0:=b1l (a:=Bw (cN a b) i1 (t2:Int) v3) (by with_reducible assumption);have q1:=q0.hi;have q2:=q0.hk;have q3:=q0.nx;have q4:=q0.ny;have q5:=(S9 hp).f v3.k (by omega);omega)|exact Bw.Xy (S9 hp) (b1l (by with_reducible assumption)) (by with_reducible assumption)|exact b1m (by with_reducible assumption)|exact a7Y (b1m (by with_reducible assumption)) (Bw.a6f (b1l (by with_reducible assumption)) (by omega)) (Bw.a6g (b1l (by with_reducible assumption)) (by omega))|exact a7X (b1m (by with_reducible assumption))|exact a7W (b1m (by with_reducible assumption))|exact a8e (qd.done (by with_reducible assumption) (by omega))|exact a8d (qd.done (by with_reducible assumption) (by omega))|exact a8c (qd.done (by with_reducible assumption) (by omega))
noncomputable def ft(gg:aF)(e f:J):Int:=if dZ gg e=true/\dZ gg f=true then (if du gg e=0 then du gg f else du gg e) else 1
noncomputable def zA(gg:aF)(e f:J):ae:=if ft gg e f=0 then gG gg e else (ae.mk (aF.mk (0:Int) (0:Int)) [] [])
noncomputable def zB(gg:aF)(e f:J):ae:=if ft gg e f=0 then gG gg f else (ae.mk (aF.mk (0:Int) (0:Int)) [] [])
noncomputable def BG(gg:aF)(e f:J):ae:=if dZ gg e=true/\dZ gg f=true then gG gg e else (ae.mk (aF.mk (0:Int) (0:Int)) [] [])
noncomputable def BH(gg:aF)(e f:J):ae:=if dZ gg e=true/\dZ gg f=true then (if du gg e=0 then gG gg f else gG gg e) else (ae.mk (aF.mk (0:Int) (0:Int)) [] [])
def Jh(gg:aF)(e f:J):(cM (gb gg) [e,f]&&bS gg)=(dZ gg e&&dZ gg f):=by
 simp only[cM,dZ];cases bS gg<;>cases gb gg e<;>cases gb gg f<;>rfl
structure BoN(gg:aF)(e f:J):Prop where
 c:1=ft gg e f
 x:(ae.mk (aF.mk (0:Int) (0:Int)) [] [])=zA gg e f
 y:(ae.mk (aF.mk (0:Int) (0:Int)) [] [])=zB gg e f
 xs:(ae.mk (aF.mk (0:Int) (0:Int)) [] [])=BG gg e f
 ys:(ae.mk (aF.mk (0:Int) (0:Int)) [] [])=BH gg e f
def E5{gg:aF}{e f:J}(h:¬ (dZ gg e=true/\dZ gg f=true)):BoN gg e f:=by
 have c:ft gg e f=1:=by rw[ft,b0N h]
 exact⟨c.symm,by rw[zA,c];rfl,by rw[zB,c];rfl,by rw[BG,b0N h],by rw[BH,b0N h]⟩
structure BoM(gg:aF)(e f:J):Prop where
 c:du gg e=ft gg e f
 x:(ae.mk (aF.mk (0:Int) (0:Int)) [] [])=zA gg e f
 y:(ae.mk (aF.mk (0:Int) (0:Int)) [] [])=zB gg e f
 xs:gG gg e=BG gg e f
 ys:gG gg e=BH gg e f
def nj{gg:aF}{e f:J}(h:dZ gg e=true)(k:dZ gg f=true)(m:¬ du gg e=0):BoM gg e f:=by
 have c:ft gg e f=du gg e:=by rw[ft,b0T ⟨h,k⟩,b0N m]
 have d:¬ ft gg e f=0:=by rw[c];exact m
 exact⟨c.symm,by rw[zA,b0N d],by rw[zB,b0N d],by rw[BG,b0T ⟨h,k⟩],by rw[BH,b0T ⟨h,k⟩,b0N m]⟩
structure BoF(gg:aF)(e f:J):Prop where
 c:du gg f=ft gg e f
 xs:gG gg e=BG gg e f
 ys:gG gg f=BH gg e f
def AP{gg:aF}{e f:J}(h:dZ gg e=true)(k:dZ gg f=true)(m:du gg e=0):BoF gg e f:=⟨by rw[ft,b0T ⟨h,k⟩,b0T m],by rw[BG,b0T ⟨h,k⟩],by rw[BH,b0T ⟨h,k⟩,b0T m]⟩
def SH{gg:aF}{e f:J}(h:dZ gg e=true)(k:dZ gg f=true)(m:du gg e=0)(n:¬ du gg f=0):(ae.mk (aF.mk (0:Int) (0:Int)) [] [])=zA gg e f/\(ae.mk (aF.mk (0:Int) (0:Int)) [] [])=zB gg e f:=by
 have d:¬ ft gg e f=0:=by rw[<-(AP h k m).c];exact n
 exact⟨by rw[zA,b0N d],by rw[zB,b0N d]⟩
def J1{gg:aF}{e f:J}(h:dZ gg e=true)(k:dZ gg f=true)(m:du gg e=0)(n:du gg f=0):(0=ft gg e f/\gG gg e=zA gg e f)/\gG gg f=zB gg e f:=by
 have d:ft gg e f=0:=by rw[<-(AP h k m).c];exact n
 exact⟨⟨d.symm,by rw[zA,b0T d]⟩,by rw[zB,b0T d]⟩
structure BoK(gg:aF)(e f:J):Prop where
 s:dZ gg e=true
 t:dZ gg f=true
 a:du gg e=0
 b:du gg f=0
def Ym{gg:aF}{e f:J}(h:ft gg e f=0):BoK gg e f:=by
 unfold ft at h;split at h
 .rename_i w;split at h
  .rename_i u;exact⟨w.1,w.2,u,h⟩
  .exact absurd h (by assumption)
 .exact absurd h (by decide)
def Nv{gg:aF}{e:J}(h:du gg e=0):(gG gg e).sig=gg:=by rw[gG,b0T h]
def WJ{gg:aF}{e f:J}(h:ft gg e f=0):AB (gG gg e) (gG gg f):=by
 have k:=Ym h;have q:=lG k.s;have r:=lG k.t;exact⟨a0K q.s q.g q.n k.a,a0K r.s r.g r.n k.b,by rw[Nv k.a,Nv k.b]⟩
def a0R{gg:aF}{e f:J}(h:ft gg e f=0):AB (zA gg e f) (zB gg e f):=by rw[zA,zB,b0T h,b0T h];exact WJ h
def SG{gg:aF}{e f:J}(h:ft gg e f=0):AB (BG gg e f) (BH gg e f):=by
 have k:=Ym h;rw[<-(AP k.s k.t k.a).xs,<-(AP k.s k.t k.a).ys];exact WJ h
def a0S{gg:aF}{e f:J}(h:ft gg e f=0):AB (BH gg e f) (BG gg e f):=(SG h).sw
noncomputable def mL(gg:aF)(e f:J):Bool:=if ft gg e f=0 then sq (gG gg e) (gG gg f) else false
def a4P{gg:aF}{e f:J}(h:¬ ft gg e f=0):false=mL gg e f:=by rw[mL,b0N h]
def a4Q{gg:aF}{e f:J}(h:ft gg e f=0):(!QL (zA gg e f) (zB gg e f))=mL gg e f:=by rw[mL,b0T h,zA,zB,b0T h,b0T h,QL,Bool.not_not]
def a4R{gg:aF}{e f:J}(h:ft gg e f=0):(DQ (BG gg e f) (BH gg e f)&&DQ (BH gg e f) (BG gg e f))=mL gg e f:=by
 have k:=Ym h;rw[a3s (SG h),mL,b0T h,<-(AP k.s k.t k.a).xs,<-(AP k.s k.t k.a).ys]
def a1d{gg:aF}{e f:J}(h:ft gg e f=0)(w:DQ (BG gg e f) (BH gg e f)=true):DQ (BH gg e f) (BG gg e f)=mL gg e f:=by rw[<-a4R h,w,b3C]
def a1c{gg:aF}{e f:J}(h:ft gg e f=0)(w:DQ (BG gg e f) (BH gg e f)=false):false=mL gg e f:=by rw[<-a4R h,w,b4T]
def qs:bc:=⟨qx,[.v (.st .sig), .v (.st .expr), .v (.st .expr)],λ (gg:aF) (e:J) (f:J)=>⟨(none,[⟨(.st .automaton),zA gg e f⟩,⟨(.st .automaton),zB gg e f⟩,⟨(.int .i64),ft gg e f⟩])⟩⟩
def C6(gg:aF)(e:J)(f:J):Nat->aP:=cw
abbrev nZ(gg:aF)(f:J):Prop:=(let v0:=gG gg f;(v0.sig.aS=v0.sig.aS/\(v0.sig.aw=v0.sig.aw/\(v0.accept=v0.accept/\(v0.next=v0.next/\True)))))
def yn:bc.Good qs:=by
 refine⟨aH oK,?_⟩;intro (gg:aF) (e:J) (f:J) _;refine bf [mY,sF] [] [] [3,4,5] ⟨oN,zU,ag⟩ oK ya (C6 gg e f) (let v1:=gG gg e;let v2 := !(cM (gb gg) ([e,f])&&bS gg);let v3:=(0:Int);let v0:=ae.mk (aF.mk v3 v3) [] [];(((v2=true->(v0=(zA gg e f)/\(v0=(zB gg e f)/\(1:Int)=(ft gg e f))))/\(v2=false->((bS gg=true/\aA e=true/\ar e<=1000)/\(av (du gg e)->(((!(decide ((du gg e)=v3)))=true->(v0=(zA gg e f)/\(v0=(zB gg e f)/\(du gg e)=(ft gg e f))))/\((!(decide ((du gg e)=v3)))=false->((bS gg=true/\aA f=true/\ar f<=1000)/\(av (du gg f)->(((!(decide ((du gg f)=v3)))=true->(v0=(zA gg e f)/\(v0=(zB gg e f)/\(du gg f)=(ft gg e f))))/\((!(decide ((du gg f)=v3)))=false->((v1.sig.aS=v1.sig.aS/\(v1.sig.aw=v1.sig.aw/\(v1.accept=v1.accept/\(v1.next=v1.next/\True))))/\((nZ gg f)/\((nZ gg f)/\(v1=(zA gg e f)/\((gG gg f)=(zB gg e f)/\v3=(ft gg e f)))))))))))))))))) ?_;refine⟨λ _=>⟨?_,?_,?_⟩,λ _=>⟨?_,λ _=>⟨λ _=>⟨?_,?_,?_⟩,λ _=>⟨?_,λ _=>⟨λ _=>⟨?_,?_,?_⟩,λ _=>⟨⟨rfl,rfl,rfl,rfl,?_⟩,⟨rfl,rfl,rfl,rfl,?_⟩,⟨rfl,rfl,rfl,rfl,?_⟩,?_,?_,?_⟩⟩⟩⟩⟩⟩;all_goals try and_intros
 all_goals (try simp only[b1g,b1r,b0U,b3U,b0R,b0Q,b3S,b3x,b1z,b2D,Decidable.not_not,Jh] at *);first|done|with_reducible assumption|with_reducible rfl|exact trivial|exact (nj (b1l (by with_reducible assumption)) (b1m (by with_reducible assumption)) (by with_reducible assumption)).c|exact (nj (by with_reducible assumption) (by with_reducible assumption) (by with_reducible assumption)).c|exact (nj (b1l (by with_reducible assumption)) (b1m (by with_reducible assumption)) (by with_reducible assumption)).x|exact (nj (by with_reducible assumption) (by with_reducible assumption) (by with_reducible assumption)).x|exact (nj (b1l (by with_reducible assumption)) (b1m (by with_reducible assumption)) (by with_reducible assumption)).y|exact (nj (by with_reducible assumption) (by with_reducible assumption) (by with_reducible assumption)).y|exact (nj (b1l (by with_reducible assumption)) (b1m (by with_reducible assumption)) (by with_reducible assumption)).xs|exact (nj (by with_reducible assumption) (by with_reducible assumption) (by with_reducible assumption)).xs|exact (nj (b1l (by with_reducible assumption)) (b1m (by with_reducible assumption)) (by with_reducible assumption)).ys|exact (nj (by with_reducible assumption) (by with_reducible assumption) (by with_reducible assumption)).ys|exact (AP (by first|exact b1l (by with_reducible assumption)|exact b1m (by with_reducible assumption)|with_reducible assumption) (by first|exact b1l (by with_reducible assumption)|exact b1m (by with_reducible assumption)|with_reducible assumption) (by with_reducible assumption)).c|exact (AP (by first|exact b1l (by with_reducible assumption)|exact b1m (by with_reducible assumption)|with_reducible assumption) (by first|exact b1l (by with_reducible assumption)|exact b1m (by with_reducible assumption)|with_reducible assumption) (by with_reducible assumption)).xs|exact (AP (by first|exact b1l (by with_reducible assumption)|exact b1m (by with_reducible assumption)|with_reducible assumption) (by first|exact b1l (by with_reducible assumption)|exact b1m (by with_reducible assumption)|with_reducible assumption) (by with_reducible assumption)).ys|exact (SH (by first|exact b1l (by with_reducible assumption)|exact b1m (by with_reducible assumption)|with_reducible assumption) (by first|exact b1l (by with_reducible assumption)|exact b1m (by with_reducible assumption)|with_reducible assumption) (by with_reducible assumption) (by with_reducible assumption)).1|exact (SH (by first|exact b1l (by with_reducible assumption)|exact b1m (by with_reducible assumption)|with_reducible assumption) (by first|exact b1l (by with_reducible assumption)|exact b1m (by with_reducible assumption)|with_reducible assumption) (by with_reducible assumption) (by with_reducible assumption)).2|exact (J1 (by first|exact b1l (by with_reducible assumption)|exact b1m (by with_reducible assumption)|with_reducible assumption) (by first|exact b1l (by with_reducible assumption)|exact b1m (by with_reducible assumption)|with_reducible assumption) (by with_reducible assumption) (by with_reducible assumption)).1.1|exact (J1 (by first|exact b1l (by with_reducible assumption)|exact b1m (by with_reducible assumption)|with_reducible assumption) (by first|exact b1l (by with_reducible assumption)|exact b1m (by with_reducible assumption)|with_reducible assumption) (by with_reducible assumption) (by with_reducible assumption)).1.2|exact (J1 (by first|exact b1l (by with_reducible assumption)|exact b1m (by with_reducible assumption)|with_reducible assumption) (by first|exact b1l (by with_reducible assumption)|exact b1m (by with_reducible assumption)|with_reducible assumption) (by with_reducible assumption) (by with_reducible assumption)).2|exact (E5 (by rintro⟨q1,q2⟩;simp_all)).c|exact (E5 (by rintro⟨q1,q2⟩;simp_all)).x|exact (E5 (by rintro⟨q1,q2⟩;simp_all)).y|exact (E5 (by rintro⟨q1,q2⟩;simp_all)).xs|exact (E5 (by rintro⟨q1,q2⟩;simp_all)).ys|exact (lG (by first|exact b1l (by with_reducible assumption)|exact b1m (by with_reducible assumption)|with_reducible assumption)).s|exact (lG (by first|exact b1l (by with_reducible assumption)|exact b1m (by with_reducible assumption)|with_reducible assumption)).g|exact (lG (by first|exact b1l (by with_reducible assumption)|exact b1m (by with_reducible assumption)|with_reducible assumption)).n
def Bd:bc:=⟨Br,[.v (.st .sig), .r (.st .expr), .r (.st .expr)],λ (gg:aF) (e:J) (f:J)=>⟨(none,[⟨(.st .automaton),BG gg e f⟩,⟨(.st .automaton),BH gg e f⟩,⟨(.int .i64),ft gg e f⟩])⟩⟩
def Nc(gg:aF)(e:J)(f:J):Nat->aP:=cw
abbrev wK(gg:aF)(e:J)(f:J):Prop:=(let v0:=ae.mk (aF.mk (0:Int) (0:Int)) [] [];(v0=(BG gg e f)/\(v0=(BH gg e f)/\(1:Int)=(ft gg e f))))
abbrev IZ(gg:aF)(e:J):Prop:=(let v0:=gG gg e;(v0.sig.aS=v0.sig.aS/\(v0.sig.aw=v0.sig.aw/\(v0.accept=v0.accept/\(v0.next=v0.next/\True)))))
abbrev wL(gg:aF)(f:J):Prop:=(let v0:=gG gg f;(v0.sig.aS=v0.sig.aS/\(v0.sig.aw=v0.sig.aw/\(v0.accept=v0.accept/\(v0.next=v0.next/\True)))))
abbrev wM(gg:aF)(e:J)(f:J):Prop:=(let v0:=du gg e;let v1:=du gg f;let v2:=IZ gg e;((bS gg=true/\aA e=true/\ar e<=1000)/\(av v0 ->
 (((!(decide (v0=(0:Int))))=true ->
 (av v0 ->
 (v2/\(v2/\(v0=v0/\(v2/\(v0=v0/\(v0=v0/\((gG gg e)=(BG gg e f)/\((gG gg e)=(BH gg e f)/\v0=(ft gg e f)))))))))))/\((!(decide (v0=(0:Int))))=false ->
 ((bS gg=true/\aA f=true/\ar f<=1000)/\(av v1 ->
 (av v1 ->
 (v2/\((wL gg f)/\(v1=v1/\((wL gg f)/\(v1=v1/\(v1=v1/\((gG gg e)=(BG gg e f)/\((gG gg f)=(BH gg e f)/\v1=(ft gg e f)))))))))))))))))
def GR:bc.Good Bd:=by
 refine⟨aH x8,?_⟩;intro (gg:aF) (e:J) (f:J) _;refine bf [xD,Bb] [] [] [3] ⟨yq,GO,ag⟩ x8 Gq (Nc gg e f) ((((!(dZ gg e))=false->(((!(dZ gg f))=true->(wK gg e f))/\((!(dZ gg f))=false->(wM gg e f))))/\((!(dZ gg e))=(!false)->((true=true->(wK gg e f))/\(true=false->(wM gg e f)))))) ?_;refine⟨λ _=>⟨λ _=>⟨?_,?_,?_⟩,λ _=>⟨?_,λ _=>⟨λ _ _=>⟨⟨rfl,rfl,rfl,rfl,?_⟩,⟨rfl,rfl,rfl,rfl,?_⟩,rfl,⟨rfl,rfl,rfl,rfl,?_⟩,rfl,rfl,?_,?_,?_⟩,λ _=>⟨?_,λ _ _=>⟨⟨rfl,rfl,rfl,rfl,?_⟩,⟨rfl,rfl,rfl,rfl,?_⟩,rfl,⟨rfl,rfl,rfl,rfl,?_⟩,rfl,rfl,?_,?_,?_⟩⟩⟩⟩⟩,λ _=>⟨λ _=>⟨?_,?_,?_⟩,λ _=>⟨?_,λ _=>⟨λ _ _=>⟨⟨rfl,rfl,rfl,rfl,?_⟩,⟨rfl,rfl,rfl,rfl,?_⟩,rfl,⟨rfl,rfl,rfl,rfl,?_⟩,rfl,rfl,?_,?_,?_⟩,λ _=>⟨?_,λ _ _=>⟨⟨rfl,rfl,rfl,rfl,?_⟩,⟨rfl,rfl,rfl,rfl,?_⟩,rfl,⟨rfl,rfl,rfl,rfl,?_⟩,rfl,rfl,?_,?_,?_⟩⟩⟩⟩⟩⟩;all_goals try and_intros
 all_goals (try simp only[b1g,b1r,b0U,b3U,b0R,b0Q,b3S,b3x,b1z,b2D,Decidable.not_not,Jh] at *);first|done|with_reducible assumption|with_reducible rfl|exact trivial|exact (nj (b1l (by with_reducible assumption)) (b1m (by with_reducible assumption)) (by with_reducible assumption)).c|exact (nj (by with_reducible assumption) (by with_reducible assumption) (by with_reducible assumption)).c|exact (nj (b1l (by with_reducible assumption)) (b1m (by with_reducible assumption)) (by with_reducible assumption)).x|exact (nj (by with_reducible assumption) (by with_reducible assumption) (by with_reducible assumption)).x|exact (nj (b1l (by with_reducible assumption)) (b1m (by with_reducible assumption)) (by with_reducible assumption)).y|exact (nj (by with_reducible assumption) (by with_reducible assumption) (by with_reducible assumption)).y|exact (nj (b1l (by with_reducible assumption)) (b1m (by with_reducible assumption)) (by with_reducible assumption)).xs|exact (nj (by with_reducible assumption) (by with_reducible assumption) (by with_reducible assumption)).xs|exact (nj (b1l (by with_reducible assumption)) (b1m (by with_reducible assumption)) (by with_reducible assumption)).ys|exact (nj (by with_reducible assumption) (by with_reducible assumption) (by with_reducible assumption)).ys|exact (AP (by first|exact b1l (by with_reducible assumption)|exact b1m (by with_reducible assumption)|with_reducible assumption) (by first|exact b1l (by with_reducible assumption)|exact b1m (by with_reducible assumption)|with_reducible assumption) (by with_reducible assumption)).c|exact (AP (by first|exact b1l (by with_reducible assumption)|exact b1m (by with_reducible assumption)|with_reducible assumption) (by first|exact b1l (by with_reducible assumption)|exact b1m (by with_reducible assumption)|with_reducible assumption) (by with_reducible assumption)).xs|exact (AP (by first|exact b1l (by with_reducible assumption)|exact b1m (by with_reducible assumption)|with_reducible assumption) (by first|exact b1l (by with_reducible assumption)|exact b1m (by with_reducible assumption)|with_reducible assumption) (by with_reducible assumption)).ys|exact (SH (by first|exact b1l (by with_reducible assumption)|exact b1m (by with_reducible assumption)|with_reducible assumption) (by first|exact b1l (by with_reducible assumption)|exact b1m (by with_reducible assumption)|with_reducible assumption) (by with_reducible assumption) (by with_reducible assumption)).1|exact (SH (by first|exact b1l (by with_reducible assumption)|exact b1m (by with_reducible assumption)|with_reducible assumption) (by first|exact b1l (by with_reducible assumption)|exact b1m (by with_reducible assumption)|with_reducible assumption) (by with_reducible assumption) (by with_reducible assumption)).2|exact (J1 (by first|exact b1l (by with_reducible assumption)|exact b1m (by with_reducible assumption)|with_reducible assumption) (by first|exact b1l (by with_reducible assumption)|exact b1m (by with_reducible assumption)|with_reducible assumption) (by with_reducible assumption) (by with_reducible assumption)).1.1|exact (J1 (by first|exact b1l (by with_reducible assumption)|exact b1m (by with_reducible assumption)|with_reducible assumption) (by first|exact b1l (by with_reducible assumption)|exact b1m (by with_reducible assumption)|with_reducible assumption) (by with_reducible assumption) (by with_reducible assumption)).1.2|exact (J1 (by first|exact b1l (by with_reducible assumption)|exact b1m (by with_reducible assumption)|with_reducible assumption) (by first|exact b1l (by with_reducible assumption)|exact b1m (by with_reducible assumption)|with_reducible assumption) (by with_reducible assumption) (by with_reducible assumption)).2|exact (E5 (by rintro⟨q1,q2⟩;simp_all)).c|exact (E5 (by rintro⟨q1,q2⟩;simp_all)).x|exact (E5 (by rintro⟨q1,q2⟩;simp_all)).y|exact (E5 (by rintro⟨q1,q2⟩;simp_all)).xs|exact (E5 (by rintro⟨q1,q2⟩;simp_all)).ys|exact (lG (by first|exact b1l (by with_reducible assumption)|exact b1m (by with_reducible assumption)|with_reducible assumption)).s|exact (lG (by first|exact b1l (by with_reducible assumption)|exact b1m (by with_reducible assumption)|with_reducible assumption)).g|exact (lG (by first|exact b1l (by with_reducible assumption)|exact b1m (by with_reducible assumption)|with_reducible assumption)).n
structure tE(a b:ae)(i t:Nat):Prop where
 hi:i<=(cN a b).length
 ht:t<=mK a
 p:∀ j,j<i->∀ s,s<mK a->Rm a b ((cN a b).getD j (af.mk (au.mk (0:Int) (0:Int)) (0:Int) (0:Int) (0:Int))) s
 q:∀ s,s<t->Rm a b ((cN a b).getD i (af.mk (au.mk (0:Int) (0:Int)) (0:Int) (0:Int) (0:Int))) s
def tE.first(a b:ae):tE a b 0 0:=⟨b1G _,b1G _,λ j hj=>by omega,λ s hs=>by omega⟩
def tE.step{a b:ae}{i t:Nat}(h:tE a b i t)(ht:t<mK a)(e:Rm a b ((cN a b).getD i (af.mk (au.mk (0:Int) (0:Int)) (0:Int) (0:Int) (0:Int))) t):tE a b i (t+1):=⟨h.hi,ht,h.p,λ s hs=>by
 rcases b1w s t with r|r
 .exact h.q s r
 .rw[show s=t by omega];exact e⟩
def tE.row{a b:ae}{i t:Nat}(h:tE a b i t)(hi:i<(cN a b).length)(ht:¬ t<mK a):tE a b (i+1) 0:=⟨hi,b1G _,λ j hj s hs=>by
 rcases b1w j i with r|r
 .exact h.p j r s hs
 .rw[show j=i by omega];exact h.q s (by omega),λ s hs=>by omega⟩
def tE.done{a b:ae}{i t:Nat}(h:tE a b i t)(hi:¬ i<(cN a b).length):true=DQ a b:=(NR.2 λ j hj s hs=>h.p j (by omega) s hs).symm
def a7p{a b:ae}(h:AB a b){i t:Nat}(e:jK a ((p0 (cN a b)).getD i 0) (t:Int)=true)(k:jK b ((p1 (cN a b)).getD i 0) (t:Int)=false)(hi:i<(cN a b).length)(ht:t<mK a):false=DQ a b:=by
 rw[D7 hi] at e;rw[D8 hi] at k;symm;rw[b4s];intro w;have:=NR.1 w i hi t ht e;rw[k] at this;cases this
def a7q{a b:ae}{i t:Nat}(hi:i<(cN a b).length)(e:jK a ((p0 (cN a b)).getD i 0) (t:Int)=false):Rm a b ((cN a b).getD i (af.mk (au.mk (0:Int) (0:Int)) (0:Int) (0:Int) (0:Int))) t:=λ w=>by
 rw[D7 hi] at e;rw[e] at w;cases w
def a7r{a b:ae}{i t:Nat}(hi:i<(cN a b).length)(k:jK b ((p1 (cN a b)).getD i 0) (t:Int)=true):Rm a b ((cN a b).getD i (af.mk (au.mk (0:Int) (0:Int)) (0:Int) (0:Int) (0:Int))) t:=λ _=>by
 rw[D8 hi] at k;exact k
def a9A{a b:ae}(h:AB a b){i t:Nat}(hi:i<(cN a b).length)(ht:t<mK a):HG a ((p0 (cN a b)).getD i 0) (t:Int):=by rw[D7 hi];exact a4N h hi ht
def a9B{a b:ae}(h:AB a b){i t:Nat}(hi:i<(cN a b).length)(ht:t<mK a):HG b ((p1 (cN a b)).getD i 0) (t:Int):=by rw[D8 hi];exact a4O h hi ht
def wO:bc:=⟨wT,[.r (.st .automaton), .r (.st .automaton)],λ (a:ae) (b:ae)=>⟨(some (AB a b),[⟨.bool,DQ a b⟩])⟩⟩
def I1(a:ae)(b:ae):Nat->aP:=(eR 0 (.mk (Nat) (λ i=>tE a b i 0) (λ i=>(cN a b).length - i) [] [9,10,11,12,13,14] (λ i=>[(7, .aO ⟨(.int .i64),((i:Int):Int)⟩)]) [] (λ i=>[]) [] [] (λ i=>(eR 2 (.b (Nat) (λ t=>tE a b i t/\i<(cN a b).length) (λ t=>mK a - t) [15,16,17,18] (λ t=>[(8, .aO ⟨(.int .i64),((t:Int):Int)⟩)])) cw))) cw)
abbrev sE(a:ae)(b:ae)(i1:Nat)(t2:Nat):Prop:=(av ((t2:Int)+(1:Int))/\(∃ t3:Nat,((tE a b i1 t3/\i1<(cN a b).length)/\(mK a - t3<mK a - t2/\((a=a/\(b=b/\((p0 (cN a b))=(p0 (cN a b))/\((p1 (cN a b))=(p1 (cN a b))/\((i1:Int)=(i1:Int)/\(((t2:Int)+(1:Int))=(t3:Int)/\True))))))/\True)))))
def CE:bc.Good wO:=by
 refine⟨aH tH,?_⟩;intro (a:ae) (b:ae) (hp:AB a b);refine bf [yL,iG,C5] [] [] [] ⟨EM,im,IE,ag⟩ tH Cg (I1 a b) (let v0:=cN a b;let v1:=p0 v0;let v2:=(0:Int);let v3:=p1 v0;let v4:=(v1.length:Int);((AB a b/\(v1.length<=140737488355328->(v3.length<=140737488355328->((∃ i1:Nat,(tE a b i1 0/\((a=a/\(b=b/\(v1=v1/\(v3=v3/\(v2=(i1:Int)/\True)))))/\True)))/\(∀ i1:Nat,let v5:=(i1:Int);let v6:=v1.getD i1 v2;let v7:=v3.getD i1 v2;(tE a b i1 0->(av v4->(((decide (v5<v4))=true->((∃ t2:Nat,((tE a b i1 t2/\i1<v0.length)/\((a=a/\(b=b/\(v1=v1/\(v3=v3/\(v5=v5/\(v2=(t2:Int)/\True))))))/\True)))/\(∀ t2:Nat,let v8:=(t2:Int);((tE a b i1 t2/\i1<v0.length)->((0<=a.sig.aS/\a.sig.aS<=3)/\(av (bn a.sig)->(((decide (v8<(bn a.sig)))=true->(aI v5 v1.length/\(av v6->(HG a v6 v8/\(((jK a v6 v8)=true->(aI v5 v3.length/\(av v7->(HG b v7 v8/\(((!(jK b v7 v8))=true->false=(DQ a b))/\((!(jK b v7 v8))=false->(sE a b i1 t2)))))))/\((jK a v6 v8)=(!true)->((false=true->false=(DQ a b))/\(false=false->(sE a b i1 t2)))))))))/\((decide (v8<(bn a.sig)))=false->(av (v5+(1:Int))/\(∃ i3:Nat,(tE a b i3 0/\(v0.length - i3<v0.length - i1/\((a=a/\(b=b/\(v1=v1/\(v3=v3/\((v5+(1:Int))=(i3:Int)/\True)))))/\True)))))))))))))/\((decide (v5<v4))=false->true=(DQ a b)))))))))))) ?_;have ha:=hp.ka;have hb:=hp.kb;have n1:(bn a.sig)=(mK a:Int):=ha.lens.2.2.2.1.symm;have n4:=(dy a.sig).1 ha.s;have n5:=ha.lens;have n6:=Ys hp;refine⟨?_,λ _ _=>⟨⟨0,?_,⟨rfl,rfl,rfl,rfl,?_,ag⟩,ag⟩,λ i1 _ _=>⟨λ _=>⟨⟨0,?_,⟨rfl,rfl,rfl,rfl,rfl,?_,ag⟩,ag⟩,λ t2 _=>⟨?_,λ _=>⟨λ _=>⟨?_,λ _=>⟨?_,λ _=>⟨?_,λ _=>⟨?_,λ _=>?_,λ _=>⟨?_,t2+1,?_,?_,⟨rfl,rfl,rfl,rfl,rfl,?_,ag⟩,ag⟩⟩⟩,λ _=>⟨λ _=>?_,λ _=>⟨?_,t2+1,?_,?_,⟨rfl,rfl,rfl,rfl,rfl,?_,ag⟩,ag⟩⟩⟩⟩,λ _=>⟨?_,i1+1,?_,?_,⟨rfl,rfl,rfl,rfl,?_,ag⟩,ag⟩⟩⟩⟩,λ _=>?_⟩⟩⟩;all_goals try and_intros
 all_goals (try simp only[b1g,b1r,b0R,b0Q,aI,av,bC,dH,b1H,b2I,b1S,b3x,b1J,b1D,b1z,b2D,YU,YV,b0Y,b0W,b1f,b1P] at *);first|done|with_reducible assumption|omega|with_reducible rfl|exact trivial|exact tE.first a b|exact a9A hp (by omega) (by omega)|exact a9B hp (by omega) (by omega)|exact tE.step (b1l (by with_reducible assumption)) (by omega) (a7q (by omega) (by with_reducible assumption))|exact tE.step (b1l (by with_reducible assumption)) (by omega) (a7r (by omega) (by with_reducible assumption))|exact tE.row (b1l (by with_reducible assumption)) (by omega) (by omega)|exact tE.done (by with_reducible assumption) (by omega)|exact a7p hp (by with_reducible assumption) (by with_reducible assumption) (by omega) (by omega)
def mX:bc:=⟨uL,[.v (.st .sig), .v (.st .expr), .v (.st .expr)],λ (gg:aF) (e:J) (f:J)=>⟨(none,[⟨.bool,mL gg e f⟩,⟨(.int .i64),ft gg e f⟩])⟩⟩
def Hf(gg:aF)(e:J)(f:J):Nat->aP:=cw
def oM:bc.Good mX:=by
 refine⟨aH sb,?_⟩;intro (gg:aF) (e:J) (f:J) _;refine Hr [qs] [sG] [] [] [28] [] [] [3,4,5] ⟨yn,ag⟩ ⟨Av,ag⟩ trivial trivial sb Bz (Hf gg e f) (let v0:=ft gg e f;((av v0->(((!(decide (v0=(0:Int))))=true->(false=(mL gg e f)/\v0=v0))/\((!(decide (v0=(0:Int))))=false->(AB (zA gg e f) (zB gg e f)/\((!(QL (zA gg e f) (zB gg e f)))=(mL gg e f)/\(0:Int)=v0))))))) ?_;refine λ _=>⟨λ _=>⟨?_,rfl⟩,λ _=>⟨?_,?_,?_⟩⟩;all_goals try and_intros
 all_goals (try simp only[b1g,b1r,b1J,b1D,b0R,b0Q] at *);first|done|with_reducible assumption|with_reducible rfl|exact trivial|exact a0R (by with_reducible assumption)|exact SG (by with_reducible assumption)|exact a0S (by with_reducible assumption)|exact a4P (by with_reducible assumption)|exact a4Q (by with_reducible assumption)|exact a1d (by with_reducible assumption) (by with_reducible assumption)|exact a1c (by with_reducible assumption) (by with_reducible assumption)|(symm;assumption)
def mZ:bc:=⟨uQ,[.v (.st .sig), .v (.st .expr), .v (.st .expr)],λ (gg:aF) (e:J) (f:J)=>⟨(none,[⟨.bool,mL gg e f⟩,⟨(.int .i64),ft gg e f⟩])⟩⟩
def Hi(gg:aF)(e:J)(f:J):Nat->aP:=cw
def oO:bc.Good mZ:=by
 refine⟨aH si,?_⟩;intro (gg:aF) (e:J) (f:J) _;refine bf [Bd,wO] [] [] [3,4,5] ⟨GR,CE,ag⟩ si BD (Hi gg e f) (let v0:=ft gg e f;let v1:=BG gg e f;let v2:=BH gg e f;((av v0->(((!(decide (v0=(0:Int))))=true->(false=(mL gg e f)/\v0=v0))/\((!(decide (v0=(0:Int))))=false->(AB v1 v2/\(((DQ v1 v2)=true->(AB v2 v1/\((DQ v2 v1)=(mL gg e f)/\(0:Int)=v0)))/\((DQ v1 v2)=(!true)->(false=(mL gg e f)/\(0:Int)=v0))))))))) ?_;refine λ _=>⟨λ _=>⟨?_,rfl⟩,λ _=>⟨?_,λ _=>⟨?_,?_,?_⟩,λ _=>⟨?_,?_⟩⟩⟩;all_goals try and_intros
 all_goals (try simp only[b1g,b1r,b1J,b1D,b0R,b0Q] at *);first|done|with_reducible assumption|with_reducible rfl|exact trivial|exact a0R (by with_reducible assumption)|exact SG (by with_reducible assumption)|exact a0S (by with_reducible assumption)|exact a4P (by with_reducible assumption)|exact a4Q (by with_reducible assumption)|exact a1d (by with_reducible assumption) (by with_reducible assumption)|exact a1c (by with_reducible assumption) (by with_reducible assumption)|(symm;assumption)
def cZ(xs:List J):J:=xs.foldl (λ o e=>J.mk (6:Int) (0:Int) [o,e]) (J.mk (1:Int) (0:Int) [])
def Qt(xs:List J)(e:J):cZ (xs++[e])=J.mk (6:Int) (0:Int) [cZ xs,e]:=by simp[cZ,b2Y]
def Ee{xs:List J}{i:Nat}(h:i<xs.length):J.mk (6:Int) (0:Int) [cZ (xs.take i),xs.getD i zE]=cZ (xs.take (i+1)):=by
 rw[b2Z,b1a h,b0S,b1a h];exact (Qt _ _).symm
def AA{xs:List J}{i:Nat}(h:¬ i<xs.length):cZ (xs.take i)=cZ xs:=by rw[b1I (by omega)]
def mh(n:Nat):List J:=(List.range n).map λ a:Nat=>J.mk (4:Int) (a:Int) []
def Wt(n:Nat):mh n++[J.mk (4:Int) (n:Int) []]=mh (n+1):=by simp[mh,b4N]
def Us(n:Nat):(mh n).length=n:=by simp[mh]
def JU(n:Nat):J.mk (6:Int) (0:Int) [cZ (mh n),J.mk (4:Int) (n:Int) []]=cZ (mh (n+1)):=by rw[<-Wt,Qt]
def awE(n:Nat):J:=J.mk (8:Int) (0:Int) [cZ (mh n)]
def WA(n:Nat)(h:n<=4):aA (awE n)=true/\ar (awE n)<=3000:=by
 have:n=0\/n=1\/n=2\/n=3\/n=4:=by omega
 rcases this with h|h|h|h|h<;>subst h<;>exact⟨by decide,by decide⟩
noncomputable def x9(gg:aF):J:=eu (awE gg.aw.toNat)
def a4A{gg:aF}{i:Nat}(h:¬ (i:Int)<gg.aw)(k:i<=gg.aw.toNat):eu (J.mk (8:Int) (0:Int) [cZ (mh i)])=x9 gg:=by rw[show i=gg.aw.toNat by omega];rfl
structure AwI(n:Nat):Prop where
 g:aA (J.mk (8:Int) (0:Int) [cZ (mh n)])=true
 n:ar (J.mk (8:Int) (0:Int) [cZ (mh n)])<=3000
def awI{n:Nat}(h:n<=4):AwI n:=⟨(WA n h).1,(WA n h).2⟩
noncomputable abbrev mM(gg:aF)(xs:List J)(e:J):J:=J.mk (6:Int) (0:Int) [e,J.mk (7:Int) (0:Int) [x9 gg,J.mk (7:Int) (0:Int) [cZ xs,x9 gg]]]
structure Ik(gg:aF)(xs:List J)(e f:J):Prop where
 l:cM (gb gg) xs=true
 p:dZ gg e=true
 q:dZ gg f=true
noncomputable def kg(gg:aF)(xs:List J)(e f:J):Int := @ite _ (Ik gg xs e f) (Classical.propDecidable _) (if xs.length<=4 then (if gb gg (mM gg xs e)=true/\gb gg (mM gg xs f)=true then ft gg (mM gg xs e) (mM gg xs f) else 3) else 2) 1
noncomputable def lO(gg:aF)(xs:List J)(e f:J):Bool := @ite _ (Ik gg xs e f) (Classical.propDecidable _) (if xs.length<=4 then (if gb gg (mM gg xs e)=true/\gb gg (mM gg xs f)=true then mL gg (mM gg xs e) (mM gg xs f) else false) else false) false
def YT{gg:aF}{e:J}(h:dZ gg e=true):bS gg=true:=(lG h).s
def a2z{gg:aF}{e x:J}(h:dZ gg e=true):dZ gg x=gb gg x:=by rw[dZ,YT h,b3C]
def YS{gg:aF}{x:J}(h:dZ gg x=true):gb gg x=true:=by rw[dZ,b0U] at h;exact h.2
def a0D{gg:aF}{xs:List J}{i:Nat}{e f:J}(k:dZ gg (xs.getD i zE)=false)(h:dZ gg e=true)(hi:i<xs.length):¬ Ik gg xs e f:=λ q=>by
 have:=eQ (gb gg) zE xs i hi;rw[a2z h] at k;have q1:=q.l;rw[this k] at q1;exact absurd q1 (by decide)
def a7z{gg:aF}{xs:List J}{i:Nat}{e:J}(k:dZ gg (xs.getD i zE)=true)(h:dZ gg e=true)(p:cM (gb gg) (xs.take i)=true)(hi:i<xs.length):cM (gb gg) (xs.take (i+1))=true:=by
 rw[a2z h] at k;rw[ez (gb gg) zE xs i hi,p,k];rfl
def a6S{gg:aF}{x:J}(h:dZ gg x=true):cJ x<=1048576:=lF x (by have:=(lG h).n;omega)
def a7x{gg:aF}{xs:List J}{i:Nat}{e f:J}(p:cM (gb gg) (xs.take i)=true)(h:dZ gg e=true)(k:dZ gg f=true)(hi:¬ i<xs.length):Ik gg xs e f:=⟨by rw[b1I (by omega)] at p;exact p,h,k⟩
def OB{gg:aF}{xs:List J}{e f:J}(h:¬ Ik gg xs e f):false=lO gg xs e f/\1=kg gg xs e f:=by rw[lO,kg,b0N h,b0N h];exact⟨rfl,rfl⟩
def UM{gg:aF}{xs:List J}{e f:J}(h:Ik gg xs e f)(k:¬ xs.length<=4):false=lO gg xs e f/\2=kg gg xs e f:=by rw[lO,kg,b0T h,b0T h,b0N k,b0N k];exact⟨rfl,rfl⟩
def UN{gg:aF}{xs:List J}{e f:J}(h:Ik gg xs e f)(k:xs.length<=4)(m:¬ (gb gg (mM gg xs e)=true/\gb gg (mM gg xs f)=true)):false=lO gg xs e f/\3=kg gg xs e f:=by rw[lO,kg,b0T h,b0T h,b0T k,b0T k,b0N m,b0N m];exact⟨rfl,rfl⟩
def UO{gg:aF}{xs:List J}{e f:J}(h:Ik gg xs e f)(k:xs.length<=4)(m:gb gg (mM gg xs e)=true/\gb gg (mM gg xs f)=true):mL gg (mM gg xs e) (mM gg xs f)=lO gg xs e f/\ft gg (mM gg xs e) (mM gg xs f)=kg gg xs e f:=by rw[lO,kg,b0T h,b0T h,b0T k,b0T k,b0T m,b0T m];exact⟨rfl,rfl⟩
def xB:bc:=⟨FD,[.v (.slice (.st .expr))],λ (xs:List J)=>⟨(some (xs.length<=1000000),[⟨(.st .expr),cZ xs⟩])⟩⟩
def Q4(xs:List J):Nat->aP:=(eR 0 (.a (Nat) (λ i=>i<=xs.length) (λ i=>xs.length - i) [0,6] (λ i=>[(9, .aO ⟨(.int .i64),((i:Int):Int)⟩)]) [2] (λ i=>[(3, .box [.aO ⟨(.int .i64),((cZ (xs.take i)).ah:Int)⟩, .aO ⟨(.int .i64),((cZ (xs.take i)).aX:Int)⟩, .aO ⟨(.slice (.st .expr)),((cZ (xs.take i)).U:List J)⟩])])) cw)
def yo:bc.Good xB:=by
 refine⟨aH Ca,?_⟩;intro (xs:List J) (hp:xs.length<=1000000);refine bf [gV,fS] [] [] [] ⟨gL,fH,ag⟩ Ca J3 (Q4 xs) (let v0:=(xs.length:Int);let v3:=(0:Int);let v1:=(v3=v3/\(v3=v3/\(True/\True)))/\True;let v2:=J.mk (1:Int) v3 [];((av v0->((∃ i1:Nat,let v4:=cZ (xs.take i1);(i1<=xs.length/\((True/\(True/\(xs=xs/\(v0=v0/\(v3=(i1:Int)/\True)))))/\((v2.ah=(v4.ah)/\(v2.aX=(v4.aX)/\(v2.U=(v4.U)/\True)))/\v1))))/\(∀ i1:Nat,let v6:=cZ (xs.take i1);let v5:=J.mk (v6.ah) (v6.aX) (v6.U);let v4:=J.mk (6:Int) 0 ([v5,(aQ (xs.getD i1 zE))]);(i1<=xs.length->(((decide ((i1:Int)<v0))=true->(aI (i1:Int) xs.length/\(av ((i1:Int)+(1:Int))/\(∃ i2:Nat,let v7:=cZ (xs.take i2);(i2<=xs.length/\(xs.length - i2<xs.length - i1/\((True/\(True/\(xs=xs/\(v0=v0/\(((i1:Int)+(1:Int))=(i2:Int)/\True)))))/\((v4.ah=(v7.ah)/\(v4.aX=(v7.aX)/\(v4.U=(v7.U)/\True)))/\v1))))))))/\((decide ((i1:Int)<v0))=false->v5=(cZ xs))))))))) ?_;refine λ _=>⟨⟨0,?_,⟨ag,ag,rfl,rfl,?_,ag⟩,⟨?_,?_,?_,ag⟩,⟨rfl,rfl,ag,ag⟩,ag⟩,λ i1 _=>⟨λ _=>⟨?_,?_,i1+1,?_,?_,⟨ag,ag,rfl,rfl,?_,ag⟩,⟨?_,?_,?_,ag⟩,⟨rfl,rfl,ag,ag⟩,ag⟩,λ _=>?_⟩⟩;all_goals try and_intros
 all_goals try (first|with_reducible rfl|with_reducible assumption)
 all_goals try simp only[J.eta,cu] at *
 all_goals (try simp only[b1g,b1r,b0R,b0Q,aI,av,bC,dH,b1H,b2I,b1S,b3x,b1J,b1D,b1z,b0Y,b0W,b1f,b1P] at *);first|done|with_reducible assumption|omega|with_reducible rfl|exact trivial|exact AA (by omega)|exact congrArg J.ah (Ee (by omega))|exact congrArg J.aX (Ee (by omega))|exact congrArg J.U (Ee (by omega))|exact congrArg J.ah (AA (by omega))|exact congrArg J.aX (AA (by omega))|exact congrArg J.U (AA (by omega))|(simp[cZ];done)
def yH:bc:=⟨yQ,[.v (.st .sig)],λ (gg:aF)=>⟨(some (bS gg=true),[⟨(.st .expr),x9 gg⟩])⟩⟩
def KJ(gg:aF):Nat->aP:=(eR 0 (.a (Nat) (λ i=>i<=gg.aw.toNat) (λ i=>gg.aw.toNat - i) [0,1,5,6] (λ i=>[(8, .aO ⟨(.int .i64),((i:Int):Int)⟩),(3, .row 5)]) [2] (λ i=>[(5, .row ff (.st .expr) (mh i:List J))])) cw)
def EG:bc.Good yH:=by
 refine⟨aH vN,?_⟩;intro (gg:aF) (hp:bS gg=true);refine bf [gV,xB,fS,sU] [] [] [1] ⟨gL,yo,fH,ru,ag⟩ vN Et (KJ gg) (let v0:=((0:Int)=(0:Int)/\((0:Int)=(0:Int)/\(True/\True)))/\True;((av gg.aw->((∃ i1:Nat,(i1<=gg.aw.toNat/\((True/\(True/\(gg.aw=gg.aw/\((0:Int)=(i1:Int)/\True))))/\([]=(mh i1)/\v0))))/\(∀ i1:Nat,let v1:=J.mk (8:Int) 0 ([(cZ (mh i1))]);let v2:=[(J.mk (4:Int) (i1:Int) [])];let v3:=decide ((i1:Int)<gg.aw);(i1<=gg.aw.toNat->((v3=true->(bC ((mh i1).length+v2.length) 40/\(av ((i1:Int)+(1:Int))/\(∃ i2:Nat,(i2<=gg.aw.toNat/\(gg.aw.toNat - i2<gg.aw.toNat - i1/\((True/\(True/\(gg.aw=gg.aw/\(((i1:Int)+(1:Int))=(i2:Int)/\True))))/\(((mh i1)++v2)=(mh i2)/\v0))))))))/\(v3=false->((mh i1).length<=1000000/\((aA v1=true/\ar v1<=3000)/\(aQ (eu v1))=(x9 gg))))))))))) ?_;have n4:=(dy gg).1 hp;refine λ _=>⟨⟨0,?_,⟨ag,ag,rfl,?_,ag⟩,?_,⟨rfl,rfl,ag,ag⟩,ag⟩,λ i1 _=>⟨λ _=>⟨?_,?_,i1+1,?_,?_,⟨ag,ag,rfl,?_,ag⟩,?_,⟨rfl,rfl,ag,ag⟩,ag⟩,λ _=>⟨?_,?_,?_⟩⟩⟩;all_goals try and_intros
 all_goals try (first|with_reducible rfl|with_reducible assumption)
 all_goals try simp only[J.eta,cu] at *
 all_goals (try simp only[b1g,b1r,b0R,b0Q,aI,av,bC,dH,b1H,b2I,b1S,b3x,b1J,b1D,b1z,b0Y,b0W,b1f,b1P,Us] at *);first|done|with_reducible assumption|omega|with_reducible rfl|exact trivial|exact Wt _|exact a4A (by omega) (by omega)|exact (awI (by omega)).g|exact (awI (by omega)).n|exact congrArg J.ah (JU _)|exact congrArg J.aX (JU _)|exact congrArg J.U (JU _)|(simp[mh,cZ];done)|exact absurd (hp.symm.trans (by with_reducible assumption:bS gg=false)) (by decide)
def yJ:bc:=⟨yT,[.v (.st .sig)],λ (gg:aF)=>⟨(some (bS gg=true),[⟨(.st .expr),x9 gg⟩,⟨(.int .i64),0⟩])⟩⟩
def KN(gg:aF):Nat->aP:=(eR 0 (.a (Nat) (λ i=>i<=gg.aw.toNat) (λ i=>gg.aw.toNat - i) [0,3,7,8,9,11] (λ i=>[(5, .aO ⟨(.int .i64),((i:Int):Int)⟩)]) [2] (λ i=>[(4, .box [.aO ⟨(.int .i64),((cZ (mh i)).ah:Int)⟩, .aO ⟨(.int .i64),((cZ (mh i)).aX:Int)⟩, .aO ⟨(.slice (.st .expr)),((cZ (mh i)).U:List J)⟩])])) cw)
def EK:bc.Good yJ:=by
 refine⟨aH vQ,?_⟩;intro (gg:aF) (hp:bS gg=true);refine bf [uF,fJ,eM,jz] [] [] [1] ⟨vX,gu,eW,mV,ag⟩ vQ Ex (KN gg) (let v1:=(0:Int);let v0:=(v1=v1/\(v1=v1/\(True/\True)))/\True;let v2:=J.mk 1 0 [];((((!(bS gg))=true->(zE=(x9 gg)/\(1:Int)=0))/\((!(bS gg))=false->((∃ i1:Nat,(i1<=gg.aw.toNat/\((gg=gg/\(True/\(True/\(v1=(i1:Int)/\True))))/\((v2.ah=((cZ (mh i1)).ah)/\(v2.aX=((cZ (mh i1)).aX)/\(v2.U=((cZ (mh i1)).U)/\True)))/\v0))))/\(∀ i1:Nat,let v3:=J.mk ((cZ (mh i1)).ah) ((cZ (mh i1)).aX) ((cZ (mh i1)).U);let v4:=J.mk (6:Int) 0 [v3,(J.mk (4:Int) (i1:Int) [])];let v5:=J.mk (8:Int) v1 ([v3]);let v6:=decide ((i1:Int)<gg.aw);(i1<=gg.aw.toNat->(av gg.aw->((v6=true->(av ((i1:Int)+(1:Int))/\(∃ i2:Nat,(i2<=gg.aw.toNat/\(gg.aw.toNat - i2<gg.aw.toNat - i1/\((gg=gg/\(True/\(True/\(((i1:Int)+(1:Int))=(i2:Int)/\True))))/\((v4.ah=((cZ (mh i2)).ah)/\(v4.aX=((cZ (mh i2)).aX)/\(v4.U=((cZ (mh i2)).U)/\True)))/\v0)))))))/\(v6=false->((aA v5=true/\ar v5<=3000)/\((aQ (eu v5))=(x9 gg)/\v1=0)))))))))))) ?_;have n4:=(dy gg).1 hp;refine⟨λ _=>⟨?_,?_⟩,λ _=>⟨⟨0,?_,⟨rfl,ag,ag,?_,ag⟩,⟨?_,?_,?_,ag⟩,⟨rfl,rfl,ag,ag⟩,ag⟩,λ i1 _ _=>⟨λ _=>⟨?_,i1+1,?_,?_,⟨rfl,ag,ag,?_,ag⟩,⟨?_,?_,?_,ag⟩,⟨rfl,rfl,ag,ag⟩,ag⟩,λ _=>⟨?_,?_,?_⟩⟩⟩⟩;all_goals try and_intros
 all_goals try (first|with_reducible rfl|with_reducible assumption)
 all_goals try simp only[J.eta,cu] at *
 all_goals (try simp only[b1g,b1r,b0R,b0Q,aI,av,bC,dH,b1H,b2I,b1S,b3x,b1J,b1D,b1z,b0Y,b0W,b1f,b1P,Us] at *);first|done|with_reducible assumption|omega|with_reducible rfl|exact trivial|exact Wt _|exact a4A (by omega) (by omega)|exact (awI (by omega)).g|exact (awI (by omega)).n|exact congrArg J.ah (JU _)|exact congrArg J.aX (JU _)|exact congrArg J.U (JU _)|(simp[mh,cZ];done)|exact absurd (hp.symm.trans (by with_reducible assumption:bS gg=false)) (by decide)
def uA:bc:=⟨uM,[.v (.st .sig), .v (.slice (.st .expr)), .v (.st .expr), .v (.st .expr)],λ (gg:aF) (xs:List J) (e:J) (f:J)=>⟨(some (xs.length<=1048576),[⟨.bool,lO gg xs e f⟩,⟨(.int .i64),kg gg xs e f⟩])⟩⟩
def Hg(gg:aF)(xs:List J)(e:J)(f:J):Nat->aP:=cw
abbrev CV(gg:aF)(xs:List J)(e:J)(f:J):Prop:=(let v0:=aQ (J.mk (7:Int) 0 ([(aQ (x9 gg)),(J.mk (7:Int) 0 ([(cZ xs),(aQ (x9 gg))]))]));let v2:=aQ (J.mk (6:Int) 0 ([e,v0]));let v3:=aQ (J.mk (6:Int) 0 ([f,v0]));let v1:=ft gg v2 v3;(av v1 ->
 ((mL gg v2 v3)=(lO gg xs e f)/\v1=(kg gg xs e f))))
abbrev CW(gg:aF)(xs:List J)(e:J)(f:J):Prop:=(let v0:=aQ (J.mk (7:Int) 0 ([(aQ (x9 gg)),(J.mk (7:Int) 0 ([(cZ xs),(aQ (x9 gg))]))]));let v1:=false=(lO gg xs e f)/\(3:Int)=(kg gg xs e f);let v2 := !(gb gg (aQ (J.mk (6:Int) 0 ([e,v0]))));let v3 := !(gb gg (aQ (J.mk (6:Int) 0 ([f,v0]))));let v4:=decide ((4:Int)<((xs.length:Int)));let v5:=CV gg xs e f;(av ((xs.length:Int)) ->
 ((v4=true ->
 (false=(lO gg xs e f)/\(2:Int)=(kg gg xs e f)))/\(v4=false ->
 (bS gg=true/\(xs.length<=1000000/\((v2=false ->
 ((v3=true ->
 v1)/\(v3=false ->
 v5)))/\(v2=(!false) ->
 ((true=true ->
 v1)/\(true=false ->
 v5))))))))))
def BL:bc.Good uA:=by
 refine⟨aH sd,?_⟩;intro (gg:aF) (xs:List J) (e:J) (f:J) (hp:xs.length<=1048576);refine bf [mY,yH,xB,fS,uB,mX] [] [] [4,6,7,35,37,41,45] ⟨oN,EG,yo,fH,vV,oM,ag⟩ sd BA (Hg gg xs e f) (let v0:=false=(lO gg xs e f)/\(1:Int)=(kg gg xs e f);let v1 := !(cM (gb gg) ([e,f])&&bS gg);let v2 := !(cM (gb gg) xs&&bS gg);let v3:=CW gg xs e f;(((v2=false->((v1=true->v0)/\(v1=false->v3)))/\(v2=(!false)->((true=true->v0)/\(true=false->v3)))))) ?_;refine⟨λ _=>⟨λ _=>⟨?_,?_⟩,λ _ _=>⟨λ _=>⟨?_,?_⟩,λ _=>⟨?_,?_,λ _=>⟨λ _=>⟨?_,?_⟩,λ _ _=>⟨?_,?_⟩⟩,λ _=>⟨λ _=>⟨?_,?_⟩,λ _ _=>⟨?_,?_⟩⟩⟩⟩⟩,λ _=>⟨λ _=>⟨?_,?_⟩,λ _ _=>⟨λ _=>⟨?_,?_⟩,λ _=>⟨?_,?_,λ _=>⟨λ _=>⟨?_,?_⟩,λ _ _=>⟨?_,?_⟩⟩,λ _=>⟨λ _=>⟨?_,?_⟩,λ _ _=>⟨?_,?_⟩⟩⟩⟩⟩⟩;all_goals try and_intros
 all_goals try (first|with_reducible rfl|with_reducible assumption)
 all_goals try simp only[J.eta,cu] at *
 all_goals (try simp only[b1g,b1r,b1J,b1D,b1z,b2D,b0R,b0Q,aI,av,bC,b1H,Jh,b0U] at *);first|done|with_reducible assumption|with_reducible rfl|exact trivial|omega|exact (UM (by first|exact⟨b1l (by with_reducible assumption),b1l (by with_reducible assumption),b1m (by with_reducible assumption)⟩|exact⟨(by with_reducible assumption),b1l (by with_reducible assumption),b1m (by with_reducible assumption)⟩|with_reducible assumption) (by omega)).1|exact (UM (by first|exact⟨b1l (by with_reducible assumption),b1l (by with_reducible assumption),b1m (by with_reducible assumption)⟩|exact⟨(by with_reducible assumption),b1l (by with_reducible assumption),b1m (by with_reducible assumption)⟩|with_reducible assumption) (by omega)).2|exact (UN (by first|exact⟨b1l (by with_reducible assumption),b1l (by with_reducible assumption),b1m (by with_reducible assumption)⟩|exact⟨(by with_reducible assumption),b1l (by with_reducible assumption),b1m (by with_reducible assumption)⟩|with_reducible assumption) (by omega) (by rintro⟨q1,q2⟩;simp_all [mM])).1|exact (UN (by first|exact⟨b1l (by with_reducible assumption),b1l (by with_reducible assumption),b1m (by with_reducible assumption)⟩|exact⟨(by with_reducible assumption),b1l (by with_reducible assumption),b1m (by with_reducible assumption)⟩|with_reducible assumption) (by omega) (by rintro⟨q1,q2⟩;simp_all [mM])).2|exact (UO (by first|exact⟨b1l (by with_reducible assumption),b1l (by with_reducible assumption),b1m (by with_reducible assumption)⟩|exact⟨(by with_reducible assumption),b1l (by with_reducible assumption),b1m (by with_reducible assumption)⟩|with_reducible assumption) (by omega) (by first|exact⟨(by with_reducible assumption),(by with_reducible assumption)⟩|(constructor<;>simp_all [dZ,mM]))).1|exact (UO (by first|exact⟨b1l (by with_reducible assumption),b1l (by with_reducible assumption),b1m (by with_reducible assumption)⟩|exact⟨(by with_reducible assumption),b1l (by with_reducible assumption),b1m (by with_reducible assumption)⟩|with_reducible assumption) (by omega) (by first|exact⟨(by with_reducible assumption),(by with_reducible assumption)⟩|(constructor<;>simp_all [dZ,mM]))).2|exact (OB (by rintro⟨q1,q2,q3⟩;simp_all [dZ])).1|exact (OB (by rintro⟨q1,q2,q3⟩;simp_all [dZ])).2|exact b1m (by with_reducible assumption)
def uD:bc:=⟨uR,[.v (.st .sig), .v (.slice (.st .expr)), .v (.st .expr), .v (.st .expr)],λ (gg:aF) (xs:List J) (e:J) (f:J)=>⟨(some (xs.length<=1048576),[⟨.bool,lO gg xs e f⟩,⟨(.int .i64),kg gg xs e f⟩])⟩⟩
def Hj(gg:aF)(xs:List J)(e:J)(f:J):Nat->aP:=(eR 0 (.a (Nat) (λ i=>i<=xs.length/\cM (gb gg) (xs.take i)=true) (λ i=>xs.length - i) [0,2,3,17,18,19,20,21,22,23,24,25] (λ i=>[(11, .aO ⟨(.int .i64),((i:Int):Int)⟩)]) [] (λ i=>[(10, .box [.aO ⟨(.int .i64),((cZ (xs.take i)).ah:Int)⟩, .aO ⟨(.int .i64),((cZ (xs.take i)).aX:Int)⟩, .aO ⟨(.slice (.st .expr)),((cZ (xs.take i)).U:List J)⟩])])) (eR 100010 (.u (Ik gg xs e f) [0,2,3,17,18,19,20,21,22,23,24,25] [] [] [(10, .box [.aO ⟨(.int .i64),((cZ xs).ah:Int)⟩, .aO ⟨(.int .i64),((cZ xs).aX:Int)⟩, .aO ⟨(.slice (.st .expr)),((cZ xs).U:List J)⟩])] cw) cw))
abbrev CX(gg:aF)(xs:List J)(e:J)(f:J):Prop:=(let v0:=aQ (J.mk (7:Int) 0 [(aQ (x9 gg)),(J.mk (7:Int) 0 [(J.mk ((cZ xs).ah) ((cZ xs).aX) ((cZ xs).U)),(aQ (x9 gg))])]);let v2:=aQ (J.mk (6:Int) 0 [e,v0]);let v3:=aQ (J.mk (6:Int) 0 [f,v0]);let v1:=ft gg v2 v3;(av v1 ->
 ((mL gg v2 v3)=(lO gg xs e f)/\v1=(kg gg xs e f))))
abbrev CY(gg:aF)(xs:List J)(e:J)(f:J):Prop:=(let v1:=(xs.length:Int);let v2:=false=(lO gg xs e f)/\(3:Int)=(kg gg xs e f);let v5:=cZ xs;let v0:=aQ (J.mk (7:Int) 0 [(aQ (x9 gg)),(J.mk (7:Int) 0 [(J.mk (v5.ah) (v5.aX) (v5.U)),(aQ (x9 gg))])]);let v3 := !(dZ gg (aQ (J.mk (6:Int) 0 [e,v0])));let v4 := !(dZ gg (aQ (J.mk (6:Int) 0 [f,v0])));let v6:=CX gg xs e f;let v7:=J.mk 1 0 [];(((∃ i1:Nat,let v8:=cZ (xs.take i1);((i1<=xs.length/\cM (gb gg) (xs.take i1)=true)/\((xs=xs/\(gg=gg/\(e=e/\(f=f/\(True/\((0:Int)=(i1:Int)/\True))))))/\((v7.ah=(v8.ah)/\(v7.aX=(v8.aX)/\(v7.U=(v8.U)/\True)))/\True))))/\(∀ i1:Nat,let v9:=cZ (xs.take i1);let va:=xs.getD i1 zE;let v8:=J.mk (6:Int) 0 [(J.mk (v9.ah) (v9.aX) (v9.U)),va];let vb:=(i1:Int);((i1<=xs.length/\cM (gb gg) (xs.take i1)=true) ->
 (av v1 ->
 (((decide (vb<v1))=true ->
 (aI vb xs.length/\(((!(dZ gg va))=true ->
 (false=(lO gg xs e f)/\(1:Int)=(kg gg xs e f)))/\((!(dZ gg va))=false ->
 (aI vb xs.length/\(cJ va<=1048576/\(av (vb+(1:Int))/\(∃ i2:Nat,let vc:=cZ (xs.take i2);((i2<=xs.length/\cM (gb gg) (xs.take i2)=true)/\(xs.length - i2<xs.length - i1/\((xs=xs/\(gg=gg/\(e=e/\(f=f/\(True/\((vb+(1:Int))=(i2:Int)/\True))))))/\((v8.ah=(vc.ah)/\(v8.aX=(vc.aX)/\(v8.U=(vc.U)/\True)))/\True))))))))))))/\((decide (vb<v1))=false ->
 (∃ u2:Unit,(Ik gg xs e f/\((xs=xs/\(gg=gg/\(e=e/\(f=f/\(True/\True)))))/\(((v9.ah)=(v5.ah)/\((v9.aX)=(v5.aX)/\((v9.U)=(v5.U)/\True)))/\True))))))))))/\(∀ u1:Unit,(Ik gg xs e f ->
 (av v1 ->
 (((decide ((4:Int)<v1))=true ->
 (false=(lO gg xs e f)/\(2:Int)=(kg gg xs e f)))/\((decide ((4:Int)<v1))=false ->
 (bS gg=true/\(av (0) ->
 ((v3=false ->
 ((v4=true ->
 v2)/\(v4=false ->
 v6)))/\(v3=(!false) ->
 ((true=true ->
 v2)/\(true=false ->
 v6)))))))))))))
def BN:bc.Good uD:=by
 refine⟨aH sj,?_⟩;intro (gg:aF) (xs:List J) (e:J) (f:J) (hp:xs.length<=1048576);refine bf [xD,fJ,ei,eM,yJ,mZ] [] [] [4,6,7] ⟨yq,gu,fA,eW,EK,oO,ag⟩ sj BE (Hj gg xs e f) (let v0:=false=(lO gg xs e f)/\(1:Int)=(kg gg xs e f);let v1:=CY gg xs e f;((((!(dZ gg e))=false->(((!(dZ gg f))=true->v0)/\((!(dZ gg f))=false->v1)))/\((!(dZ gg e))=(!false)->((true=true->v0)/\(true=false->v1)))))) ?_;refine⟨λ _=>⟨λ _=>⟨?_,?_⟩,λ _=>⟨⟨⟨0,?_,⟨rfl,rfl,rfl,rfl,ag,?_,ag⟩,⟨?_,?_,?_,ag⟩,ag⟩,λ i1 _ _=>⟨λ _=>⟨?_,λ _=>⟨?_,?_⟩,λ _=>⟨?_,?_,?_,i1+1,?_,?_,⟨rfl,rfl,rfl,rfl,ag,?_,ag⟩,⟨?_,?_,?_,ag⟩,ag⟩⟩,λ _=>⟨(),?_,⟨rfl,rfl,rfl,rfl,ag,ag⟩,⟨?_,?_,?_,ag⟩,ag⟩⟩⟩,λ u1 _ _=>⟨λ _=>⟨?_,?_⟩,λ _=>⟨?_,λ _=>⟨λ _=>⟨λ _=>⟨?_,?_⟩,λ _ _=>⟨?_,?_⟩⟩,λ _=>⟨λ _=>⟨?_,?_⟩,λ _ _=>⟨?_,?_⟩⟩⟩⟩⟩⟩⟩,λ _=>⟨λ _=>⟨?_,?_⟩,λ _=>⟨⟨⟨0,?_,⟨rfl,rfl,rfl,rfl,ag,?_,ag⟩,⟨?_,?_,?_,ag⟩,ag⟩,λ i1 _ _=>⟨λ _=>⟨?_,λ _=>⟨?_,?_⟩,λ _=>⟨?_,?_,?_,i1+1,?_,?_,⟨rfl,rfl,rfl,rfl,ag,?_,ag⟩,⟨?_,?_,?_,ag⟩,ag⟩⟩,λ _=>⟨(),?_,⟨rfl,rfl,rfl,rfl,ag,ag⟩,⟨?_,?_,?_,ag⟩,ag⟩⟩⟩,λ u1 _ _=>⟨λ _=>⟨?_,?_⟩,λ _=>⟨?_,λ _=>⟨λ _=>⟨λ _=>⟨?_,?_⟩,λ _ _=>⟨?_,?_⟩⟩,λ _=>⟨λ _=>⟨?_,?_⟩,λ _ _=>⟨?_,?_⟩⟩⟩⟩⟩⟩⟩⟩;all_goals try and_intros
 all_goals try (first|with_reducible rfl|with_reducible assumption)
 all_goals try simp only[J.eta,cu] at *
 all_goals (try simp only[Bool.not_eq_true',Bool.not_eq_false',Bool.not_true,Bool.not_false,Bool.false_eq_true,Bool.true_eq_false,decide_eq_true_eq,decide_eq_false_iff_not,aI,av,bC,Int.toNat_natCast,Jh,Bool.and_eq_true] at *);first|done|with_reducible assumption|with_reducible rfl|exact trivial|omega|exact congrArg J.ah (Ee (by omega))|exact congrArg J.aX (Ee (by omega))|exact congrArg J.U (Ee (by omega))|exact congrArg J.ah (AA (by omega))|exact congrArg J.aX (AA (by omega))|exact congrArg J.U (AA (by omega))|exact (UM (by with_reducible assumption) (by omega)).1|exact (UM (by with_reducible assumption) (by omega)).2|exact (UN (by with_reducible assumption) (by omega) (by rintro⟨q1,q2⟩;unfold mM at q1 q2;simp_all [dZ])).1|exact (UN (by with_reducible assumption) (by omega) (by rintro⟨q1,q2⟩;unfold mM at q1 q2;simp_all [dZ])).2|exact (UO (by with_reducible assumption) (by omega) ⟨YS (by with_reducible assumption),YS (by with_reducible assumption)⟩).1|exact (UO (by with_reducible assumption) (by omega) ⟨YS (by with_reducible assumption),YS (by with_reducible assumption)⟩).2|exact (OB (a0D (by with_reducible assumption) (by with_reducible assumption) (by omega))).1|exact (OB (a0D (by with_reducible assumption) (by with_reducible assumption) (by omega))).2|exact (OB (by rintro⟨q1,q2,q3⟩;simp_all [dZ])).1|exact (OB (by rintro⟨q1,q2,q3⟩;simp_all [dZ])).2|exact a7z (by with_reducible assumption) (by with_reducible assumption) (And.right (by with_reducible assumption)) (by omega)|exact a6S (by with_reducible assumption)|exact (a7x (And.right (by with_reducible assumption)) (by with_reducible assumption) (by with_reducible assumption) (by omega))|exact YT (Ik.p (by with_reducible assumption))|exact all_zero (gb gg) xs|(simp[cZ];done)
abbrev Wd:=List (Int×Int)
def Xb:Wd->Int->Int
 | [],t=>t
 | p::_,_=>p.1
def OY:∀ (u v:Wd) (t:Int),Xb (u++v) t=Xb u (Xb v t)
 | [],_,_=>rfl
 | _::_,_,_=>rfl
def xh(M N:Wd->Int->Prop)(w:Wd)(t:Int):Prop:=∃ u v,w=u++v/\M u (Xb v t)/\N v t
inductive oU(M:Wd->Int->Prop):Wd->Int->Prop
 | nil (t:Int):oU M [] t
 | cons {u v:Wd} {t:Int} (h:M u (Xb v t)) (k:oU M v t):oU M (u++v) t
def noW:Wd->Int->Prop:=λ _ _=>False
def Ni(x:J)(fs:List (Wd->Int->Prop))(w:Wd)(t:Int):Prop :=
 (x.ah=4->∃ a,w=[(a,x.aX)])/\(x.ah=6->fs.getD 0 noW w t\/fs.getD 1 noW w t)/\(x.ah=7->xh (fs.getD 0 noW) (fs.getD 1 noW) w t)/\(x.ah=8->oU (fs.getD 0 noW) w t) /\
  (¬ (x.ah=4\/x.ah=6\/x.ah=7\/x.ah=8)->w=[]/\fZ t x=true)
def dz(x:J):Wd->Int->Prop:=xp Ni x
def Dg(x:J)(w:Wd)(t:Int):dz x w t↔Ni x (ik Ni x.U) w t:=by rw[dz,jC]
def VA(x:J)(i:Nat)(h:i<x.U.length):(ik Ni x.U).getD i noW=dz (x.U.getD i zE):=eD _ _ _ _ i h
def a5p{x:J}(h:x.ah=4)(w:Wd)(t:Int):dz x w t↔∃ a,w=[(a,x.aX)]:=by
 rw[Dg,Ni];exact⟨λ q=>q.1 h,λ q=>⟨λ _=>q,λ e=>by omega,λ e=>by omega,λ e=>by omega,λ e=>absurd (.inl h) e⟩⟩
def Vw{x:J}(h:x.ah=6)(b:B2 x)(w:Wd)(t:Int):dz x w t↔dz (x.U.getD 0 zE) w t\/dz (x.U.getD 1 zE) w t:=by
 rw[Dg,Ni,VA x 0 (by have:=b.len;omega),VA x 1 (by have:=b.len;omega)];exact⟨λ q=>q.2.1 h,λ q=>⟨λ e=>by omega,λ _=>q,λ e=>by omega,λ e=>by omega,λ e=>absurd (.inr (.inl h)) e⟩⟩
def Vx{x:J}(h:x.ah=7)(b:B2 x)(w:Wd)(t:Int):dz x w t↔xh (dz (x.U.getD 0 zE)) (dz (x.U.getD 1 zE)) w t:=by
 rw[Dg,Ni,VA x 0 (by have:=b.len;omega),VA x 1 (by have:=b.len;omega)];exact⟨λ q=>q.2.2.1 h,λ q=>⟨λ e=>by omega,λ e=>by omega,λ _=>q,λ e=>by omega,λ e=>absurd (.inr (.inr (.inl h))) e⟩⟩
def Vy{x:J}(h:x.ah=8)(b:B1 x)(w:Wd)(t:Int):dz x w t↔oU (dz (x.U.getD 0 zE)) w t:=by
 rw[Dg,Ni,VA x 0 (by have:=b.len;omega)];exact⟨λ q=>q.2.2.2.1 h,λ q=>⟨λ e=>by omega,λ e=>by omega,λ e=>by omega,λ _=>q,λ e=>absurd (.inr (.inr (.inr h))) e⟩⟩
def Vz{x:J}(h:¬ (x.ah=4\/x.ah=6\/x.ah=7\/x.ah=8))(w:Wd)(t:Int):dz x w t↔w=[]/\fZ t x=true:=by
 rw[Dg,Ni];exact⟨λ q=>q.2.2.2.2 h,λ q=>⟨λ e=>absurd (.inl e) h,λ e=>absurd (.inr (.inl e)) h,λ e=>absurd (.inr (.inr (.inl e))) h,λ e=>absurd (.inr (.inr (.inr e))) h,λ _=>q⟩⟩
def Vv{x:J}(g:aA x=true)(h:x.ah=1)(w:Wd)(t:Int):¬ dz x w t:=λ q=>by
 have:=((Vz (by omega) w t).1 q).2;rw[(wZ t x (NA x g (.inl h))).1 h] at this;cases this
def a2n{x:J}(g:aA x=true)(h:x.ah=2)(w:Wd)(t:Int):dz x w t↔w=[]:=by
 rw[Vz (by omega),(wZ t x (NA x g (.inr (.inl h)))).2.1 h];exact⟨λ q=>q.1,λ q=>⟨q,rfl⟩⟩
def PM(n:Int)(p q:J)(w:Wd)(t:Int):dz (J.mk (6:Int) n [p,q]) w t↔dz p w t\/dz q w t:=by
 rw[Dg,Ni];exact⟨λ h=>h.2.1 rfl,λ h=>⟨λ e=>absurd e (by simp),λ _=>h,λ e=>absurd e (by simp),λ e=>absurd e (by simp),λ e=>absurd (.inr (.inl rfl)) e⟩⟩
def PN(n:Int)(p q:J)(w:Wd)(t:Int):dz (J.mk (7:Int) n [p,q]) w t↔xh (dz p) (dz q) w t:=by
 rw[Dg,Ni];exact⟨λ h=>h.2.2.1 rfl,λ h=>⟨λ e=>absurd e (by simp),λ e=>absurd e (by simp),λ _=>h,λ e=>absurd e (by simp),λ e=>absurd (.inr (.inr (.inl rfl))) e⟩⟩
def a2o(n:Int)(p:J)(w:Wd)(t:Int):dz (J.mk (8:Int) n [p]) w t↔oU (dz p) w t:=by
 rw[Dg,Ni];exact⟨λ h=>h.2.2.2.1 rfl,λ h=>⟨λ e=>absurd e (by simp),λ e=>absurd e (by simp),λ e=>absurd e (by simp),λ _=>h,λ e=>absurd (.inr (.inr (.inr rfl))) e⟩⟩
def yN(w:Wd)(t:Int):¬ dz (J.mk (1:Int) (0:Int) []) w t:=Vv zV rfl w t
def YO(w:Wd)(t:Int):dz (J.mk (2:Int) (0:Int) []) w t↔w=[]:=a2n Kj rfl w t
def sZ{M M' N N':Wd->Int->Prop}(h:∀ w t,M w t↔M' w t)(k:∀ w t,N w t↔N' w t)(w:Wd)(t:Int):xh M N w t↔xh M' N' w t:=by
 constructor
 .rintro⟨u,v,e,a,b⟩;exact⟨u,v,e,(h _ _).1 a,(k _ _).1 b⟩
 .rintro⟨u,v,e,a,b⟩;exact⟨u,v,e,(h _ _).2 a,(k _ _).2 b⟩
def V7{M M':Wd->Int->Prop}(h:∀ w t,M w t->M' w t){w:Wd}{t:Int}(q:oU M w t):oU M' w t:=by
 induction q with
 | nil t=>exact .nil t
 | cons a _ ih=>exact .cons (h _ _ a) ih
def Sc{M M':Wd->Int->Prop}(h:∀ w t,M w t↔M' w t)(w:Wd)(t:Int):oU M w t↔oU M' w t:=⟨V7 λ w t=>(h w t).1,V7 λ w t=>(h w t).2⟩
def UE{M N:Wd->Int->Prop}(h:∀ w t,¬ M w t)(w:Wd)(t:Int):¬ xh M N w t:=by rintro⟨u,v,_,a,_⟩;exact h _ _ a
def UF{M N:Wd->Int->Prop}(h:∀ w t,¬ N w t)(w:Wd)(t:Int):¬ xh M N w t:=by rintro⟨u,v,_,_,a⟩;exact h _ _ a
def ZF{M N:Wd->Int->Prop}(h:∀ w t,M w t↔w=[])(w:Wd)(t:Int):xh M N w t↔N w t:=by
 constructor
 .rintro⟨u,v,e,a,b⟩;rw[(h _ _).1 a] at e;rw[e];exact b
 .intro b;exact⟨[],w,rfl,(h _ _).2 rfl,b⟩
def ZG{M N:Wd->Int->Prop}(h:∀ w t,N w t↔w=[])(w:Wd)(t:Int):xh M N w t↔M w t:=by
 constructor
 .rintro⟨u,v,e,a,b⟩;rw[(h _ _).1 b] at e a;rw[e,b1E];exact a
 .intro b;exact⟨w,[],(b1E w).symm,b,(h _ _).2 rfl⟩
def ZE(A B C:Wd->Int->Prop)(w:Wd)(t:Int):xh (xh A B) C w t↔xh A (xh B C) w t:=by
 constructor
 .rintro⟨u,v,e,⟨u1,u2,e1,a,b⟩,c⟩;exact⟨u1,u2++v,by rw[e,e1,b1o],by rw[OY];exact a,u2,v,rfl,b,c⟩
 .rintro⟨u,v,e,a,v1,v2,e1,b,c⟩;subst e1;exact⟨u++v1,v2,by rw[e,b1o],⟨u,v1,rfl,by rw[<-OY];exact a,b⟩,c⟩
def a4q{M:Wd->Int->Prop}{u v:Wd}{t:Int}(h:oU M u (Xb v t))(k:oU M v t):oU M (u++v) t:=by
 suffices ∀ s,oU M u s->s=Xb v t->oU M (u++v) t from this _ h rfl
 clear h;intro s q;induction q with
 | nil s=>intro _;exact k
 | cons a _ ih =>
  intro e;rw[b1o];refine .cons ?_ (ih e);subst e;rw[OY];exact a
def a4r{M:Wd->Int->Prop}{w:Wd}{t:Int}(h:M w t):oU M w t:=by
 have:=oU.cons (u:=w) (v:=[]) (t:=t) h (.nil t);rwa [b1E] at this
def a7i{M:Wd->Int->Prop}(w:Wd)(t:Int):oU (oU M) w t↔oU M w t:=by
 constructor
 .intro q;induction q with
  | nil t=>exact .nil t
  | cons a _ ih=>exact a4q a ih
 .exact a4r
def a9p{M:Wd->Int->Prop}(h:∀ w t,M w t->w=[])(w:Wd)(t:Int):oU M w t↔w=[]:=by
 constructor
 .intro q;induction q with
  | nil t=>rfl
  | cons a _ ih=>rw[h _ _ a,ih];rfl
 .rintro rfl;exact .nil t
def I9:∀ (N:Nat) (x:J),bG x<N->aA x=true->∀ a,dz x [] a↔eC a x=true
 | 0,x,h,_=>by omega
 | N+1,x,hN,h=>by
  intro a;by_cases h4:x.ah=4
  .rw[a5p h4,<-a1i a x h4];exact⟨λ ⟨_,q⟩=>(by cases q),λ q=>(by cases q)⟩
  by_cases h6:x.ah=6
  .have b:=bZ x h (.inl h6);rw[Vw h6 b,a1j a x h6 b,b2m,I9 N (x.U.getD 0 zE) (by have:=b.l0;omega) b.g0,I9 N (x.U.getD 1 zE) (by have:=b.l1;omega) b.g1]
  by_cases h7:x.ah=7
  .have b:=bZ x h (.inr h7);rw[Vx h7 b,a1k a x h7 b,b0U,<-I9 N (x.U.getD 0 zE) (by have:=b.l0;omega) b.g0,<-I9 N (x.U.getD 1 zE) (by have:=b.l1;omega) b.g1];constructor
   .rintro⟨u,v,e,p,q⟩;have:=b4O.1 e.symm;rw[this.1,this.2] at p;rw[this.2] at q;exact⟨p,q⟩
   .rintro⟨p,q⟩;exact⟨[],[],rfl,p,q⟩
  by_cases h8:x.ah=8
  .rw[Vy h8 (gp x h (.inr h8)),<-a1l a x h8];exact⟨λ _=>rfl,λ _ => .nil a⟩
  .rw[Vz (by omega),UI a x h4 h6 h7 h8];exact⟨λ q=>q.2,λ q=>⟨rfl,q⟩⟩
def meN{x:J}(h:aA x=true)(a:Int):dz x [] a↔eC a x=true:=I9 _ x (b1b _) h a
def Cl:∀ (N:Nat) (x:J),bG x<N->aA x=true->bD x=true->∀ w t,dz x w t->w=[]
 | 0,x,h,_,_=>by omega
 | N+1,x,hN,h,hc=>by
  intro w t q;have hk:=hc;rw[oV,b0U] at hk;have Pl:∀ i,i<x.U.length->bD (x.U.getD i zE)=true:=λ i hi=>xP bD zE x.U i hi hk.2;by_cases h4:x.ah=4
  .rw[h4] at hk;exact absurd hk.1 (by decide)
  by_cases h6:x.ah=6
  .have b:=bZ x h (.inl h6);have l:=b.len;rcases (Vw h6 b w t).1 q with q|q
   .exact Cl N (x.U.getD 0 zE) (by have:=b.l0;omega) b.g0 (Pl 0 (by omega)) w t q
   .exact Cl N (x.U.getD 1 zE) (by have:=b.l1;omega) b.g1 (Pl 1 (by omega)) w t q
  by_cases h7:x.ah=7
  .have b:=bZ x h (.inr h7);have l:=b.len;obtain⟨u,v,e,p,r⟩:=(Vx h7 b w t).1 q;rw[e,Cl N (x.U.getD 0 zE) (by have:=b.l0;omega) b.g0 (Pl 0 (by omega)) _ _ p,Cl N (x.U.getD 1 zE) (by have:=b.l1;omega) b.g1 (Pl 1 (by omega)) _ _ r];rfl
  by_cases h8:x.ah=8
  .rw[h8] at hk;exact absurd hk.1 (by decide)
  .exact ((Vz (by omega) w t).1 q).1
def Vo(w:Wd)(t:Int):∀ (xs:List J) (o:J),dz (xs.foldl (λ o y=>J.mk 6 0 [o,y]) o) w t↔dz o w t\/∃ y∈xs,dz y w t
 | [],o=>by simp
 | x::xs,o=>by
  rw[b2N,Vo w t xs,PM];simp only[b0X,exists_eq_or_imp,or_assoc]
def a0a(w:Wd)(t:Int):∀ (xs:List J),dz (l9 xs) w t↔∃ y∈xs,dz y w t
 | []=>by
  show dz (J.mk 1 0 []) w t↔_;exact⟨λ q=>absurd q (yN w t),λ ⟨_,q,_⟩=>(by cases q)⟩
 | x::xs=>by
  show dz (xs.foldl (λ o y=>J.mk 6 0 [o,y]) x) w t↔_;rw[Vo w t xs x];simp only[b0X,exists_eq_or_imp]
def Ua(w:Wd)(t:Int):∀ (N:Nat) (x:J),bG x<N->aA x=true->∀ out,(∃ y∈dB x out,dz y w t)↔dz x w t\/∃ y∈out,dz y w t
 | 0,x,h,_=>by omega
 | N+1,x,hN,h=>by
  intro out;by_cases h1:x.ah=1
  .rw[Ze x out h1];exact⟨.inr,λ q=>q.elim (λ q=>absurd q (Vv h h1 w t)) id⟩
  by_cases h6:x.ah=6
  .have b:=bZ x h (.inl h6);rw[Zf x out h6 b,Ua w t N (x.U.getD 1 zE) (by have:=b.l1;omega) b.g1,Ua w t N (x.U.getD 0 zE) (by have:=b.l0;omega) b.g0,Vw h6 b,<-or_assoc,or_comm (a:=dz (x.U.getD 1 zE) w t)]
  rcases b1C (out.any (λ y=>iM y x)) with e|e
  .rw[Zh x out h1 h6 e];refine⟨.inr,λ q=>q.elim (λ q=>?_) id⟩;rw[b3R] at e;obtain⟨y,hy,ey⟩:=e;rw[Cu] at ey;exact⟨y,hy,ey ▸ q⟩
  .rw[Zg x out h1 h6 e];simp only[b0K,b0Z];constructor
   .rintro⟨y,hy|rfl,q⟩
    .exact .inr ⟨y,hy,q⟩
    .exact .inl q
   .rintro (q|⟨y,hy,q⟩)
    .exact⟨x, .inr rfl,q⟩
    .exact⟨y, .inl hy,q⟩
def a7j{a b:J}(ha:aA a=true)(hb:aA b=true)(w:Wd)(t:Int):dz (JA a b) w t↔dz a w t\/dz b w t:=by
 unfold JA;rw[a0a];have hs:∀ y,y∈xJ (dB b (dB a []))↔y∈dB b (dB a []):=λ y=>by
  have:=(Qn (dB b (dB a [])) []).1 y;unfold xJ;rw[this];exact⟨λ q=>q.elim id (λ q=>by cases q), .inl⟩
 simp only[hs];rw[Ua w t _ b (b1b _) hb,Ua w t _ a (b1b _) ha];constructor
 .rintro (q|q|⟨_,q,_⟩)
  .exact .inr q
  .exact .inl q
  .cases q
 .rintro (q|q)
  .exact .inr (.inl q)
  .exact .inl q
def a6h(b:J)(N:Nat):∀ (x:J),bG x<N->aA x=true->∀ b,aA b=true->∀ w t,dz (jJ x b) w t↔xh (dz x) (dz b) w t:=by
 induction N with
 | zero=>intro x h;omega
 | succ N ih =>
  intro x hN h b hb w t;by_cases h1:x.ah=1\/b.ah=1
  .rw[Fc x b h1];refine⟨λ q=>absurd q (yN w t),λ q=>?_⟩;rcases h1 with h1|h1
   .exact absurd q (UE (Vv h h1) w t)
   .exact absurd q (UF (Vv hb h1) w t)
  by_cases h2:x.ah=2
  .rw[Fe x b h1 h2,ZF (a2n h h2)]
  by_cases h3:b.ah=2
  .rw[Ff x b h1 h2 h3,ZG (a2n hb h3)]
  by_cases h7:x.ah=7
  .have g:=bZ x h (.inr h7);rw[Fg x b h1 h2 h3 h7 g,ih (x.U.getD 0 zE) (by have:=g.l0;omega) g.g0 _ (dtT _ _ g.g1 hb).g,sZ (λ _ _=>b2F) (ih (x.U.getD 1 zE) (by have:=g.l1;omega) g.g1 b hb),<-ZE];exact sZ (λ w t=>(Vx h7 g w t).symm) (λ _ _=>b2F) w t
  .rw[Fh x b h1 h2 h3 h7,PN]
def a4s{a:J}(h:aA a=true)(w:Wd)(t:Int):dz (Az a) w t↔oU (dz a) w t:=by
 unfold Az;split
 .rename_i hc;rw[YO,a9p (Cl _ a (b1b _) h hc)]
 .split
  .rename_i h8;have e:=Vy h8 (gp a h (.inr h8));rw[e,Sc e,a7i]
  .rw[a2o]
def Lk:∀ (N:Nat) (x:J),bG x<N->aA x=true->∀ w t,dz (eu x) w t↔dz x w t
 | 0,x,h,_=>by omega
 | N+1,x,hN,h=>by
  intro w t;by_cases h6:x.ah=6
  .have b:=bZ x h (.inl h6);rw[Zm x h6 b,a7j (u9 _ b.g0).g (u9 _ b.g1).g,Lk N (x.U.getD 0 zE) (by have:=b.l0;omega) b.g0,Lk N (x.U.getD 1 zE) (by have:=b.l1;omega) b.g1,Vw h6 b]
  by_cases h7:x.ah=7
  .have b:=bZ x h (.inr h7);rw[Zn x h7 b,a6h zE _ _ (b1b _) (u9 _ b.g0).g _ (u9 _ b.g1).g,sZ (Lk N (x.U.getD 0 zE) (by have:=b.l0;omega) b.g0) (Lk N (x.U.getD 1 zE) (by have:=b.l1;omega) b.g1),Vx h7 b]
  by_cases h8:x.ah=8
  .have b:=gp x h (.inr h8);rw[Zo x h8 b,a4s (u9 _ b.g0).g,Sc (Lk N (x.U.getD 0 zE) (by have:=b.l0;omega) b.g0),Vy h8 b]
  .rw[Zp x h6 h7 h8]
def tdM{x:J}(h:aA x=true)(w:Wd)(t:Int):dz (eu x) w t↔dz x w t:=Lk _ x (b1b _) h w t
def dW(a c:Int)(M:Wd->Int->Prop):Wd->Int->Prop:=λ w t=>M ((a,c)::w) t
def a0Y(a c:Int)(M N:Wd->Int->Prop)(w:Wd)(t:Int):xh M N ((a,c)::w) t↔(M [] a/\N ((a,c)::w) t)\/xh (dW a c M) N w t:=by
 constructor
 .rintro⟨u,v,e,p,q⟩;cases u with
  | nil =>
   rw[b1v] at e;subst e;exact .inl ⟨p,q⟩
  | cons z u =>
   rw[b1B,b0O] at e;obtain⟨rfl,e⟩:=e;exact .inr ⟨u,v,e,p,q⟩
 .rintro (⟨p,q⟩|⟨u,v,e,p,q⟩)
  .exact⟨[],_,rfl,p,q⟩
  .exact⟨(a,c)::u,v,by rw[e];rfl,p,q⟩
def a3h(a c:Int)(M:Wd->Int->Prop)(w:Wd)(t:Int):oU M ((a,c)::w) t↔xh (dW a c M) (oU M) w t:=by
 constructor
 .intro q;suffices ∀ z s,oU M z s->∀ w,z=(a,c)::w->xh (dW a c M) (oU M) w s from this _ _ q w rfl
  intro z s q;induction q with
  | nil s=>intro w e;cases e
  | @cons u v s p k ih =>
   intro w e;cases u with
   | nil=>exact ih w e
   | cons z u =>
    rw[b1B,b0O] at e;obtain⟨rfl,e⟩:=e;exact⟨u,v,e.symm,p,k⟩
 .rintro⟨u,v,e,p,q⟩;rw[e];exact oU.cons (u:=(a,c)::u) p q
def Lg(a c:Int):∀ (N:Nat) (x:J),bG x<N->aA x=true->(bI a c x).2=true->∀ w t,dz (bI a c x).1 w t↔dz x ((a,c)::w) t
 | 0,x,h,_,_=>by omega
 | N+1,x,hN,h,ht=>by
  intro w t;have spf:∀ {y:J},aA y=true->(DD y).2=true->(dz (DD y).1 w t↔dz y w t):=λ {y} g q=>by
   unfold DD at q ⊢;split at q
   .cases q
   .rename_i hn;rw[b0N hn];exact tdM g w t
  by_cases h4:x.ah=4
  .rw[a5p h4];by_cases e:x.aX=c
   .rw[DF a c x h4 e,YO];constructor
    .rintro rfl;exact⟨a,by rw[e]⟩
    .rintro⟨b,q⟩;simp only[b0O] at q;exact q.2
   .rw[DE a c x h4 e];refine⟨λ q=>absurd q (yN w t),λ ⟨b,q⟩=>?_⟩;simp only[b0O,b0M] at q;exact absurd q.1.2.symm e
  by_cases h6:x.ah=6
  .have g:=bZ x h (.inl h6);have z:(bI a c (x.U.getD 0 zE)).2=true/\(bI a c (x.U.getD 1 zE)).2=true:=by
    rcases b1C (bI a c (x.U.getD 0 zE)).2 with e|e
    .rcases b1C (bI a c (x.U.getD 1 zE)).2 with e'|e'
     .exact⟨e,e'⟩
     .rw[me a c x h6 g (.inr e')] at ht;cases ht
    .rw[me a c x h6 g (.inl e)] at ht;cases ht
   rw[XZ a c x h6 g z.1 z.2] at ht ⊢;have gd:aA (jO a c x)=true:=by rw[Qd a c x h6];exact eE _ _ 6 ((Ld a c _ g.g0).g z.1) ((Ld a c _ g.g1).g z.2) (.inl rfl)
   rw[spf gd ht,Qd a c x h6,PM,Lg a c N (x.U.getD 0 zE) (by have:=g.l0;omega) g.g0 z.1,Lg a c N (x.U.getD 1 zE) (by have:=g.l1;omega) g.g1 z.2,Vw h6 g]
  by_cases h7:x.ah=7
  .have g:=bZ x h (.inr h7);have e:(bI a c (x.U.getD 0 zE)).2=true:=by
    rcases b1C (bI a c (x.U.getD 0 zE)).2 with e|e
    .exact e
    .rw[DG a c x h7 g e] at ht;cases ht
   have i0:=Lg a c N (x.U.getD 0 zE) (by have:=g.l0;omega) g.g0 e;have b:=eE _ _ 7 ((Ld a c _ g.g0).g e) g.g1 (.inr rfl);rw[Vx h7 g,a0Y,meN g.g0];have i7:∀ w t,dz (J.mk 7 0 [(bI a c (x.U.getD 0 zE)).1,(x.U.getD 1 zE)]) w t↔xh (dW a c (dz (x.U.getD 0 zE))) (dz (x.U.getD 1 zE)) w t:=λ w t=>by
    rw[PN];exact sZ i0 (λ _ _=>b2F) w t
   rcases b1C (eC a (x.U.getD 0 zE)) with m|m
   .have e':(bI a c (x.U.getD 1 zE)).2=true:=by
     rcases b1C (bI a c (x.U.getD 1 zE)).2 with e'|e'
     .exact e'
     .rw[DH a c x h7 g e m e'] at ht;cases ht
    rw[Le a c x h7 g e (.inr e')] at ht ⊢;have gd:aA (jO a c x)=true:=by rw[Hz a c x h7 m];exact eE _ _ 6 b ((Ld a c _ g.g1).g e') (.inl rfl)
    rw[spf gd ht,Hz a c x h7 m,PM,i7,Lg a c N (x.U.getD 1 zE) (by have:=g.l1;omega) g.g1 e',m];exact⟨λ q=>q.elim .inr λ q => .inl ⟨rfl,q⟩,λ q=>q.elim (λ q => .inr q.2) .inl⟩
   .rw[Le a c x h7 g e (.inl m)] at ht ⊢;have gd:aA (jO a c x)=true:=by rw[Hy a c x h7 m];exact b
    rw[spf gd ht,Hy a c x h7 m,i7,m];exact⟨.inr,λ q=>q.elim (λ q=>by cases q.1) id⟩
  by_cases h8:x.ah=8
  .have g:=gp x h (.inr h8);have e:(bI a c (x.U.getD 0 zE)).2=true:=by
    rcases b1C (bI a c (x.U.getD 0 zE)).2 with e|e
    .exact e
    .rw[DI a c x h8 g e] at ht;cases ht
   rw[X0 a c x h8 g e] at ht ⊢;have gd:aA (jO a c x)=true:=by rw[Qe a c x h8];exact eE _ _ 7 ((Ld a c _ g.g0).g e) h (.inr rfl)
   rw[spf gd ht,Qe a c x h8,PN,Vy h8 g,a3h];exact sZ (Lg a c N (x.U.getD 0 zE) (by have:=g.l0;omega) g.g0 e) (Vy h8 g) w t
  .rw[Mf a c x h4 h6 h7 h8];refine⟨λ q=>absurd q (yN w t),λ q=>?_⟩;have:=((Vz (x:=x) (by omega) _ _).1 q).1;cases this
def spM{a c:Int}{x:J}(h:aA x=true)(ht:(bI a c x).2=true)(w:Wd)(t:Int):dz (bI a c x).1 w t↔dz x ((a,c)::w) t:=Lg a c _ x (b1b _) h ht w t
def EnP(ls:List J)(d:J)(v:Int):Prop:=(v = -1/\d.ah=1)\/∃ j:Nat,v=(j:Int)/\j<ls.length/\ls.getD j zE=d
def uV{α:Type}{z:α}{ls pB:List α}(h:ls <+: pB){j:Nat}(hj:j<ls.length):pB.getD j z=ls.getD j z:=by
 obtain⟨r,rfl⟩:=h;simp only[b0S,b1R hj]
def EnP.up{ls pB:List J}{d:J}{v:Int}(h:EnP ls d v)(q:ls <+: pB):EnP pB d v:=by
 rcases h with h|⟨j,h1,h2,h3⟩
 .exact .inl h
 .exact .inr ⟨j,h1,b0V h2 q.length_le,by rw[uV q h2];exact h3⟩
def HQ(ls:List J):Prop:=∀ y∈ls,aA y=true
def a1p{ls:List J}{d:J}(h:0<=gm ls d):∃ j:Nat,gm ls d=(j:Int)/\j<ls.length/\ls.getD j zE=d:=by
 unfold gm at h ⊢;split at h
 .rename_i hl;rw[b0T hl];refine⟨_,rfl,hl,?_⟩;have:=b3A (w:=hl);rw[Cu] at this;rw[b0S,b1a hl];exact this
 .omega
structure StS(a c:Int)(x:J)(s s':j9):Prop where
 t:(bI a c x).2=true
 p:s.ls <+: s'.ls
 g:HQ s.ls->HQ s'.ls
 e:∃ v,s'.rw=s.rw++[v]/\EnP s'.ls (bI a c x).1 v
def a7g{b:Bool}{a c:Int}{x:J}(hx:aA x=true){s s':j9}(h:pP b a c x s=some s'):StS a c x s s':=by
 unfold pP at h;split at h
 .rename_i ht;have ed:cC a c x=(bI a c x).1:=by rw[<-AQ ht]
  have gd:=(Ld a c x hx).g ht;rw[ed] at h;split at h
  .rename_i h1;cases h;exact⟨ht,b2w _,id,_,rfl, .inl ⟨rfl,h1⟩⟩
  .split at h
   .rename_i h2;cases h;obtain⟨j,q1,q2,q3⟩:=a1p h2;exact⟨ht,b2w _,id,_,rfl, .inr ⟨j,q1,q2,q3⟩⟩
   .split at h
    .cases h
    .cases h;refine⟨ht,b5n _ _,λ g y hy=>?_,_,rfl, .inr ⟨s.ls.length,rfl,by simp,by simp[b0S]⟩⟩;rcases b0K.1 hy with q|q
     .exact g y q
     .rw[b0Z] at q;rw[q];exact gd
 .cases h
structure RoS(a c:Int)(n:Nat)(x:J)(ls:List J)(row:List Int):Prop where
 len:row.length=n
 t:∀ j,j<n->(bI a (c+(j:Int)) x).2=true
 e:∀ j,j<n->EnP ls (bI a (c+(j:Int)) x).1 (row.getD j 0)
def RoS.up{a c:Int}{n:Nat}{x:J}{ls pB:List J}{row:List Int}(h:RoS a c n x ls row)(q:ls <+: pB):RoS a c n x pB row:=⟨h.len,h.t,λ j hj=>(h.e j hj).up q⟩
def Y6{b:Bool}{a:Int}{x:J}(hx:aA x=true):∀ (n:Nat) {c:Int} {s s':j9},oS b a x n c s=some s'->(s.ls <+: s'.ls/\(HQ s.ls->HQ s'.ls))/\∃ row,s'.rw=s.rw++row/\RoS a c n x s'.ls row
 | 0,c,s,s',h=>by cases h;exact⟨⟨b2w _,id⟩,[],(b1E _).symm,rfl,λ j hj=>by omega,λ j hj=>by omega⟩
 | n+1,c,s,s',h=>by
  unfold oS at h;cases hs:pP b a c x s with
  | none=>rw[hs] at h;cases h
  | some m =>
   rw[hs] at h;have q:=a7g hx hs;obtain⟨⟨p1,g1⟩,row,e1,r⟩:=Y6 hx n h;obtain⟨v,ev,en⟩:=q.e;refine⟨⟨q.p.trans p1,λ g=>g1 (q.g g)⟩,v::row,by rw[e1,ev];simp,by simp[r.len],λ j hj=>?_,λ j hj=>?_⟩
   .cases j with
    | zero=>simpa using q.t
    | succ j=>have:=r.t j (by omega);rw[show c+((j+1:Nat):Int)=c+1+(j:Int) by omega];exact this
   .cases j with
    | zero=>simpa using en.up p1
    | succ j=>have:=r.e j (by omega);rw[show c+((j+1:Nat):Int)=c+1+(j:Int) by omega];simpa using this
structure Zx(n:Nat)(x:J)(m:Nat)(a:Int)(ls:List J)(rows:List (List Int)):Prop where
 len:rows.length=m
 r:∀ i,i<m->RoS (a+(i:Int)) 0 n x ls (rows.getD i [])
def Zx.up{n:Nat}{x:J}{m:Nat}{a:Int}{ls pB:List J}{rows:List (List Int)}(h:Zx n x m a ls rows)(q:ls <+: pB):Zx n x m a pB rows:=⟨h.len,λ i hi=>(h.r i hi).up q⟩
def VT{b:Bool}{n:Nat}{x:J}(hx:aA x=true):∀ (m:Nat) {a:Int} {ls:List J} {rows:List (List Int)} {q:List J×List (List Int)},jn b n x m a ls rows=some q->(ls <+: q.1/\(HQ ls->HQ q.1))/\∃ R,q.2=rows++R/\Zx n x m a q.1 R
 | 0,a,ls,rows,q,h=>by cases h;exact⟨⟨b2w _,id⟩,[],(b1E _).symm,rfl,λ j hj=>by omega⟩
 | m+1,a,ls,rows,q,h=>by
  unfold jn at h;cases hs:oS b a x n 0 ⟨ls,[]⟩ with
  | none=>rw[hs] at h;cases h
  | some s =>
   rw[hs] at h;obtain⟨⟨p1,g1⟩,row,e1,r1⟩:=Y6 hx n hs;obtain⟨⟨p2,g2⟩,R,e2,r2⟩:=VT hx m h;rw[b1v] at e1;refine⟨⟨p1.trans p2,λ g=>g2 (g1 g)⟩,row::R,by rw[e2,e1];simp,by simp[r2.len],λ i hi=>?_⟩;cases i with
   | zero=>simpa using r1.up p2
   | succ i=>have:=r2.r i (by omega);rw[show a+((i+1:Nat):Int)=a+1+(i:Int) by omega];simpa using this
structure RuS(m n i:Nat)(ls pB:List J)(nx nx':List (List (List Int))):Prop where
 p:ls <+: pB
 g:HQ pB
 len:nx'.length=pB.length
 pn:nx <+: nx'
 r:∀ k,i<=k->k<pB.length->Zx n (pB.getD k zE) m 0 pB (nx'.getD k [])
def Y9{b:Bool}{m n:Nat}:∀ (f i:Nat) (ls:List J) (nx:List (List (List Int))) {q:List J×List (List (List Int))},Bu b m n f i ls nx=some q->HQ ls->nx.length=i->i<=ls.length->RuS m n i ls q.1 nx q.2
 | 0,_,_,_,_,h=>by cases h
 | f+1,i,ls,nx,q,h=>by
  intro hg hn hi;unfold Bu at h;split at h
  .rename_i hl;cases hs:jn b n (ls.getD i zE) m 0 ls [] with
   | none=>rw[hs] at h;cases h
   | some s =>
    rw[hs] at h;simp only[b2C] at h;split at h
    .have gx:aA (ls.getD i zE)=true:=hg _ (gS hl);obtain⟨⟨p1,g1⟩,R,e1,r1⟩:=VT gx m hs;rw[b1v] at e1;have u:=Y9 f (i+1) s.1 (nx++[s.2]) h (g1 hg) (by simp[hn]) (by have:=p1.length_le;omega);refine⟨p1.trans u.p,u.g,u.len,(b5n _ _).trans u.pn,λ k hk eX=>?_⟩;rcases Nat.eq_or_lt_of_le hk with e|e
     .subst e;have l1:=p1.length_le;have hx:q.1.getD i zE=ls.getD i zE:=by rw[uV u.p (by omega),uV p1 hl]
      have hy:q.2.getD i []=s.2:=by
       rw[uV u.pn (by simp;omega),b0S,b2H (by omega),hn,Nat.sub_self];rfl
      rw[hx,hy,e1];exact r1.up u.p
     .exact u.r k e eX
    .cases h
  .rename_i hl;cases h;exact⟨b2w _,hg,by show nx.length=ls.length;omega,b2w _,λ k hk eX=>by simp only at eX;omega⟩
structure SaS(gg:aF)(e:J):Prop where
 p:[eu e] <+: cO gg e
 g:HQ (cO gg e)
 len:(eN gg e).length=(cO gg e).length
 r:∀ k,k<(cO gg e).length->Zx gg.aw.toNat ((cO gg e).getD k zE) (bn gg).toNat 0 (cO gg e) ((eN gg e).getD k [])
def a2U{gg:aF}{e:J}(he:aA e=true)(h:du gg e=0):SaS gg e:=by
 unfold du at h;split at h
 .rename_i hs;obtain⟨q,hq⟩:=b4D.1 hs;have u:=Y9 _ _ _ _ (show Bu false _ _ 61 0 [eu e] []=some q from hq) (λ y hy=>by rw[b0Z] at hy;rw[hy];exact (u9 e he).g) rfl (b1G _);have e1:cO gg e=q.1:=by rw[cO,hq];rfl
  have e2:eN gg e=q.2:=by rw[eN,hq];rfl
  refine⟨by rw[e1];exact u.p,by rw[e1];exact u.g,by rw[e1,e2];exact u.len,λ k hk=>?_⟩;rw[e1] at hk ⊢;rw[e2];exact u.r k (b1G _) hk
 .cases h
def Lb(a:ae):Wd->Int->Int->Prop
 | [],t,s=>jK a s t=true
 | p::w,t,s=>Lb a w t (fw a s p.1 p.2)
def okW(gg:aF)(w:Wd)(t:Int):Prop:=(0<=t/\t<bn gg)/\∀ p∈w,(0<=p.1/\p.1<bn gg)/\(0<=p.2/\p.2<gg.aw)
def TZ(a:ae){s:Int}(h:s<0):∀ w t,¬ Lb a w t s:=λ w=>by
 intro t;induction w generalizing s with
 | nil=>intro q;unfold Lb jK at q;rw[if_neg (by omega)] at q;cases q
 | cons p w ih=>intro q;unfold Lb at q;rw[show fw a s p.1 p.2 = -1 from by rw[fw,if_pos h]] at q;exact ih (by decide) q
def a0J{gg:aF}{e:J}(h:du gg e=0):(gG gg e).accept=lf gg (cO gg e)/\(gG gg e).next=eN gg e:=by rw[gG,b0T h];exact⟨rfl,rfl⟩
def a1f{gg:aF}{ls:List J}{i:Nat}(hi:i<ls.length){t:Int}(h0:0<=t)(h1:t<bn gg):((lf gg ls).getD i []).getD t.toNat false=eC t (ls.getD i zE):=by
 have e:(lf gg ls).getD i []=sP (ls.getD i zE) (bn gg).toNat:=by simp[lf,b0S,hi]
 rw[e];have ht:t.toNat<(bn gg).toNat:=by omega
 have e2:((t.toNat:Nat):Int)=t:=by omega
 simp[sP,b0S,ht,e2]
def Yj{gg:aF}{e:J}(he:aA e=true)(h:du gg e=0):∀ (w:Wd) (t:Int),okW gg w t->∀ i:Nat,i<(cO gg e).length->(Lb (gG gg e) w t (i:Int)↔dz ((cO gg e).getD i zE) w t)
 | [],t,ok,i,hi=>by
  have s:=a2U he h;have gi:=s.g _ (gS (z:=zE) hi);rw[meN gi,Lb,jK,b0T (by omega),(a0J h).1,b1H,a1f hi ok.1.1 ok.1.2]
 | p::w,t,ok,i,hi=>by
  have s:=a2U he h;have gi:=s.g _ (gS (z:=zE) hi);have okp:=ok.2 p (by simp);have okw:okW gg w t:=⟨ok.1,λ q hq=>ok.2 q (by simp[hq])⟩;have r:=(s.r i hi).r p.1.toNat (by omega);have x0:p.2.toNat<gg.aw.toNat:=by omega
  have rt:=r.t p.2.toNat x0;have re:=r.e p.2.toNat x0;have e1:(0:Int)+((p.1.toNat:Nat):Int)=p.1:=by omega
  have e2:(0:Int)+((p.2.toNat:Nat):Int)=p.2:=by omega
  rw[e1,e2] at rt re;have m:=spM gi rt w t;have en:fw (gG gg e) (i:Int) p.1 p.2=(((eN gg e).getD i []).getD p.1.toNat []).getD p.2.toNat 0:=by rw[fw,b0N (by omega),(a0J h).2,b1H]
  rw[show (p::w:Wd)=(p.1,p.2)::w from rfl,<-m];show Lb (gG gg e) w t (fw (gG gg e) (i:Int) p.1 p.2)↔_;rw[en];rcases re with ⟨k1,k2⟩|⟨j,k1,k2,k3⟩
  .rw[k1];exact⟨λ q=>absurd q (TZ _ (by decide) w t),λ q=>absurd q (Vv ((Ld p.1 p.2 _ gi).g rt) k2 w t)⟩
  .rw[k1,<-k3];exact Yj he h w t okw j k2
def SC{gg:aF}{e:J}(he:aA e=true)(h:du gg e=0){w:Wd}{t:Int}(ok:okW gg w t):Lb (gG gg e) w t 0↔dz e w t:=by
 have s:=a2U he h;have l:=s.p.length_le;have:=Yj he h w t ok 0 (by simp only[b0W,b1f] at l;omega);rw[uV s.p (by simp)] at this;rw[show ((0:Nat):Int)=0 from rfl] at this;rw[this];exact tdM he w t
def X2(a:ae):Wd->Int->Int
 | [],s=>s
 | p::w,s=>X2 a w (fw a s p.1 p.2)
def T1(a:ae):∀ (w:Wd) (t s:Int),Lb a w t s↔jK a (X2 a w s) t=true
 | [],_,_=>b2F
 | _::w,t,_=>T1 a w t _
def Qp(a:ae):∀ (u v:Wd) (s:Int),X2 a (u++v) s=X2 a v (X2 a u s)
 | [],_,_=>rfl
 | _::u,v,_=>Qp a u v _
structure Wo(a b:ae)(r:af):Prop where
 ex:∃ w:Wd,(∀ p∈w,(0<=p.1/\p.1<bn a.sig)/\(0<=p.2/\p.2<a.sig.aw))/\X2 a w 0=r.pair.a0/\X2 b w 0=r.pair.a1
def zx(a b:ae)(ls:List af):Prop:=∀ r∈ls,Wo a b r
def a6F{a b:ae}{ls:List af}(h:zx a b ls){q:af}(hq:Wo a b q):zx a b (y6 ls q):=by
 unfold y6;split
 .exact h
 .intro r hr;rcases b0K.1 hr with k|k
  .exact h r k
  .rw[b0Z] at k;rw[k];exact hq
def a6G{a b:ae}(vD:AB a b){r:af}(h:Wo a b r){i t x:Nat}(ht:t<mK a)(hx:x<kK a):Wo a b (TX a b r.pair i t x):=by
 obtain⟨w,h1,h2,h3⟩:=h;have l:=vD.ka.lens;refine⟨w++[((t:Int),(x:Int))],λ p hp=>?_,?_,?_⟩
 .rcases b0K.1 hp with k|k
  .exact h1 p k
  .rw[b0Z] at k;subst k;simp only;omega
 .rw[Qp,h2];rfl
 .rw[Qp,h3];rfl
def a2i{a b:ae}(vD:AB a b){r:af}(h:Wo a b r){i t:Nat}(ht:t<mK a){ls:List af}(hl:zx a b ls):∀ x,x<=kK a->zx a b (cI a b r.pair i t ls x)
 | 0,_=>hl
 | x+1,hx=>a6F (a2i vD h ht hl x (by omega)) (a6G vD h ht (by omega))
def a2h{a b:ae}(vD:AB a b){r:af}(h:Wo a b r){i:Nat}{ls:List af}(hl:zx a b ls):∀ t,t<=mK a->zx a b (cA a b r.pair i ls t)
 | 0,_=>hl
 | t+1,ht=>a2i vD h (by omega) (a2h vD h hl t (by omega)) _ (b1d _)
def a2g{a b:ae}(vD:AB a b):∀ i,zx a b (aG a b i)
 | 0=>λ r hr=>by
  simp only[aG,b0Z] at hr;subst hr;exact⟨[],by simp,rfl,rfl⟩
 | i+1=>by
  have q:=a2g vD i;rw[aG];split
  .rename_i hi;exact a2h vD (q _ (gS (z:=(af.mk (au.mk (0:Int) (0:Int)) (0:Int) (0:Int) (0:Int))) hi)) q _ (b1d _)
  .exact q
def Sk(ls:List af)(q:au):Prop:=y7 q=true\/∃ r∈ls,r.pair=q
def Sk.up{ls pB:List af}{q:au}(h:Sk ls q)(p:ls <+: pB):Sk pB q:=h.imp id λ ⟨r,h1,h2⟩=>⟨r,p.subset h1,h2⟩
def a2J(ls:List af)(q:af):ls <+: y6 ls q:=by unfold y6;split;exact List.prefix_refl _;exact List.prefix_append _ _
def a4k(ls:List af)(q:af):Sk (y6 ls q) q.pair:=by
 unfold y6;split
 .rename_i h;exact h.imp id pM.1
 .exact .inr ⟨q,by simp,rfl⟩
def XO(a b:ae)(p:au)(i t:Nat)(ls:List af):∀ x,ls <+: cI a b p i t ls x
 | 0=>b2w _
 | x+1=>(XO a b p i t ls x).trans (a2J _ _)
def a2M(a b:ae)(p:au)(i:Nat)(ls:List af):∀ t,ls <+: cA a b p i ls t
 | 0=>b2w _
 | t+1=>(a2M a b p i ls t).trans (XO _ _ _ _ _ _ _)
def Y1(a b:ae)(p:au)(i t:Nat)(ls:List af):∀ x y,y<x->Sk (cI a b p i t ls x) (Nn a b p t y)
 | 0,y,h=>by omega
 | x+1,y,h=>by
  rcases b1w y x with r|r
  .exact (Y1 a b p i t ls x y r).up (a2J _ _)
  .rw[show y=x by omega];exact a4k _ (TX a b p i t x)
def Y0(a b:ae)(p:au)(i:Nat)(ls:List af):∀ t s y,s<t->y<kK a->Sk (cA a b p i ls t) (Nn a b p s y)
 | 0,s,y,h,_=>by omega
 | t+1,s,y,h,hy=>by
  rcases b1w s t with r|r
  .exact (Y0 a b p i ls t s y r hy).up (XO _ _ _ _ _ _ _)
  .rw[show s=t by omega];exact Y1 a b p i t _ _ y hy
def a2G(a b:ae)(i:Nat):aG a b i <+: aG a b (i+1):=by
 rw[aG];split
 .exact a2M _ _ _ _ _ _
 .exact b2w _
def YX(a b:ae):∀ i j,j<i->j<(aG a b i).length->∀ t y,t<mK a->y<kK a->Sk (aG a b i) (Nn a b ((aG a b i).getD j (af.mk (au.mk (0:Int) (0:Int)) (0:Int) (0:Int) (0:Int))).pair t y)
 | 0,j,h,_=>by omega
 | i+1,j,h,hj=>by
  intro t y ht hy;have p:=a2G a b i;rcases b1w j i with r|r
  .by_cases hl:j<(aG a b i).length
   .rw[uV p hl];exact (YX a b i j r hl t y ht hy).up p
   .rw[aG,b0N (by omega)] at hj;omega
  .rw[show j=i by omega] at hj ⊢;by_cases hl:i<(aG a b i).length
   .rw[uV p hl,aG,b0T hl];exact Y0 a b _ i _ _ t y ht hy
   .rw[aG,b0N hl] at hj;omega
def a4j{a b:ae}(h:AB a b){r:af}(hr:r∈cN a b){t y:Nat}(ht:t<mK a)(hy:y<kK a):Sk (cN a b) (Nn a b r.pair t y):=by
 obtain⟨j,hj,e⟩:=b2R hr;have f:=(Jp h).lV h;have q:(cN a b).getD j (af.mk (au.mk (0:Int) (0:Int)) (0:Int) (0:Int) (0:Int))=r:=by rw[b0S,b1a hj,e];rfl
 have:=YX a b (3722+nK a) j (by omega) hj t y ht hy;rw[<-q];exact this
def a4i{a b:ae}:∃ r∈cN a b,r.pair=au.mk (0:Int) (0:Int):=by
 have:∀ i,aG a b 0 <+: aG a b i:=λ i=>by
  induction i with
  | zero=>exact b2w _
  | succ i ih=>exact ih.trans (a2G a b i)
 exact⟨_,(this _).subset (by rw[aG];exact b4J _),rfl⟩
def a7e(a b:ae):Prop:=∀ w t,okW a.sig w t->(Lb a w t 0↔Lb b w t 0)
def UK{a b:ae}(h:AB a b)(q:sq a b=true):∀ (w:Wd) (t:Int),okW a.sig w t->∀ p:au,Sk (cN a b) p->(Lb a w t p.a0↔Lb b w t p.a1)
 | w,t,ok,p,hp=>by
  have l:=h.ka.lens;rcases hp with hp|⟨r,hr,e⟩
  .simp only[y7,b0U,b0R] at hp;exact⟨λ k=>absurd k (TZ a hp.1 w t),λ k=>absurd k (TZ b hp.2 w t)⟩
  .subst e;match w,ok with
   | [],ok =>
    obtain⟨j,hj,e⟩:=List.getElem_of_mem hr;have k:=Cv.1 q j hj t.toNat (by have:=ok.1;omega);unfold OA at k;rw[List.getD_eq_getElem?_getD,List.getElem?_eq_getElem hj] at k;simp only[Option.getD_some,e] at k;rw[show ((t.toNat:Nat):Int)=t by have:=ok.1;omega] at k;show jK a _ t=true↔jK b _ t=true;rw[k]
   | z::w,ok =>
    have okz:=ok.2 z (by simp);have okw:okW a.sig w t:=⟨ok.1,λ y hy=>ok.2 y (by simp[hy])⟩;have k:=UK h q w t okw _ (a4j h hr (t:=z.1.toNat) (y:=z.2.toNat) (by omega) (by omega));unfold Nn at k;rw[show ((z.1.toNat:Nat):Int)=z.1 by omega,show ((z.2.toNat:Nat):Int)=z.2 by omega] at k;exact k
def DW{a b:ae}(h:AB a b):sq a b=true↔a7e a b:=by
 constructor
 .intro q w t ok;exact UK h q w t ok (au.mk 0 0) (.inr a4i)
 .intro q;rw[Cv];intro i hi t ht;have l:=h.ka.lens;obtain⟨w,h1,h2,h3⟩:=(a2g h _ _ (gS (z:=(af.mk (au.mk (0:Int) (0:Int)) (0:Int) (0:Int) (0:Int))) (show i<(aG a b (3722+nK a)).length from hi)):Wo a b ((cN a b).getD i (af.mk (au.mk (0:Int) (0:Int)) (0:Int) (0:Int) (0:Int))));have k:=q w (t:Int) ⟨by omega,h1⟩;rw[T1,T1,h2,h3] at k;exact b3E.2 k
def a2V(gg:aF)(e f:J):Prop:=∀ w t,okW gg w t->(dz e w t↔dz f w t)
def Ih{gg:aF}{e f:J}(h:ft gg e f=0):mL gg e f=true↔a2V gg e f:=by
 have k:=Ym h;have q:=lG k.s;have r:=lG k.t;rw[mL,b0T h,DW (WJ h)];constructor
 .intro m w t ok;have:=m w t (by rw[Nv k.a];exact ok);rw[SC q.g k.a ok,SC r.g k.b ok] at this;exact this
 .intro m w t ok;rw[Nv k.a] at ok;rw[SC q.g k.a ok,SC r.g k.b ok];exact m w t ok
structure Eu0(gg:aF)(xs:List J)(e f:J):Prop where
 o:Ik gg xs e f
 b:ft gg (mM gg xs e) (mM gg xs f)=0
 v:lO gg xs e f=mL gg (mM gg xs e) (mM gg xs f)
def Yv{gg:aF}{xs:List J}{e f:J}(h:kg gg xs e f=0):Eu0 gg xs e f:=by
 by_cases h1:Ik gg xs e f
 .by_cases h2:xs.length<=4
  .by_cases h3:gb gg (mM gg xs e)=true/\gb gg (mM gg xs f)=true
   .have q:=UO h1 h2 h3;rw[<-q.2] at h;exact⟨h1,h,q.1.symm⟩
   .rw[<-(UN h1 h2 h3).2] at h;exact absurd h (by decide)
  .rw[<-(UM h1 h2).2] at h;exact absurd h (by decide)
 .rw[<-(OB h1).2] at h;exact absurd h (by decide)
def hyW(gg:aF)(xs:List J):Wd->Int->Prop:=xh (dz (x9 gg)) (xh (dz (cZ xs)) (dz (x9 gg)))
def Gs(gg:aF)(xs:List J)(e:J)(w:Wd)(t:Int):dz (mM gg xs e) w t↔dz e w t\/hyW gg xs w t:=by
 unfold mM hyW;rw[PM,PN,sZ (λ _ _=>Iff.rfl) (PN _ _ _)]
def a1T(gg:aF)(w:Wd)(t:Int):¬ hyW gg [] w t:=UF (λ w t=>UE (λ w t=>yN w t) w t) w t
def Yk{gg:aF}(h:bS gg=true)(t:Int):dz (x9 gg) [] t:=by
 have hq:=(dy gg).1 h;unfold x9;rw[tdM (WA gg.aw.toNat (by omega)).1,awE,a2o];exact .nil t
def a3S{gg:aF}(h:bS gg=true){x:J}{w:Wd}{t:Int}(q:dz x w t):hyW gg [x] w t:=by
 refine⟨[],w,rfl,Yk h _,w,[],(b1E w).symm,?_,Yk h t⟩;show dz (J.mk 6 0 [J.mk 1 0 [],x]) w t;rw[PM];exact .inr q
def UH{gg:aF}{e f:J}(h:ft gg e f=0)(k:a2V gg e f):mL gg e f=true:=(Ih h).2 k
def a1U{gg:aF}{e f:J}(h:kg gg [] e f=0)(k:ft gg e f=0):lO gg [] e f=mL gg e f:=by
 have q:=Yv h;rw[q.v,b3E,Ih q.b,Ih k];have m:∀ x w t,dz (mM gg [] x) w t↔dz x w t:=λ x w t=>by rw[Gs];exact⟨λ z=>z.elim id λ z=>absurd z (a1T gg w t), .inl⟩
 constructor
 .intro z w t ok;have:=z w t ok;rw[m,m] at this;exact this
 .intro z w t ok;rw[m,m];exact z w t ok
def a1V{gg:aF}{e f x:J}(h:kg gg [] e f=0)(k:kg gg [x] e f=0)(v:lO gg [] e f=true):lO gg [x] e f=true:=by
 have q:=Yv h;have r:=Yv k;rw[q.v] at v;rw[r.v];have s:=(Ih q.b).1 v;refine UH r.b λ w t ok=>?_;have m:=s w t ok;rw[Gs,Gs] at m;rw[Gs,Gs];have n:=a1T gg w t;constructor
 .rintro (z|z)
  .exact (m.1 (.inl z)).elim .inl λ z=>absurd z n
  .exact .inr z
 .rintro (z|z)
  .exact (m.2 (.inl z)).elim .inl λ z=>absurd z n
  .exact .inr z
def a3T{gg:aF}{x:J}(k:kg gg [x] x (J.mk (1:Int) (0:Int) [])=0):lO gg [x] x (J.mk (1:Int) (0:Int) [])=true:=by
 have r:=Yv k;rw[r.v];refine UH r.b λ w t ok=>?_;rw[Gs,Gs];constructor
 .rintro (z|z)
  .exact .inr (a3S (lG r.o.p).s z)
  .exact .inr z
 .rintro (z|z)
  .exact absurd z (yN w t)
  .exact .inr z
def wP:mg:=⟨yV,[[.d (.slice (.int .u8)), .d (.int .i64), .d (.int .u64)]],[.b 0, .v (.st .sig), .v (.int .i64)],[[(.slice (.int .u8)),(.int .i64),(.int .u64)]],λ (gg:aF) (n:Int) (O:List Int) (pos:Int) (aD:Int)=>⟨(some ((cd O (Sr.mk pos aD) 890000000/\bS gg=true)/\0<=n/\n<=1000),[⟨(.st .expr),(eg O gg.aS gg.aw 6 false (Sr.mk pos aD) n).e⟩],[[⟨(.slice (.int .u8)),O⟩,⟨(.int .i64),(eg O gg.aS gg.aw 6 false (Sr.mk pos aD) n).s.pos⟩,⟨(.int .u64),(eg O gg.aS gg.aw 6 false (Sr.mk pos aD) n).s.aD⟩]])⟩⟩
def I8(gg:aF)(n:Int)(O:List Int)(pos:Int)(aD:Int):Nat->aP:=cw
def DC:mg.Good wP:=by
 refine⟨aH vS,?_⟩;intro (gg:aF) (n:Int) (O:List Int) (pos:Int) (aD:Int) (hp:(cd O (Sr.mk pos aD) 890000000/\bS gg=true)/\0<=n/\n<=1000);refine tm [] [] [] [qu] [14] [] [] [4] trivial trivial trivial ⟨zd,ag⟩ vS EA (I8 gg n O pos aD) rfl rfl (let v0:=eg O gg.aS gg.aw (6:Int).toNat false (Sr.mk pos aD) n;let v1:=eg O gg.aS gg.aw 6 false (Sr.mk pos aD) n;(((cd O (Sr.mk pos aD) (980000000 - 16 * (wG (6:Int).toNat:Int))/\(0<=gg.aS/\gg.aS<=3)/\(0<=gg.aw/\gg.aw<=4)/\(6:Int)<=10 /\ -1000000+(wG (6:Int).toNat:Int)<=n/\n<=1000000)/\((aQ (v0.e))=(v1.e)/\((O=O/\((v0.s.pos)=(v1.s.pos)/\(v0.s.aD)=(v1.s.aD)))/\True))))) ?_;have hg:=(dy gg).1 hp.1.2;have hw:wG (Int.toNat 6)=127:=rfl;refine⟨?_,⟨?_,⟨⟨rfl,⟨?_,?_⟩⟩,ag⟩⟩⟩;all_goals try and_intros
 all_goals try (first|with_reducible rfl|with_reducible assumption)
 all_goals try simp only[J.eta,cu] at *
 all_goals (try simp only[Ss,J.eta,b0R,b0Q] at *);first|rfl|trivial|omega|exact hp.1.1.mono (by omega)
abbrev QQ:Sr:=Sr.mk (0:Int) (0:Int)
abbrev OT(O:List Int):Sr:=dk O (dk O QQ 2) 2
abbrev hG(O:List Int):aF:=aF.mk (pk O QQ 2) (1+pk O (dk O QQ 2) 2)
abbrev hD(O:List Int)(s:Sr)(n:Int):Gn:=eg O (hG O).aS (hG O).aw 6 false s n
abbrev hE(O:List Int):Gn:=hD O (OT O) 6
abbrev hF(O:List Int):Gn:=hD O (hE O).s 6
abbrev MC(O:List Int):Sr:=dk O (hF O).s 3
def yx(O:List Int):J:=bif jZ O (hF O).s 3 then J.mk (7:Int) (0:Int) [(hE O).e,(hF O).e] else (hF O).e
abbrev hH(O:List Int):Gn:=hD O (MC O) 5
structure HyF(O:List Int):Prop where
 p1 : -9223372036854775808<=1+pk O (dk O (Sr.mk (0:Int) (0:Int)) 2) 2/\1+pk O (dk O (Sr.mk (0:Int) (0:Int)) 2) 2<=9223372036854775807
 g:bS (hG O)=true
 s0:cd O QQ 800000000
 s1:cd O (dk O QQ 2) 800000000
 s2:cd O (OT O) 800000000
 s3:cd O (hE O).s 800000000
 s4:cd O (hF O).s 800000000
 s5:cd O (MC O) 800000000
 z:cJ (hE O).e<=1048576
def a9c(O:List Int)(hb:eS O)(hl:O.length<=1000000):HyF O:=by
 have q0:cd O QQ 0:=⟨hb,by decide,by decide,hl,by decide,by decide⟩;have q1:=q0.next 2;have q2:=q1.next 2;have p0:=q0.pk 2;have p1:=q1.pk 2;have ht:0<=(hG O).aS/\(hG O).aS<=3:=by show 0<=pk O QQ 2/\pk O QQ 2<=3;omega
 have ha:0<=(hG O).aw/\(hG O).aw<=4:=by show 0<=1+pk O (dk O QQ 2) 2/\1+pk O (dk O QQ 2) 2<=4;omega
 have hw:wG 6=127:=rfl;have e:=Gt O _ _ ht ha 6 false (OT O) _ 6 q2;have f:=Gt O _ _ ht ha 6 false (hE O).s _ 6 e.sr;have n:=e.nd;have ha':0<=1+pk O (dk O (Sr.mk (0:Int) (0:Int)) 2) 2/\1+pk O (dk O (Sr.mk (0:Int) (0:Int)) 2) 2<=4:=ha;refine⟨⟨by omega,by omega⟩,(dy _).2 ⟨ht,ha⟩,q0.mono (by decide),q1.mono (by decide),q2.mono (by decide),e.sr.mono (by decide),f.sr.mono (by decide),(f.sr.next 3).mono (by decide),lF _ (by show ar (eg _ _ _ _ _ _ _).e<=_;omega)⟩
def YE{O:List Int}(h:jZ O (hF O).s 3=true):J.mk (7:Int) (0:Int) [(hE O).e,(hF O).e]=yx O:=by rw[yx,h];rfl
def YD{O:List Int}(h:jZ O (hF O).s 3=false):(hF O).e=yx O:=by rw[yx,h];rfl
def A4:bc:=⟨Bl,[.v (.slice (.int .u8))],λ (O:List Int)=>⟨(some (eS O/\O.length<=1000000),[⟨(.st .sig),hG O⟩,⟨(.st .expr),(hE O).e⟩,⟨(.st .expr),yx O⟩,⟨(.st .expr),(hH O).e⟩])⟩⟩
def MW(O:List Int):Nat->aP:=(eR 100005 (.mk (Unit) (λ u=>True) (λ u=>0) [2102,2402] [0,10,11,12,13,14,15,16,17,18,19,20] (λ u=>[(9, .ptr 9 0)]) [2,3,4,5,7] (λ u=>[(8, .box [.aO ⟨(.int .i64),((hE O).e.ah:Int)⟩, .aO ⟨(.int .i64),((hE O).e.aX:Int)⟩, .aO ⟨(.slice (.st .expr)),((hE O).e.U:List J)⟩]),(9, .box [.aO ⟨(.int .i64),((hF O).e.ah:Int)⟩, .aO ⟨(.int .i64),((hF O).e.aX:Int)⟩, .aO ⟨(.slice (.st .expr)),((hF O).e.U:List J)⟩]),(11, .box [.aO ⟨(.slice (.int .u8)),(O:List Int)⟩, .aO ⟨(.int .i64),((hF O).s.pos:Int)⟩, .aO ⟨(.int .u64),((hF O).s.aD:Int)⟩])]) [] [] (λ u=>(eR 100007 (.mk (Unit) (λ u=>True) (λ u=>0) [] [] (λ u=>[]) [2,3,4,5,7,8] (λ u=>[(9, .box [.aO ⟨(.int .i64),((yx O).ah:Int)⟩, .aO ⟨(.int .i64),((yx O).aX:Int)⟩, .aO ⟨(.slice (.st .expr)),((yx O).U:List J)⟩]),(11, .box [.aO ⟨(.slice (.int .u8)),(O:List Int)⟩, .aO ⟨(.int .i64),((MC O).pos:Int)⟩, .aO ⟨(.int .u64),((MC O).aD:Int)⟩])]) [] [] (λ u=>(eR 600000 (.mk (Unit) (λ u=>True) (λ u=>0) [3502] [6,7,8,9] (λ u=>[]) [8,9] (λ u=>[(2, .box [.aO ⟨(.int .i64),((hG O).aS:Int)⟩, .aO ⟨(.int .i64),((hG O).aw:Int)⟩]),(3, .box [.aO ⟨(.int .i64),((hE O).e.ah:Int)⟩, .aO ⟨(.int .i64),((hE O).e.aX:Int)⟩, .aO ⟨(.slice (.st .expr)),((hE O).e.U:List J)⟩]),(4, .box [.aO ⟨(.int .i64),((yx O).ah:Int)⟩, .aO ⟨(.int .i64),((yx O).aX:Int)⟩, .aO ⟨(.slice (.st .expr)),((yx O).U:List J)⟩]),(5, .box [.aO ⟨(.int .i64),((hH O).e.ah:Int)⟩, .aO ⟨(.int .i64),((hH O).e.aX:Int)⟩, .aO ⟨(.slice (.st .expr)),((hH O).e.U:List J)⟩]),(11, .box [.aO ⟨(.slice (.int .u8)),(O:List Int)⟩, .aO ⟨(.int .i64),((hH O).s.pos:Int)⟩, .aO ⟨(.int .u64),((hH O).s.aD:Int)⟩])]) [] [] (λ u=>cw)) cw))) cw))) cw)
abbrev wv(O:List Int):Prop:=(let v1:=Sr.mk (0:Int) (0:Int);let v0:=(1:Int)+(pk O (dk O v1 (2:Int)) (2:Int));((pk O v1 (2:Int))=(pk O v1 (2:Int))/\(v0=v0/\True)))
abbrev wy(O:List Int):Prop:=(let v1:=(0:Int);let v0:=v1=v1/\(v1=v1/\(True/\True));((wv O)/\(v0/\(v0/\(v0/\((v1=v1/\(v1=v1/\True))/\True))))))
abbrev wz(O:List Int):Prop:=(let v0:=dk O (Sr.mk ((hF O).s.pos) ((hF O).s.aD)) (3:Int);let v1:=hE O;((O=O/\((v0.pos)=((MC O).pos)/\((v0.aD)=((MC O).aD)/\True)))/\(((v1.e.ah)=(v1.e.ah)/\((v1.e.aX)=(v1.e.aX)/\((v1.e.U)=(v1.e.U)/\True)))/\(wy O))))
def GF:bc.Good A4:=by
 refine⟨aH xW,?_⟩;intro (O:List Int) (hp:eS O/\O.length<=1000000);refine Hr [ei,eM] [] [] [eA,wP,fO] [20,23,34] [] [] [] ⟨fA,eW,ag⟩ trivial trivial ⟨fD,DC,jo,ag⟩ xW F9 (MW O) (let va:=yx O;let v2:=(va.ah)=(va.ah)/\((va.aX)=(va.aX)/\((va.U)=(va.U)/\True));let vb:=hF O;let vc:=Sr.mk (0:Int) (0:Int);let vd:=hE O;let v3:=(vd.e.ah)=(vd.e.ah)/\((vd.e.aX)=(vd.e.aX)/\((vd.e.U)=(vd.e.U)/\True));let v9:=J.mk (vd.e.ah) (vd.e.aX) (vd.e.U);let v4:=J.mk (7:Int) 0 [v9,(J.mk (vb.e.ah) (vb.e.aX) (vb.e.U))];let vf:=Sr.mk (vb.s.pos) (vb.s.aD);let vg:=hH O;let vh:=True/\(True/\(True/\(True/\True)));let v8:=True/\(True/\(True/\(True/\vh)));let vi:=(2:Int);let v6:=dk O vc vi;let ve:=(1:Int)+(pk O v6 vi);let v0:=aF.mk (pk O vc vi) ve;let v7:=eg O v0.aS v0.aw 6 false (MC O) (5:Int);let vj:=wv O;let vk:=(6:Int);let v1:=eg O v0.aS v0.aw 6 false (dk O v6 vi) vk;let v5:=eg O v0.aS v0.aw 6 false (Sr.mk (v1.s.pos) (v1.s.aD)) vk;(((cd O vc 999999000/\vi<=1000000)/\((cd O v6 999999000/\vi<=1000000)/\(av ve/\(((cd O (dk O v6 vi) 890000000/\bS v0=true)/\0<=vk/\vk<=1000)/\((((cd O (Sr.mk (v1.s.pos) (v1.s.aD)) 890000000/\bS v0=true)/\0<=vk/\vk<=1000)/\(∃ u1:Unit,(True/\(v8/\(((v1.e).ah=(vd.e.ah)/\((v1.e).aX=(vd.e.aX)/\((v1.e).U=(vd.e.U)/\True)))/\(((v5.e).ah=(vb.e.ah)/\((v5.e).aX=(vb.e.aX)/\((v5.e).U=(vb.e.U)/\True)))/\((O=O/\((v5.s.pos)=(vb.s.pos)/\((v5.s.aD)=(vb.s.aD)/\True)))/\(wy O))))))))/\(∀ u1:Unit,(True->(((cd O vf 999999000/\(3:Int)<=1000000)/\(((jZ O vf (3:Int))=true->(cJ v9<=1048576/\(∃ u2:Unit,(True/\(v8/\((v4.ah=(va.ah)/\(v4.aX=(va.aX)/\(v4.U=(va.U)/\True)))/\(wz O)))))))/\((jZ O vf (3:Int))=false->(∃ u2:Unit,(True/\(v8/\(((vb.e.ah)=(va.ah)/\((vb.e.aX)=(va.aX)/\((vb.e.U)=(va.U)/\True)))/\(wz O))))))))/\(∀ u2:Unit,(True->((vj/\(v3/\(v2/\(((11:Nat)=11/\(0:Nat)=0)/\(vj/\(((cd O (MC O) 890000000/\bS v0=true)/\0<=(5:Int)/\(5:Int)<=1000)/\(vj/\(v3/\(v2/\(v3/\(v2/\(v2/\(∃ u3:Unit,(True/\(vh/\(((pk O vc vi)=((hG O).aS)/\(ve=((hG O).aw)/\True))/\(v3/\(v2/\(((v7.e).ah=(vg.e.ah)/\((v7.e).aX=(vg.e.aX)/\((v7.e).U=(vg.e.U)/\True)))/\((O=O/\((v7.s.pos)=(vg.s.pos)/\((v7.s.aD)=(vg.s.aD)/\True)))/\(v2/\(v3/\True))))))))))))))))))))))/\(∀ u3:Unit,(True->((aF.mk ((hG O).aS) ((hG O).aw))=(hG O)/\(v9=(vd.e)/\((J.mk (va.ah) (va.aX) (va.U))=va/\(J.mk (vg.e.ah) (vg.e.aX) (vg.e.U))=(vg.e))))))))))))))))))) ?_;have F:=a9c O hp.1 hp.2;refine⟨?_,?_,?_,?_,⟨?_,(),?_,⟨ag,ag,ag,ag,ag,ag,ag,ag,ag⟩,⟨?_,?_,?_,ag⟩,⟨?_,?_,?_,ag⟩,⟨rfl,?_,?_,ag⟩,⟨rfl,rfl,ag⟩,⟨rfl,rfl,ag,ag⟩,⟨rfl,rfl,ag,ag⟩,⟨rfl,rfl,ag,ag⟩,⟨rfl,rfl,ag⟩,ag⟩,λ u1 _=>⟨⟨?_,λ _=>⟨?_,(),?_,⟨ag,ag,ag,ag,ag,ag,ag,ag,ag⟩,⟨?_,?_,?_,ag⟩,⟨rfl,?_,?_,ag⟩,⟨rfl,rfl,rfl,ag⟩,⟨rfl,rfl,ag⟩,⟨rfl,rfl,ag,ag⟩,⟨rfl,rfl,ag,ag⟩,⟨rfl,rfl,ag,ag⟩,⟨rfl,rfl,ag⟩,ag⟩,λ _=>⟨(),?_,⟨ag,ag,ag,ag,ag,ag,ag,ag,ag⟩,⟨?_,?_,?_,ag⟩,⟨rfl,?_,?_,ag⟩,⟨rfl,rfl,rfl,ag⟩,⟨rfl,rfl,ag⟩,⟨rfl,rfl,ag,ag⟩,⟨rfl,rfl,ag,ag⟩,⟨rfl,rfl,ag,ag⟩,⟨rfl,rfl,ag⟩,ag⟩⟩,λ u2 _=>⟨⟨⟨rfl,rfl,?_⟩,⟨rfl,rfl,rfl,?_⟩,⟨rfl,rfl,rfl,?_⟩,⟨?_,?_⟩,⟨rfl,rfl,?_⟩,?_,⟨rfl,rfl,?_⟩,⟨rfl,rfl,rfl,?_⟩,⟨rfl,rfl,rfl,?_⟩,⟨rfl,rfl,rfl,?_⟩,⟨rfl,rfl,rfl,?_⟩,⟨rfl,rfl,rfl,?_⟩,(),?_,⟨ag,ag,ag,ag,ag⟩,⟨?_,?_,ag⟩,⟨rfl,rfl,rfl,ag⟩,⟨rfl,rfl,rfl,ag⟩,⟨?_,?_,?_,ag⟩,⟨rfl,?_,?_,ag⟩,⟨rfl,rfl,rfl,ag⟩,⟨rfl,rfl,rfl,ag⟩,ag⟩,λ u3 _=>⟨?_,?_,?_,?_⟩⟩⟩⟩;all_goals try and_intros
 all_goals (try simp only[Ss,J.eta,b0R,b0Q,b1J,b1D] at *);first|done|rfl|trivial|omega|with_reducible assumption|exact F.g|exact F.z|exact F.p1.1|exact F.p1.2|exact F.s0.mono (by decide)|exact F.s1.mono (by decide)|exact F.s2.mono (by decide)|exact F.s3.mono (by decide)|exact F.s4.mono (by decide)|exact F.s5.mono (by decide)|exact YE (by with_reducible assumption)|exact YD (by with_reducible assumption)|exact congrArg J.ah (YE (by with_reducible assumption))|exact congrArg J.aX (YE (by with_reducible assumption))|exact congrArg J.U (YE (by with_reducible assumption))|exact congrArg J.ah (YD (by with_reducible assumption))|exact congrArg J.aX (YD (by with_reducible assumption))|exact congrArg J.U (YD (by with_reducible assumption))
def C4:bc:=⟨Dn,[.v (.slice (.int .u8)), .v (.slice (.int .u8))],λ (xs:List Int) (ys:List Int)=>⟨(none,[⟨.bool,decide (3000<xs.length)||decide (3000<ys.length)⟩])⟩⟩
def Ps(xs:List Int)(ys:List Int):Nat->aP:=cw
def IB:bc.Good C4:=by
 refine⟨aH AK,?_⟩;intro (xs:List Int) (ys:List Int) _;refine bf [] [] [] [] trivial AK H4 (Ps xs ys) (let v0:=decide (3000<xs.length)||decide (3000<ys.length);let v1:=decide ((3000:Int)<((xs.length:Int)));((av ((xs.length:Int))->((v1=false->(av ((ys.length:Int))->(decide ((3000:Int)<((ys.length:Int))))=v0))/\(v1=(!false)->true=v0))))) ?_;refine λ _=>⟨λ _ _=>?_,λ _=>?_⟩;all_goals try and_intros
 all_goals first|rfl|trivial|omega|(simp only[b0R,b0Q] at *;first|omega|grind)|grind
noncomputable def zw(gg:aF)(e f:J):Int:=if ft gg e f=0 then (bif mL gg e f then 1 else 0) else 2
def a5S{gg:aF}{e f:J}(h:¬ ft gg e f=0):2=zw gg e f:=by rw[zw,b0N h]
def a5R{gg:aF}{e f:J}(h:ft gg e f=0)(k:mL gg e f=true):1=zw gg e f:=by rw[zw,b0T h,k];rfl
def a5Q{gg:aF}{e f:J}(h:ft gg e f=0)(k:mL gg e f=false):0=zw gg e f:=by rw[zw,b0T h,k];rfl
structure HyQ(gg:aF)(e f x:J):Prop where
 own:kg gg [x] x (J.mk (1:Int) (0:Int) [])=0->lO gg [x] x (J.mk (1:Int) (0:Int) [])=true
 some:kg gg [] e f=0->kg gg [x] e f=0->lO gg [] e f=true->lO gg [x] e f=true
 none:kg gg [] e f=0->zw gg e f<2->lO gg [] e f=decide (zw gg e f=1)
 ge:0<=zw gg e f
def hyQ(gg:aF)(e f x:J):HyQ gg e f x:=by
 refine⟨a3T,a1V,λ h k=>?_,?_⟩
 .unfold zw at k ⊢;split at k
  .rename_i b;rw[b0T b,a1U h b];cases mL gg e f<;>rfl
  .omega
 .unfold zw;split
  .cases mL gg e f<;>decide
  .decide
def A3:bc:=⟨Bk,[.v (.st .sig), .v (.st .expr), .v (.st .expr)],λ (gg:aF) (e:J) (f:J)=>⟨(none,[⟨(.int .i64),zw gg e f⟩])⟩⟩
def MU(gg:aF)(e:J)(f:J):Nat->aP:=cw
def GD:bc.Good A3:=by
 refine⟨aH xV,?_⟩;intro (gg:aF) (e:J) (f:J) _;refine bf [mZ,mX] [] [] [3,4,5] ⟨oO,oM,ag⟩ xV F8 (MU gg e f) (let v0:=ft gg e f;((av v0->(av v0->(((!(decide (v0=v0)))=true->(-1:Int)=(zw gg e f))/\((!(decide (v0=v0)))=false->(((!(decide (v0=(0:Int))))=true->(2:Int)=(zw gg e f))/\((!(decide (v0=(0:Int))))=false->(((mL gg e f)=true->(1:Int)=(zw gg e f))/\((mL gg e f)=false->(0:Int)=(zw gg e f))))))))))) ?_;refine λ _ _=>⟨λ _=>?_,λ _=>⟨λ _=>?_,λ _=>⟨λ _=>?_,λ _=>?_⟩⟩⟩;all_goals try and_intros
 all_goals (try simp only[b0R,b0Q,b1J,b1D,b1g,b1r,b3x,not_true_eq_false,not_false_eq_true] at *);first|done|rfl|trivial|contradiction|omega|exact a5S (by with_reducible assumption)|exact a5R (by with_reducible assumption) (by with_reducible assumption)|exact a5Q (by with_reducible assumption) (by with_reducible assumption)|(simp_all;done)
def C3:bc:=⟨kA,[.v (.slice (.int .u8)), .v (.slice (.int .u8))],λ (O:List Int) (more:List Int)=>⟨(some (eS O/\eS more),[⟨.bool,true⟩])⟩⟩
def C7(O:List Int)(more:List Int):Nat->aP:=cw
abbrev jh(O:List Int):Prop:=(let v0:=aQ ((hE O).e);let v1:=aQ (yx O);let v3:=[(aQ ((hH O).e))];let v2 := !(decide ((kg (hG O) v3 v0 v1)=(0:Int)));let v4:=decide ((0:Int)<=(zw (hG O) v0 v1));let v5 := !(lO (hG O) (@List.nil J) v0 v1);((v4=true ->
 ((v2=false ->
 ((v5=false ->
 (lO (hG O) v3 v0 v1)=true)/\(v5=(!false) ->
 true=true)))/\(v2=(!false) ->
 ((true=false ->
 (lO (hG O) v3 v0 v1)=true)/\(true=(!false) ->
 true=true)))))/\(v4=(!true) ->
 false=true)))
abbrev oa(O:List Int):Prop:=(let v0 := !((lO (hG O) (@List.nil J) (aQ ((hE O).e)) (aQ (yx O))) == (decide ((zw (hG O) (aQ ((hE O).e)) (aQ (yx O)))=(1:Int))));((v0=true ->
 false=true)/\(v0=false ->
 (jh O))))
abbrev od(O:List Int):Prop:=(let v0:=zw (hG O) (aQ ((hE O).e)) (aQ (yx O));let v1 := !(decide ((kg (hG O) (@List.nil J) (aQ ((hE O).e)) (aQ (yx O)))=(0:Int)));((v1=true ->
 true=true)/\(v1=false ->
 (av v0 ->
 (((decide ((0:Int)<=v0))=true ->
 (((decide (v0<(2:Int)))=true ->
 (oa O))/\((decide (v0<(2:Int)))=(!true) ->
 ((false=true ->
 false=true)/\(false=false ->
 (jh O))))))/\((decide ((0:Int)<=v0))=(!true) ->
 ((false=true ->
 (oa O))/\(false=(!true) ->
 ((false=true ->
 false=true)/\(false=false ->
 (jh O)))))))))))
abbrev ji(O:List Int):Prop:=(let v0:=aQ ((hH O).e);let v1:=J.mk (1:Int) (0:Int) [];let v2:=decide ((kg (hG O) ([v0]) v0 v1)=(0:Int));let v3 := !(lO (hG O) ([v0]) v0 v1);((v2=true ->
 ((v3=true ->
 false=true)/\(v3=false ->
 (od O))))/\(v2=(!true) ->
 ((false=true ->
 false=true)/\(false=false ->
 (od O))))))
abbrev oe(O:List Int):Prop:=(let v0:=kg (hG O) ([(aQ ((hH O).e))]) (aQ ((hH O).e)) (J.mk (1:Int) (0:Int) []);(((!(decide (v0=v0)))=true ->
 false=true)/\((!(decide (v0=v0)))=false ->
 (ji O))))
def yp:bc.Good C3:=by
 refine⟨aH oL,?_⟩;intro (O:List Int) (more:List Int) (hp:eS O/\eS more);refine Hr [C4,A4,uD,uA,A3] [] [] [] [] [] [] [] ⟨IB,GF,BN,BL,GD,ag⟩ trivial trivial trivial oL yb (C7 O more) (let v2:=aQ ((hH O).e);let v0:=kg (hG O) ([v2]) (aQ ((hE O).e)) (aQ (yx O));let v3:=decide (3000<O.length)||decide (3000<more.length);let v4:=kg (hG O) ([v2]) v2 (J.mk (1:Int) (0:Int) []);let v5 := @List.nil J;let v1:=kg (hG O) v5 (aQ ((hE O).e)) (aQ (yx O));(((v3=true->true=true)/\(v3=false->((eS O/\O.length<=1000000)/\(v5.length<=1048576/\(av v1->(([v2]).length<=1048576/\(av v0->(([v2]).length<=1048576/\(av v4->(v5.length<=1048576/\(av v1->(([v2]).length<=1048576/\(av v0->(([v2]).length<=1048576/\(av v4->(((!(decide (v1=v1)))=false->(((!(decide (v0=v0)))=false->(oe O))/\((!(decide (v0=v0)))=(!false)->((true=true->false=true)/\(true=false->(ji O))))))/\((!(decide (v1=v1)))=(!false)->((true=false->(oe O))/\(true=(!false)->((true=true->false=true)/\(true=false->(ji O)))))))))))))))))))))))) ?_;have Q:=hyQ (hG O) (hE O).e (yx O) (hH O).e;refine⟨λ a0=>rfl,λ a0=>⟨?_,?_,λ _=>⟨?_,λ _=>⟨?_,λ _=>⟨?_,λ _=>⟨?_,λ _=>⟨?_,λ _=>⟨λ _=>⟨λ _=>⟨λ _=>?_,λ _=>⟨λ _=>⟨λ _=>?_,λ _=>⟨λ _=>rfl,λ _ _=>⟨λ _=>⟨λ _=>⟨λ _=>?_,λ _=>⟨λ _=>⟨λ _=>⟨λ _=>?_,λ _=>rfl⟩,λ _=>⟨λ _=>?_,λ _=>rfl⟩⟩,λ _=>?_⟩⟩,λ _=>⟨λ _=>?_,λ _=>⟨λ _=>⟨λ _=>⟨λ _=>?_,λ _=>rfl⟩,λ _=>⟨λ _=>?_,λ _=>rfl⟩⟩,λ _=>?_⟩⟩⟩,λ _=>⟨λ _=>⟨λ _=>?_,λ _=>⟨λ _=>⟨λ _=>⟨λ _=>?_,λ _=>rfl⟩,λ _=>⟨λ _=>?_,λ _=>rfl⟩⟩,λ _=>?_⟩⟩,λ _=>⟨λ _=>?_,λ _=>⟨λ _=>⟨λ _=>⟨λ _=>?_,λ _=>rfl⟩,λ _=>⟨λ _=>?_,λ _=>rfl⟩⟩,λ _=>?_⟩⟩⟩⟩⟩⟩,λ _=>⟨λ _=>?_,λ _=>⟨λ _=>rfl,λ _ _=>⟨λ _=>⟨λ _=>⟨λ _=>?_,λ _=>⟨λ _=>⟨λ _=>⟨λ _=>?_,λ _=>rfl⟩,λ _=>⟨λ _=>?_,λ _=>rfl⟩⟩,λ _=>?_⟩⟩,λ _=>⟨λ _=>?_,λ _=>⟨λ _=>⟨λ _=>⟨λ _=>?_,λ _=>rfl⟩,λ _=>⟨λ _=>?_,λ _=>rfl⟩⟩,λ _=>?_⟩⟩⟩,λ _=>⟨λ _=>⟨λ _=>?_,λ _=>⟨λ _=>⟨λ _=>⟨λ _=>?_,λ _=>rfl⟩,λ _=>⟨λ _=>?_,λ _=>rfl⟩⟩,λ _=>?_⟩⟩,λ _=>⟨λ _=>?_,λ _=>⟨λ _=>⟨λ _=>⟨λ _=>?_,λ _=>rfl⟩,λ _=>⟨λ _=>?_,λ _=>rfl⟩⟩,λ _=>?_⟩⟩⟩⟩⟩⟩⟩⟩,λ _=>⟨λ _=>?_,λ _=>⟨λ _=>⟨λ _=>?_,λ _=>⟨λ _=>rfl,λ _ _=>⟨λ _=>⟨λ _=>⟨λ _=>?_,λ _=>⟨λ _=>⟨λ _=>⟨λ _=>?_,λ _=>rfl⟩,λ _=>⟨λ _=>?_,λ _=>rfl⟩⟩,λ _=>?_⟩⟩,λ _=>⟨λ _=>?_,λ _=>⟨λ _=>⟨λ _=>⟨λ _=>?_,λ _=>rfl⟩,λ _=>⟨λ _=>?_,λ _=>rfl⟩⟩,λ _=>?_⟩⟩⟩,λ _=>⟨λ _=>⟨λ _=>?_,λ _=>⟨λ _=>⟨λ _=>⟨λ _=>?_,λ _=>rfl⟩,λ _=>⟨λ _=>?_,λ _=>rfl⟩⟩,λ _=>?_⟩⟩,λ _=>⟨λ _=>?_,λ _=>⟨λ _=>⟨λ _=>⟨λ _=>?_,λ _=>rfl⟩,λ _=>⟨λ _=>?_,λ _=>rfl⟩⟩,λ _=>?_⟩⟩⟩⟩⟩⟩,λ _=>⟨λ _=>?_,λ _=>⟨λ _=>rfl,λ _ _=>⟨λ _=>⟨λ _=>⟨λ _=>?_,λ _=>⟨λ _=>⟨λ _=>⟨λ _=>?_,λ _=>rfl⟩,λ _=>⟨λ _=>?_,λ _=>rfl⟩⟩,λ _=>?_⟩⟩,λ _=>⟨λ _=>?_,λ _=>⟨λ _=>⟨λ _=>⟨λ _=>?_,λ _=>rfl⟩,λ _=>⟨λ _=>?_,λ _=>rfl⟩⟩,λ _=>?_⟩⟩⟩,λ _=>⟨λ _=>⟨λ _=>?_,λ _=>⟨λ _=>⟨λ _=>⟨λ _=>?_,λ _=>rfl⟩,λ _=>⟨λ _=>?_,λ _=>rfl⟩⟩,λ _=>?_⟩⟩,λ _=>⟨λ _=>?_,λ _=>⟨λ _=>⟨λ _=>⟨λ _=>?_,λ _=>rfl⟩,λ _=>⟨λ _=>?_,λ _=>rfl⟩⟩,λ _=>?_⟩⟩⟩⟩⟩⟩⟩⟩⟩,λ _=>⟨λ _=>⟨λ _=>?_,λ _=>⟨λ _=>⟨λ _=>?_,λ _=>⟨λ _=>rfl,λ _ _=>⟨λ _=>⟨λ _=>⟨λ _=>?_,λ _=>⟨λ _=>⟨λ _=>⟨λ _=>?_,λ _=>rfl⟩,λ _=>⟨λ _=>?_,λ _=>rfl⟩⟩,λ _=>?_⟩⟩,λ _=>⟨λ _=>?_,λ _=>⟨λ _=>⟨λ _=>⟨λ _=>?_,λ _=>rfl⟩,λ _=>⟨λ _=>?_,λ _=>rfl⟩⟩,λ _=>?_⟩⟩⟩,λ _=>⟨λ _=>⟨λ _=>?_,λ _=>⟨λ _=>⟨λ _=>⟨λ _=>?_,λ _=>rfl⟩,λ _=>⟨λ _=>?_,λ _=>rfl⟩⟩,λ _=>?_⟩⟩,λ _=>⟨λ _=>?_,λ _=>⟨λ _=>⟨λ _=>⟨λ _=>?_,λ _=>rfl⟩,λ _=>⟨λ _=>?_,λ _=>rfl⟩⟩,λ _=>?_⟩⟩⟩⟩⟩⟩,λ _=>⟨λ _=>?_,λ _=>⟨λ _=>rfl,λ _ _=>⟨λ _=>⟨λ _=>⟨λ _=>?_,λ _=>⟨λ _=>⟨λ _=>⟨λ _=>?_,λ _=>rfl⟩,λ _=>⟨λ _=>?_,λ _=>rfl⟩⟩,λ _=>?_⟩⟩,λ _=>⟨λ _=>?_,λ _=>⟨λ _=>⟨λ _=>⟨λ _=>?_,λ _=>rfl⟩,λ _=>⟨λ _=>?_,λ _=>rfl⟩⟩,λ _=>?_⟩⟩⟩,λ _=>⟨λ _=>⟨λ _=>?_,λ _=>⟨λ _=>⟨λ _=>⟨λ _=>?_,λ _=>rfl⟩,λ _=>⟨λ _=>?_,λ _=>rfl⟩⟩,λ _=>?_⟩⟩,λ _=>⟨λ _=>?_,λ _=>⟨λ _=>⟨λ _=>⟨λ _=>?_,λ _=>rfl⟩,λ _=>⟨λ _=>?_,λ _=>rfl⟩⟩,λ _=>?_⟩⟩⟩⟩⟩⟩⟩⟩,λ _=>⟨λ _=>?_,λ _=>⟨λ _=>⟨λ _=>?_,λ _=>⟨λ _=>rfl,λ _ _=>⟨λ _=>⟨λ _=>⟨λ _=>?_,λ _=>⟨λ _=>⟨λ _=>⟨λ _=>?_,λ _=>rfl⟩,λ _=>⟨λ _=>?_,λ _=>rfl⟩⟩,λ _=>?_⟩⟩,λ _=>⟨λ _=>?_,λ _=>⟨λ _=>⟨λ _=>⟨λ _=>?_,λ _=>rfl⟩,λ _=>⟨λ _=>?_,λ _=>rfl⟩⟩,λ _=>?_⟩⟩⟩,λ _=>⟨λ _=>⟨λ _=>?_,λ _=>⟨λ _=>⟨λ _=>⟨λ _=>?_,λ _=>rfl⟩,λ _=>⟨λ _=>?_,λ _=>rfl⟩⟩,λ _=>?_⟩⟩,λ _=>⟨λ _=>?_,λ _=>⟨λ _=>⟨λ _=>⟨λ _=>?_,λ _=>rfl⟩,λ _=>⟨λ _=>?_,λ _=>rfl⟩⟩,λ _=>?_⟩⟩⟩⟩⟩⟩,λ _=>⟨λ _=>?_,λ _=>⟨λ _=>rfl,λ _ _=>⟨λ _=>⟨λ _=>⟨λ _=>?_,λ _=>⟨λ _=>⟨λ _=>⟨λ _=>?_,λ _=>rfl⟩,λ _=>⟨λ _=>?_,λ _=>rfl⟩⟩,λ _=>?_⟩⟩,λ _=>⟨λ _=>?_,λ _=>⟨λ _=>⟨λ _=>⟨λ _=>?_,λ _=>rfl⟩,λ _=>⟨λ _=>?_,λ _=>rfl⟩⟩,λ _=>?_⟩⟩⟩,λ _=>⟨λ _=>⟨λ _=>?_,λ _=>⟨λ _=>⟨λ _=>⟨λ _=>?_,λ _=>rfl⟩,λ _=>⟨λ _=>?_,λ _=>rfl⟩⟩,λ _=>?_⟩⟩,λ _=>⟨λ _=>?_,λ _=>⟨λ _=>⟨λ _=>⟨λ _=>?_,λ _=>rfl⟩,λ _=>⟨λ _=>?_,λ _=>rfl⟩⟩,λ _=>?_⟩⟩⟩⟩⟩⟩⟩⟩⟩⟩⟩⟩⟩⟩⟩⟩⟩;all_goals try and_intros
 all_goals try (first|with_reducible rfl|with_reducible assumption)
 all_goals try simp only[J.eta,cu] at *
 all_goals (try simp only[J.eta,bC,b0Y,b0W,b1f,b0R,b0Q,b1J,b1D,b1g,b1r] at *)<;>first|rfl|trivial|omega|with_reducible assumption|exact hp.1|(simp only[b3Z,b0Q] at a0;omega)|(have q1:=Q.own;have q2:=Q.some;have q3:=Q.none;have q4:=Q.ge;simp_all;done)|(have q1:=Q.own;have q2:=Q.some;have q3:=Q.none;have q4:=Q.ge;grind)
def P9{w:World}{S:Nat->Prop}:∀ (xs:List Int) (b o:Nat),df w S (xs.map (Ty.int IntKind.u8).aK) b o->eS xs
 | [],_,_,_=>λ i h=>by simp at h
 | x::xs,b,o,h=>λ i hi=>by
  obtain⟨⟨cs,_,h1,_⟩,h2⟩:=h;cases i with
  | zero =>
   have h3:IntKind.u8.min<=x/\x<=IntKind.u8.max:=h1.2;have e1:IntKind.u8.min=0:=by decide
   have e2:IntKind.u8.max=255:=by decide
   rw[e1,e2] at h3;exact h3
  | succ i=>simpa using P9 xs b _ h2 i (by simpa using hi)
def RA{P:Program}{w:World}{S:Nat->Prop}{O:List Int}{x:Value}(h:tw P w S (.val ⟨.slice (.int .u8),O⟩) x):eS O:=by
 obtain⟨a,cap,_,_,_,_,h5⟩:=(show Rd w S (TV.aK ⟨.slice (.int .u8),O⟩) [x] from h);rcases h5 with h5|⟨b,o,_,_,h5⟩
 .have:O=[]:=List.map_eq_nil_iff.1 h5;subst this;exact λ i h=>by simp at h
 .exact P9 O b o h5
def I2:∀ JK:List TV,JK.map TV.τ=[(.slice (.int .u8)),(.slice (.int .u8))]->gC prog kA (JK.map .val) (·=[⟨.bool,true⟩]):=by
 intro JK h;match JK,h with
 | [⟨t0,a0⟩,⟨t1,a1⟩],h =>
  simp only[b1p,b2k,b0O,b1i] at h;obtain⟨rfl,rfl⟩:=h;intro w S bO hS ha;match bO,ha with
  | [x,y],ha=>exact yp.2 a0 a1 ⟨RA ha.1,RA ha.2.1⟩ w S [x,y] hS ha
end
end Go.Proofs.YtofnjfpeimhifaaGreatDoor

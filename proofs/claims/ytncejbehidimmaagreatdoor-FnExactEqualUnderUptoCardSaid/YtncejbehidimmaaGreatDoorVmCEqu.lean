/- VmDif2, VmDif3, VmEqu, VmCEqu. -/
import Derived.Test.YtncejbehidimmaaGreatDoorVmDif
set_option linter.all false
set_option maxHeartbeats 4000000
set_option maxRecDepth 4000
namespace Go.Proofs.YtncejbehidimmaaGreatDoor
def a7X:=@And.left
def a7Y:=@And.right
noncomputable section
def a4d{xs:List Int}{k:Nat}(h:(k:Int)<(xs.length:Int) - 1 - (k:Int)):((oF xs k).set k ((oF xs k).getD ((xs.length:Int) - 1 - (k:Int)).toNat 0)).set ((xs.length:Int) - 1 - (k:Int)).toNat ((oF xs k).getD k 0)=oF xs (k+1):=by
 have e:((xs.length:Int) - 1 - (k:Int)).toNat=xs.length - 1 - k:=by omega
 rw[e];exact a4c xs (by omega)
def gQ(n:Nat):H4:=⟨nm,[],(.int .i64),λ  (xs:List Int)=>⟨(some (0<n/\xs.length<=1000000),xs.reverse)⟩⟩
def tn:H4:=⟨nm,[],(.int .i64),λ  (xs:List Int)=>⟨(some (xs.length<=1000000),xs.reverse)⟩⟩
def Fh (xs:List Int):Nat->aL:=(eS 0 (.a (Nat) (λ k=>k<=xs.length) (λ k=>xs.length - k) [4,5,6] (λ k=>[(2, .aQ ⟨(.int .i64),((k:Int):Int)⟩),(3, .aQ ⟨(.int .i64),((xs.length:Int) - 1 - (k:Int):Int)⟩),(0, .aC 50)]) [] (λ k=>[(50, .aC (.int .i64) (oF xs k:List Int))])) cB)
abbrev gw(xs:List Int)(k1:Nat):Prop:=(let v2:=(k1:Int);let v0:=(xs.length:Int) - 1 - v2;let v1:=(oF xs k1).set k1 ((oF xs k1).getD (Int.toNat v0) (0:Int));let v3:=(50:Nat);(v3=50/\(v2=v2/\(v3=50/\(v0=v0/\(v3=50/\(v2=v2/\(v3=50/\(v0=v0/\(aE v2 (oF xs k1).length/\(v3=50/\(v0=v0/\(v3=50/\(v0=v0/\(aE v0 v1.length/\(au (v2+(1:Int))/\(au (v0 - (1:Int))/\(∃ k2:Nat,(k2<=xs.length/\(xs.length - k2<xs.length - k1/\((True/\((v2+(1:Int))=(k2:Int)/\((v0 - (1:Int))=((xs.length:Int) - 1 - (k2:Int))/\True)))/\((v1.set (Int.toNat v0) ((oF xs k1).getD k1 (0:Int)))=(oF xs k2)/\True))))))))))))))))))))))
abbrev o8(xs:List Int)(k1:Nat):Prop:=(let v0:=(xs.length:Int) - 1 - (k1:Int);((50:Nat)=50/\((k1:Int)=(k1:Int)/\((50:Nat)=50/\(v0=v0/\((gw xs k1)/\((gw xs k1)/\True)))))))
def Dg(n:Nat)(hT:LN [gQ n]):H4.Good (gQ (n+1)):=by
 refine⟨aD iB,?_⟩;intro  (xs:List Int) (hp:0<n+1/\xs.length<=1000000);refine TG [] [] [] [] [gQ n] [20,21,24,25,26,27] [] [] [] trivial trivial trivial trivial hT iB AI (Fh xs) (let v0:=(xs.length:Int);let v1:=(50:Nat);((au ((v0) - (1:Int))/\((∃ k1:Nat,(k1<=xs.length/\((True/\((0:Int)=(k1:Int)/\(((v0) - (1:Int))=(v0 - 1 - (k1:Int))/\True)))/\(xs=(oF xs k1)/\True))))/\(∀ k1:Nat,let v3:=(k1:Int);let v2:=v0 - 1 - v3;let v4:=oF xs k1;(k1<=xs.length->(((decide (v3<v2))=true->(au v3->(au v2->(au v2->(au v3->(v1=50/\(v3=v3/\(v1=50/\(v2=v2/\(v1=50/\(v2=v2/\(v1=50/\(v3=v3/\((aE v2 v4.length/\(v1=50/\(v3=v3/\(v1=50/\(v2=v2/\(v1=50/\(v3=v3/\((v1=50/\(v3=v3/\(v1=50/\(v2=v2/\(v1=50/\(v3=v3/\(aE v3 v4.length/\(gw xs k1))))))))/\((aE v3 v4.length/\(o8 xs k1))/\True)))))))))/\((aE v3 v4.length/\(v1=50/\(v3=v3/\(v1=50/\(v2=v2/\(v1=50/\(v2=v2/\((aE v2 v4.length/\(o8 xs k1))/\((v1=50/\(v3=v3/\(v1=50/\(v2=v2/\(v1=50/\(v2=v2/\(aE v2 v4.length/\(gw xs k1))))))))/\True)))))))))/\True)))))))))))))))/\((decide (v3<v2))=false->v4=xs.reverse)))))))) ?_;refine⟨?_,⟨0,?_,⟨af,?_,?_,af⟩,?_,af⟩,λ k1 _=>⟨λ _ _ _ _ _=>⟨?_,rfl,?_,rfl,?_,rfl,?_,rfl,⟨?_,?_,rfl,?_,rfl,?_,rfl,⟨?_,rfl,?_,rfl,?_,rfl,?_,?_,rfl,?_,rfl,?_,rfl,?_,rfl,?_,?_,rfl,?_,rfl,?_,?_,?_,k1+1,?_,?_,⟨af,?_,?_,af⟩,?_,af⟩,⟨?_,?_,rfl,?_,rfl,⟨?_,rfl,?_,rfl,?_,rfl,?_,rfl,?_,?_,rfl,?_,rfl,?_,?_,?_,k1+1,?_,?_,⟨af,?_,?_,af⟩,?_,af⟩,⟨?_,rfl,?_,rfl,?_,rfl,?_,rfl,?_,?_,rfl,?_,rfl,?_,?_,?_,k1+1,?_,?_,⟨af,?_,?_,af⟩,?_,af⟩,af⟩,af⟩,⟨?_,?_,rfl,?_,rfl,?_,rfl,⟨?_,?_,rfl,?_,rfl,⟨?_,rfl,?_,rfl,?_,rfl,?_,rfl,?_,?_,rfl,?_,rfl,?_,?_,?_,k1+1,?_,?_,⟨af,?_,?_,af⟩,?_,af⟩,⟨?_,rfl,?_,rfl,?_,rfl,?_,rfl,?_,?_,rfl,?_,rfl,?_,?_,?_,k1+1,?_,?_,⟨af,?_,?_,af⟩,?_,af⟩,af⟩,⟨?_,rfl,?_,rfl,?_,rfl,?_,?_,rfl,?_,rfl,?_,rfl,?_,rfl,?_,?_,rfl,?_,rfl,?_,?_,?_,k1+1,?_,?_,⟨af,?_,?_,af⟩,?_,af⟩,af⟩,af⟩,λ _=>?_⟩⟩;all_goals try and_intros
 all_goals (try simp only[a7V,a8e,a7D,a7C,aE,au,bB,cN,a8t,a9p,a8C,b0j,a8x,a8s,a8j,a9m,pg,a7K,a7I,a7T,a8A] at *);first|done|with_reducible assumption|omega|with_reducible rfl|exact trivial|exact a4b xs|exact Tg xs (by omega)|exact (Tg xs (by omega)).symm|exact a6I (by omega) (by with_reducible assumption)|exact a4d (by omega)
def oV:∀ n,LN [gQ n]
 | 0=>⟨⟨aD iB,λ _ h=>absurd h.1 (a8a _)⟩,af⟩
 | n+1=>⟨Dg n (oV n),af⟩
def Ar:H4.Good tn :=
 ⟨aD iB,λ xs hp=>(oV (0+1)).1.2 xs (⟨a7M _,hp⟩)⟩
structure DnI(a b:U)(i:Nat):Prop where
 h0:FF a ((cQ a b).getD i (ae.mk (ar.mk (0:Int) (0:Int)) (0:Int) (0:Int) (0:Int))).pair.a0 0
 fr:WB (cQ a b)
def a1X{a b:U}(h:AB a b){i t:Nat}(hi:i<(cQ a b).length)(ht:t<mK a):FF a ((cQ a b).getD i (ae.mk (ar.mk (0:Int) (0:Int)) (0:Int) (0:Int) (0:Int))).pair.a0 (t:Int):=by
 have q:=(LG h).get hi;exact⟨h.ka,q.1.1,q.1.2,by omega,by omega⟩
def a1Y{a b:U}(h:AB a b){i t:Nat}(hi:i<(cQ a b).length)(ht:t<mK a):FF b ((cQ a b).getD i (ae.mk (ar.mk (0:Int) (0:Int)) (0:Int) (0:Int) (0:Int))).pair.a1 (t:Int):=by
 have q:=(LG h).get hi;have e:mK b=mK a:=by simp only[mK,h.ks]
 exact⟨h.kb,q.2.1,q.2.2,by omega,by omega⟩
def VJ{a b:U}(h:AB a b):(cQ a b).length<=3721:=(QK h).n
def a3o{a b:U}{i t:Nat}(e:me a ((cQ a b).getD i (ae.mk (ar.mk (0:Int) (0:Int)) (0:Int) (0:Int) (0:Int))).pair.a0 (t:Int)=me b ((cQ a b).getD i (ae.mk (ar.mk (0:Int) (0:Int)) (0:Int) (0:Int) (0:Int))).pair.a1 (t:Int)):OD a b ((cQ a b).getD i (ae.mk (ar.mk (0:Int) (0:Int)) (0:Int) (0:Int) (0:Int))) t:=e
def a4W{a b:U}{i t:Nat}(h:oS a b i t)(hi:i<(cQ a b).length)(ht:t<mK a)(e:¬ me a ((cQ a b).getD i (ae.mk (ar.mk (0:Int) (0:Int)) (0:Int) (0:Int) (0:Int))).pair.a0 (t:Int)=me b ((cQ a b).getD i (ae.mk (ar.mk (0:Int) (0:Int)) (0:Int) (0:Int) (0:Int))).pair.a1 (t:Int)):As a b (i,t):=⟨h,hi,ht,e⟩
def a4Z{a b:U}{i t:Nat}(h:As a b (i,t)){xs ys:List Int}(e:xs=(t:Int)::H9 (cQ a b) (i+1) i)(k:ys=Ia (cQ a b) (i+1) i):gS.mk xs.reverse ys.reverse=gS.mk (Qv a b) (Qw a b):=by rw[<-a5a h e,<-a5b h k]
def a5f{a b:U}(h:uB a b=true):gS.mk [] []=gS.mk (Qv a b) (Qw a b):=by rw[<-a5g h,<-a5h h]
def qZ:aW:=⟨tw,[.v (.st .automaton), .v (.st .automaton)],λ (a:U) (b:U)=>⟨(some (AB a b),[⟨(.st .word),gS.mk (Qv a b) (Qw a b)⟩,⟨.bool,Ub a b⟩,⟨.bool,OB a b⟩])⟩⟩
def Df(a:U)(b:U):Nat->aL:=(eS 0 (.mk (Nat) (λ i=>oS a b i 0) (λ i=>(cQ a b).length - i) [] [0,1,14,15,16] (λ i=>[(19, .aQ ⟨(.int .i64),((i:Int):Int)⟩)]) [4] (λ i=>[]) [] [] (λ i=>(eS 2 (.mk (Nat) (λ t=>oS a b i t/\i<(cQ a b).length) (λ t=>mK a - t) [] [20,21,22,23,24,25] (λ t=>[(27, .aQ ⟨(.int .i64),((t:Int):Int)⟩)]) [4,9] (λ t=>[]) [] [] (λ t=>(eS 4 (.a (Ko) (λ v=>zU (cQ a b) i (t:Int) v/\As a b (i,t)) (λ v=>v.k) [2,3,8,9,10,17,18,19,26,27,28,29,30,31,32,33,34,35,36,37,38,39,40,41,42,43,44,45,46,47] (λ v=>[(13, .aQ ⟨(.int .i64),((v.k:Int):Int)⟩)]) [4,9] (λ v=>[(12, .box [.aC 9000, .aC 9100]),(9000, .aC (.int .i64) (v.xs:List Int)),(9100, .aC (.int .i64) (v.ys:List Int))])) cB))) cB))) cB)
abbrev An(a:U)(b:U)(i1:Nat):Prop:=(let v0:=(cQ a b).getD i1 (ae.mk (ar.mk (0:Int) (0:Int)) (0:Int) (0:Int) (0:Int));((v0.pair.a0=v0.pair.a0/\(v0.pair.a1=v0.pair.a1/\(v0.mJ=v0.mJ/\(v0.atom=v0.atom/\(v0.act=v0.act/\True)))))/\((True/\(True/\True))/\True)))
def yI:aW.Ax qZ:=by
 refine⟨aD qN,?_⟩;intro (a:U) (b:U) (hp:AB a b);refine S5 [DC,iV,zm] [] [] [] [tn] [45,66,67,76,77,81,84] [] [] [2,3] ⟨Iv,iF,Ez,af⟩ trivial trivial trivial ⟨Ar,af⟩ qN zY (Df a b) (let v1:=cQ a b;let v2:=(v1.length:Int);let v5:=True/\(True/\True);let v6:=bA a.sig;let v7:=(0:Int);let v0:=ae.mk (ar.mk v7 v7) v7 v7 v7;let v8:=(12:Nat)=12/\(0:Nat)=0;let v9:=(12:Nat)=12/\(1:Nat)=1;((AB a b/\(v1.length<=140737488355328->(au v2->((∃ i1:Nat,(oS a b i1 0/\((a=a/\(b=b/\(True/\(v1=v1/\(v1=v1/\(v2=v2/\(v7=(i1:Int)/\True)))))))/\(v5/\True))))/\(∀ i1:Nat,let va:=v1.getD i1 v0;let vb:=(i1:Int);let vc:=An a b i1;(oS a b i1 0->(((decide (vb<v2))=true->(aE vb v1.length/\((0<=a.sig.aS/\a.sig.aS<=3)/\(au v6->((∃ t2:Nat,((oS a b i1 t2/\i1<v1.length)/\((a=a/\(b=b/\(True/\(v1=v1/\(vb=vb/\(True/\(v1=v1/\(v2=v2/\(vb=vb/\(v6=v6/\(v7=(t2:Int)/\True)))))))))))/\vc)))/\(∀ t2:Nat,let ve:=(t2:Int);let vd:=me a va.pair.a0 ve;((oS a b i1 t2/\i1<v1.length)->(((decide (ve<v6))=true->(au va.pair.a0->(FF a va.pair.a0 ve/\(au va.pair.a1->(FF b va.pair.a1 ve/\(((vd == (me b va.pair.a1 ve))=true->(au (ve+(1:Int))/\(∃ t3:Nat,((oS a b i1 t3/\i1<v1.length)/\(mK a - t3<mK a - t2/\((a=a/\(b=b/\(True/\(v1=v1/\(vb=vb/\(True/\(v1=v1/\(v2=v2/\(vb=vb/\(v6=v6/\((ve+(1:Int))=(t3:Int)/\True)))))))))))/\vc))))))/\((vd == (me b va.pair.a1 ve))=false->((∃ v3:Ko,((zU v1 i1 ve v3/\As a b (i1,t2))/\((True/\(v1=v1/\(vd=vd/\(True/\(vb=(v3.k:Int)/\True)))))/\(v5/\(([ve])=v3.xs/\(v3.ys=[]/\vc))))))/\(∀ v3:Ko,let vg:=(v3.k:Int);let vf:=v1.getD (Int.toNat vg) v0;((zU v1 i1 ve v3/\As a b (i1,t2))->(aE vg v1.length/\(au vf.mJ->(((decide (v7<=vf.mJ))=true->(v1.length<=140737488355328->(au vg->(aE vg v1.length/\(au vf.atom->(v8/\((9000:Nat)=9000/\(v1=v1/\(vg=vg/\(aE vg v1.length/\(vf=vf/\(vf.atom=vf.atom/\(vf.atom=vf.atom/\(v8/\((9000:Nat)=9000/\(bB (v3.xs.length+([vf.atom]).length) 8/\(v1.length<=140737488355328->(au vg->(aE vg v1.length/\(au vf.act->(v9/\((9100:Nat)=9100/\(v1=v1/\(vg=vg/\(aE vg v1.length/\(vf=vf/\(vf.act=vf.act/\(vf.act=vf.act/\(v9/\((9100:Nat)=9100/\(bB (v3.ys.length+([vf.act]).length) 8/\(aE vg v1.length/\(au vf.mJ->(∃ v4:Ko,((zU v1 i1 ve v4/\As a b (i1,t2))/\(v4.k<v3.k/\((True/\(v1=v1/\(vd=vd/\(True/\(vf.mJ=(v4.k:Int)/\True)))))/\(v5/\((v3.xs++([vf.atom]))=v4.xs/\((v3.ys++([vf.act]))=v4.ys/\vc))))))))))))))))))))))))))))))))))))))))/\((decide (v7<=vf.mJ))=false->(v3.xs.length<=1000000/\(v3.ys.length<=1000000/\((gS.mk (v3.xs.reverse) (v3.ys.reverse))=(gS.mk (Qv a b) (Qw a b))/\(vd=(Ub a b)/\true=(OB a b)))))))))))))))))))/\((decide (ve<v6))=false->(au (vb+(1:Int))/\(∃ i3:Nat,(oS a b i3 0/\(v1.length - i3<v1.length - i1/\((a=a/\(b=b/\(True/\(v1=v1/\(v1=v1/\(v2=v2/\((vb+(1:Int))=(i3:Int)/\True)))))))/\(v5/\True)))))))))))))))/\((decide (vb<v2))=false->((gS.mk [] [])=(gS.mk (Qv a b) (Qw a b))/\(false=(Ub a b)/\false=(OB a b))))))))))))) ?_;have ha:=hp.ka;have hb:=hp.kb;have n1:(bA a.sig)=(mK a:Int):=ha.lens.2.2.2.1.symm;have n4:=(dW a.sig).1 ha.s;have n5:=ha.lens;have n6:=VJ hp;refine⟨?_,λ a0 a1=>⟨⟨0,?_,⟨rfl,rfl,af,rfl,rfl,rfl,?_,af⟩,⟨af,af,af⟩,af⟩,λ i1 _=>⟨λ _=>⟨?_,?_,λ _=>⟨⟨0,?_,⟨rfl,rfl,af,rfl,rfl,af,rfl,rfl,rfl,rfl,?_,af⟩,⟨rfl,rfl,rfl,rfl,rfl,af⟩,⟨af,af,af⟩,af⟩,λ t2 _=>⟨λ _ _=>⟨?_,λ _=>⟨?_,λ _=>⟨?_,t2+1,?_,?_,⟨rfl,rfl,af,rfl,rfl,af,rfl,rfl,rfl,rfl,?_,af⟩,⟨rfl,rfl,rfl,rfl,rfl,af⟩,⟨af,af,af⟩,af⟩,λ _=>⟨⟨(Ko.mk i1 [(t2:Int)] []),?_,⟨af,rfl,rfl,af,?_,af⟩,⟨af,af,af⟩,?_,?_,⟨rfl,rfl,rfl,rfl,rfl,af⟩,⟨af,af,af⟩,af⟩,λ v3 _=>⟨?_,λ _=>⟨λ _ _ _=>⟨?_,λ _=>⟨⟨?_,?_⟩,?_,rfl,rfl,?_,rfl,rfl,rfl,⟨?_,?_⟩,?_,?_,λ _ _=>⟨?_,λ _=>⟨⟨?_,?_⟩,?_,rfl,rfl,?_,rfl,rfl,rfl,⟨?_,?_⟩,?_,?_,?_,λ _=>⟨(Ko.mk ((cQ a b).getD v3.k (ae.mk (ar.mk (0:Int) (0:Int)) (0:Int) (0:Int) (0:Int))).mJ.toNat (v3.xs++[((cQ a b).getD v3.k (ae.mk (ar.mk (0:Int) (0:Int)) (0:Int) (0:Int) (0:Int))).atom]) (v3.ys++[((cQ a b).getD v3.k (ae.mk (ar.mk (0:Int) (0:Int)) (0:Int) (0:Int) (0:Int))).act])),?_,?_,⟨af,rfl,rfl,af,?_,af⟩,⟨af,af,af⟩,?_,?_,⟨rfl,rfl,rfl,rfl,rfl,af⟩,⟨af,af,af⟩,af⟩⟩⟩⟩⟩,λ _=>⟨?_,?_,?_,?_,?_⟩⟩⟩⟩⟩⟩,λ _=>⟨?_,i1+1,?_,?_,⟨rfl,rfl,af,rfl,rfl,rfl,?_,af⟩,⟨af,af,af⟩,af⟩⟩⟩⟩,λ _=>⟨?_,?_,?_⟩⟩⟩⟩;all_goals try and_intros
 all_goals (try simp only[a7V,a8e,a7D,a7C,aE,au,bB,cN,a8t,a9p,a8C,b0j,a8x,a8s,a8j,a9m,b1I,a7K,a7I,a7T,a8A] at *);first|done|with_reducible assumption|omega|with_reducible rfl|exact trivial|exact oS.first a b|exact a1X hp (by omega) (by omega)|exact a1Y hp (by omega) (by omega)|exact oS.step (a7X (by with_reducible assumption)) (by omega) (a3o (by with_reducible assumption))|exact oS.row (a7X (by with_reducible assumption)) (by omega) (by omega)|exact zU.first (QK hp) (by omega) _|exact a4W (a7X (by with_reducible assumption)) (by omega) (by omega) (by with_reducible assumption)|(have q0:=a7X (a:=zU (cQ a b) i1 (t2:Int) v3) (by with_reducible assumption);have q1:=q0.hi;have q2:=q0.hk;have q3:=q0.nx;have q4:=q0.ny;have q5:=(QK hp).f v3.k (by omega);omega)|exact zU.UU (QK hp) (a7X (by with_reducible assumption)) (by with_reducible assumption)|exact a7Y (by with_reducible assumption)|exact a4Z (a7Y (by with_reducible assumption)) (zU.a3q (a7X (by with_reducible assumption)) (by omega)) (zU.a3r (a7X (by with_reducible assumption)) (by omega))|exact a4Y (a7Y (by with_reducible assumption))|exact a4X (a7Y (by with_reducible assumption))|exact a5f (oS.done (by with_reducible assumption) (by omega))|exact a5e (oS.done (by with_reducible assumption) (by omega))|exact a5d (oS.done (by with_reducible assumption) (by omega))
noncomputable def gE(gg:aG)(e f:J):Int:=if dP gg e=true/\dP gg f=true then (if dC gg e=0 then dC gg f else dC gg e) else 1
noncomputable def x8(gg:aG)(e f:J):U:=if gE gg e f=0 then iS gg e else (U.mk (aG.mk (0:Int) (0:Int)) [] [])
noncomputable def x9(gg:aG)(e f:J):U:=if gE gg e f=0 then iS gg f else (U.mk (aG.mk (0:Int) (0:Int)) [] [])
noncomputable def Aa(gg:aG)(e f:J):U:=if dP gg e=true/\dP gg f=true then iS gg e else (U.mk (aG.mk (0:Int) (0:Int)) [] [])
noncomputable def Ab(gg:aG)(e f:J):U:=if dP gg e=true/\dP gg f=true then (if dC gg e=0 then iS gg f else iS gg e) else (U.mk (aG.mk (0:Int) (0:Int)) [] [])
def Hq(gg:aG)(e f:J):(cE (fR gg) [e,f]&&ca gg)=(dP gg e&&dP gg f):=by
 simp only[cE,dP];cases ca gg<;>cases fR gg e<;>cases fR gg f<;>rfl
structure BoN(gg:aG)(e f:J):Prop where
 c:1=gE gg e f
 x:(U.mk (aG.mk (0:Int) (0:Int)) [] [])=x8 gg e f
 y:(U.mk (aG.mk (0:Int) (0:Int)) [] [])=x9 gg e f
 xs:(U.mk (aG.mk (0:Int) (0:Int)) [] [])=Aa gg e f
 ys:(U.mk (aG.mk (0:Int) (0:Int)) [] [])=Ab gg e f
def Dn{gg:aG}{e f:J}(h:¬ (dP gg e=true/\dP gg f=true)):BoN gg e f:=by
 have c:gE gg e f=1:=by rw[gE,a7z h]
 exact⟨c.symm,by rw[x8,c];rfl,by rw[x9,c];rfl,by rw[Aa,a7z h],by rw[Ab,a7z h]⟩
structure BoM(gg:aG)(e f:J):Prop where
 c:dC gg e=gE gg e f
 x:(U.mk (aG.mk (0:Int) (0:Int)) [] [])=x8 gg e f
 y:(U.mk (aG.mk (0:Int) (0:Int)) [] [])=x9 gg e f
 xs:iS gg e=Aa gg e f
 ys:iS gg e=Ab gg e f
def mw{gg:aG}{e f:J}(h:dP gg e=true)(k:dP gg f=true)(m:¬ dC gg e=0):BoM gg e f:=by
 have c:gE gg e f=dC gg e:=by rw[gE,a7E ⟨h,k⟩,a7z m]
 have d:¬ gE gg e f=0:=by rw[c];exact m
 exact⟨c.symm,by rw[x8,a7z d],by rw[x9,a7z d],by rw[Aa,a7E ⟨h,k⟩],by rw[Ab,a7E ⟨h,k⟩,a7z m]⟩
structure BoF(gg:aG)(e f:J):Prop where
 c:dC gg f=gE gg e f
 xs:iS gg e=Aa gg e f
 ys:iS gg f=Ab gg e f
def y6{gg:aG}{e f:J}(h:dP gg e=true)(k:dP gg f=true)(m:dC gg e=0):BoF gg e f:=⟨by rw[gE,a7E ⟨h,k⟩,a7E m],by rw[Aa,a7E ⟨h,k⟩],by rw[Ab,a7E ⟨h,k⟩,a7E m]⟩
def Qp{gg:aG}{e f:J}(h:dP gg e=true)(k:dP gg f=true)(m:dC gg e=0)(n:¬ dC gg f=0):(U.mk (aG.mk (0:Int) (0:Int)) [] [])=x8 gg e f/\(U.mk (aG.mk (0:Int) (0:Int)) [] [])=x9 gg e f:=by
 have d:¬ gE gg e f=0:=by rw[<-(y6 h k m).c];exact n
 exact⟨by rw[x8,a7z d],by rw[x9,a7z d]⟩
def Ib{gg:aG}{e f:J}(h:dP gg e=true)(k:dP gg f=true)(m:dC gg e=0)(n:dC gg f=0):(0=gE gg e f/\iS gg e=x8 gg e f)/\iS gg f=x9 gg e f:=by
 have d:gE gg e f=0:=by rw[<-(y6 h k m).c];exact n
 exact⟨⟨d.symm,by rw[x8,a7E d]⟩,by rw[x9,a7E d]⟩
structure BoK(gg:aG)(e f:J):Prop where
 s:dP gg e=true
 t:dP gg f=true
 a:dC gg e=0
 b:dC gg f=0
def Yg{gg:aG}{e f:J}(h:gE gg e f=0):BoK gg e f:=by
 unfold gE at h;split at h
 .rename_i w;split at h
  .rename_i u;exact⟨w.1,w.2,u,h⟩
  .exact absurd h (by assumption)
 .exact absurd h (by decide)
def VC{gg:aG}{e:J}(h:dC gg e=0):(iS gg e).sig=gg:=by rw[iS,a7E h]
def Ye{gg:aG}{e f:J}(h:gE gg e f=0):AB (iS gg e) (iS gg f):=by
 have k:=Yg h;have q:=oP k.s;have r:=oP k.t;exact⟨X5 q.s q.g q.n k.a,X5 r.s r.g r.n k.b,by rw[VC k.a,VC k.b]⟩
def Yd{gg:aG}{e f:J}(h:gE gg e f=0):AB (x8 gg e f) (x9 gg e f):=by rw[x8,x9,a7E h,a7E h];exact Ye h
def Qo{gg:aG}{e f:J}(h:gE gg e f=0):AB (Aa gg e f) (Ab gg e f):=by
 have k:=Yg h;rw[<-(y6 k.s k.t k.a).xs,<-(y6 k.s k.t k.a).ys];exact Ye h
def Yf{gg:aG}{e f:J}(h:gE gg e f=0):AB (Ab gg e f) (Aa gg e f):=(Qo h).sw
noncomputable def yg(gg:aG)(e f:J):Bool:=if gE gg e f=0 then uB (iS gg e) (iS gg f) else false
def a1Z{gg:aG}{e f:J}(h:¬ gE gg e f=0):false=yg gg e f:=by rw[yg,a7z h]
def a2a{gg:aG}{e f:J}(h:gE gg e f=0):(!OB (x8 gg e f) (x9 gg e f))=yg gg e f:=by rw[yg,a7E h,x8,x9,a7E h,a7E h,OB,Bool.not_not]
def a2b{gg:aG}{e f:J}(h:gE gg e f=0):(Ca (Aa gg e f) (Ab gg e f)&&Ca (Ab gg e f) (Aa gg e f))=yg gg e f:=by
 have k:=Yg h;rw[a0I (Qo h),yg,a7E h,<-(y6 k.s k.t k.a).xs,<-(y6 k.s k.t k.a).ys]
def Yr{gg:aG}{e f:J}(h:gE gg e f=0)(w:Ca (Aa gg e f) (Ab gg e f)=true):Ca (Ab gg e f) (Aa gg e f)=yg gg e f:=by rw[<-a2b h,w,b0u]
def Yq{gg:aG}{e f:J}(h:gE gg e f=0)(w:Ca (Aa gg e f) (Ab gg e f)=false):false=yg gg e f:=by rw[<-a2b h,w,b1u]
def pb:aW:=⟨pd,[.v (.st .sig), .v (.st .expr), .v (.st .expr)],λ (gg:aG) (e:J) (f:J)=>⟨(none,[⟨(.st .automaton),x8 gg e f⟩,⟨(.st .automaton),x9 gg e f⟩,⟨(.int .i64),gE gg e f⟩])⟩⟩
def Bx(gg:aG)(e:J)(f:J):Nat->aL:=cB
abbrev nc(gg:aG)(f:J):Prop:=(let v0:=iS gg f;(v0.sig.aS=v0.sig.aS/\(v0.sig.av=v0.sig.av/\(v0.accept=v0.accept/\(v0.next=v0.next/\True)))))
def wZ:aW.Good pb:=by
 refine⟨aD nI,?_⟩;intro (gg:aG) (e:J) (f:J) _;refine aV [mi,qY] [] [] [3,4,5] ⟨nJ,yp,af⟩ nI wO (Bx gg e f) (let v1:=iS gg e;let v2 := !(cE (fR gg) ([e,f])&&ca gg);let v3:=(0:Int);let v0:=U.mk (aG.mk v3 v3) [] [];(((v2=true->(v0=(x8 gg e f)/\(v0=(x9 gg e f)/\(1:Int)=(gE gg e f))))/\(v2=false->((ca gg=true/\aB e=true/\aj e<=1000)/\(au (dC gg e)->(((!(decide ((dC gg e)=v3)))=true->(v0=(x8 gg e f)/\(v0=(x9 gg e f)/\(dC gg e)=(gE gg e f))))/\((!(decide ((dC gg e)=v3)))=false->((ca gg=true/\aB f=true/\aj f<=1000)/\(au (dC gg f)->(((!(decide ((dC gg f)=v3)))=true->(v0=(x8 gg e f)/\(v0=(x9 gg e f)/\(dC gg f)=(gE gg e f))))/\((!(decide ((dC gg f)=v3)))=false->((v1.sig.aS=v1.sig.aS/\(v1.sig.av=v1.sig.av/\(v1.accept=v1.accept/\(v1.next=v1.next/\True))))/\((nc gg f)/\((nc gg f)/\(v1=(x8 gg e f)/\((iS gg f)=(x9 gg e f)/\v3=(gE gg e f)))))))))))))))))) ?_;refine⟨λ _=>⟨?_,?_,?_⟩,λ _=>⟨?_,λ _=>⟨λ _=>⟨?_,?_,?_⟩,λ _=>⟨?_,λ _=>⟨λ _=>⟨?_,?_,?_⟩,λ _=>⟨⟨rfl,rfl,rfl,rfl,?_⟩,⟨rfl,rfl,rfl,rfl,?_⟩,⟨rfl,rfl,rfl,rfl,?_⟩,?_,?_,?_⟩⟩⟩⟩⟩⟩;all_goals try and_intros
 all_goals (try simp only[a7V,a8e,a7H,b0w,a7D,a7C,b0v,b0j,a8j,a9m,Decidable.not_not,Hq] at *);first|done|with_reducible assumption|with_reducible rfl|exact trivial|exact (mw (a7X (by with_reducible assumption)) (a7Y (by with_reducible assumption)) (by with_reducible assumption)).c|exact (mw (by with_reducible assumption) (by with_reducible assumption) (by with_reducible assumption)).c|exact (mw (a7X (by with_reducible assumption)) (a7Y (by with_reducible assumption)) (by with_reducible assumption)).x|exact (mw (by with_reducible assumption) (by with_reducible assumption) (by with_reducible assumption)).x|exact (mw (a7X (by with_reducible assumption)) (a7Y (by with_reducible assumption)) (by with_reducible assumption)).y|exact (mw (by with_reducible assumption) (by with_reducible assumption) (by with_reducible assumption)).y|exact (mw (a7X (by with_reducible assumption)) (a7Y (by with_reducible assumption)) (by with_reducible assumption)).xs|exact (mw (by with_reducible assumption) (by with_reducible assumption) (by with_reducible assumption)).xs|exact (mw (a7X (by with_reducible assumption)) (a7Y (by with_reducible assumption)) (by with_reducible assumption)).ys|exact (mw (by with_reducible assumption) (by with_reducible assumption) (by with_reducible assumption)).ys|exact (y6 (by first|exact a7X (by with_reducible assumption)|exact a7Y (by with_reducible assumption)|with_reducible assumption) (by first|exact a7X (by with_reducible assumption)|exact a7Y (by with_reducible assumption)|with_reducible assumption) (by with_reducible assumption)).c|exact (y6 (by first|exact a7X (by with_reducible assumption)|exact a7Y (by with_reducible assumption)|with_reducible assumption) (by first|exact a7X (by with_reducible assumption)|exact a7Y (by with_reducible assumption)|with_reducible assumption) (by with_reducible assumption)).xs|exact (y6 (by first|exact a7X (by with_reducible assumption)|exact a7Y (by with_reducible assumption)|with_reducible assumption) (by first|exact a7X (by with_reducible assumption)|exact a7Y (by with_reducible assumption)|with_reducible assumption) (by with_reducible assumption)).ys|exact (Qp (by first|exact a7X (by with_reducible assumption)|exact a7Y (by with_reducible assumption)|with_reducible assumption) (by first|exact a7X (by with_reducible assumption)|exact a7Y (by with_reducible assumption)|with_reducible assumption) (by with_reducible assumption) (by with_reducible assumption)).1|exact (Qp (by first|exact a7X (by with_reducible assumption)|exact a7Y (by with_reducible assumption)|with_reducible assumption) (by first|exact a7X (by with_reducible assumption)|exact a7Y (by with_reducible assumption)|with_reducible assumption) (by with_reducible assumption) (by with_reducible assumption)).2|exact (Ib (by first|exact a7X (by with_reducible assumption)|exact a7Y (by with_reducible assumption)|with_reducible assumption) (by first|exact a7X (by with_reducible assumption)|exact a7Y (by with_reducible assumption)|with_reducible assumption) (by with_reducible assumption) (by with_reducible assumption)).1.1|exact (Ib (by first|exact a7X (by with_reducible assumption)|exact a7Y (by with_reducible assumption)|with_reducible assumption) (by first|exact a7X (by with_reducible assumption)|exact a7Y (by with_reducible assumption)|with_reducible assumption) (by with_reducible assumption) (by with_reducible assumption)).1.2|exact (Ib (by first|exact a7X (by with_reducible assumption)|exact a7Y (by with_reducible assumption)|with_reducible assumption) (by first|exact a7X (by with_reducible assumption)|exact a7Y (by with_reducible assumption)|with_reducible assumption) (by with_reducible assumption) (by with_reducible assumption)).2|exact (Dn (by rintro⟨q1,q2⟩;simp_all)).c|exact (Dn (by rintro⟨q1,q2⟩;simp_all)).x|exact (Dn (by rintro⟨q1,q2⟩;simp_all)).y|exact (Dn (by rintro⟨q1,q2⟩;simp_all)).xs|exact (Dn (by rintro⟨q1,q2⟩;simp_all)).ys|exact (oP (by first|exact a7X (by with_reducible assumption)|exact a7Y (by with_reducible assumption)|with_reducible assumption)).s|exact (oP (by first|exact a7X (by with_reducible assumption)|exact a7Y (by with_reducible assumption)|with_reducible assumption)).g|exact (oP (by first|exact a7X (by with_reducible assumption)|exact a7Y (by with_reducible assumption)|with_reducible assumption)).n
def zC:aW:=⟨zP,[.v (.st .sig), .r (.st .expr), .r (.st .expr)],λ (gg:aG) (e:J) (f:J)=>⟨(none,[⟨(.st .automaton),Aa gg e f⟩,⟨(.st .automaton),Ab gg e f⟩,⟨(.int .i64),gE gg e f⟩])⟩⟩
def La(gg:aG)(e:J)(f:J):Nat->aL:=cB
abbrev u7(gg:aG)(e:J)(f:J):Prop:=(let v0:=U.mk (aG.mk (0:Int) (0:Int)) [] [];(v0=(Aa gg e f)/\(v0=(Ab gg e f)/\(1:Int)=(gE gg e f))))
abbrev Hc(gg:aG)(e:J):Prop:=(let v0:=iS gg e;(v0.sig.aS=v0.sig.aS/\(v0.sig.av=v0.sig.av/\(v0.accept=v0.accept/\(v0.next=v0.next/\True)))))
abbrev u9(gg:aG)(f:J):Prop:=(let v0:=iS gg f;(v0.sig.aS=v0.sig.aS/\(v0.sig.av=v0.sig.av/\(v0.accept=v0.accept/\(v0.next=v0.next/\True)))))
abbrev vr(gg:aG)(e:J)(f:J):Prop:=(let v0:=dC gg e;let v1:=dC gg f;let v2:=Hc gg e;((ca gg=true/\aB e=true/\aj e<=1000)/\(au v0 ->
 (((!(decide (v0=(0:Int))))=true ->
 (au v0 ->
 (v2/\(v2/\(v0=v0/\(v2/\(v0=v0/\(v0=v0/\((iS gg e)=(Aa gg e f)/\((iS gg e)=(Ab gg e f)/\v0=(gE gg e f)))))))))))/\((!(decide (v0=(0:Int))))=false ->
 ((ca gg=true/\aB f=true/\aj f<=1000)/\(au v1 ->
 (au v1 ->
 (v2/\((u9 gg f)/\(v1=v1/\((u9 gg f)/\(v1=v1/\(v1=v1/\((iS gg e)=(Aa gg e f)/\((iS gg f)=(Ab gg e f)/\v1=(gE gg e f)))))))))))))))))
def ET:aW.Good zC:=by
 refine⟨aD wN,?_⟩;intro (gg:aG) (e:J) (f:J) _;refine aV [wh,zA] [] [] [3] ⟨xb,EP,af⟩ wN Eu (La gg e f) ((((!(dP gg e))=false->(((!(dP gg f))=true->(u7 gg e f))/\((!(dP gg f))=false->(vr gg e f))))/\((!(dP gg e))=(!false)->((true=true->(u7 gg e f))/\(true=false->(vr gg e f)))))) ?_;refine⟨λ _=>⟨λ _=>⟨?_,?_,?_⟩,λ _=>⟨?_,λ _=>⟨λ _ _=>⟨⟨rfl,rfl,rfl,rfl,?_⟩,⟨rfl,rfl,rfl,rfl,?_⟩,rfl,⟨rfl,rfl,rfl,rfl,?_⟩,rfl,rfl,?_,?_,?_⟩,λ _=>⟨?_,λ _ _=>⟨⟨rfl,rfl,rfl,rfl,?_⟩,⟨rfl,rfl,rfl,rfl,?_⟩,rfl,⟨rfl,rfl,rfl,rfl,?_⟩,rfl,rfl,?_,?_,?_⟩⟩⟩⟩⟩,λ _=>⟨λ _=>⟨?_,?_,?_⟩,λ _=>⟨?_,λ _=>⟨λ _ _=>⟨⟨rfl,rfl,rfl,rfl,?_⟩,⟨rfl,rfl,rfl,rfl,?_⟩,rfl,⟨rfl,rfl,rfl,rfl,?_⟩,rfl,rfl,?_,?_,?_⟩,λ _=>⟨?_,λ _ _=>⟨⟨rfl,rfl,rfl,rfl,?_⟩,⟨rfl,rfl,rfl,rfl,?_⟩,rfl,⟨rfl,rfl,rfl,rfl,?_⟩,rfl,rfl,?_,?_,?_⟩⟩⟩⟩⟩⟩;all_goals try and_intros
 all_goals (try simp only[a7V,a8e,a7H,b0w,a7D,a7C,b0v,b0j,a8j,a9m,Decidable.not_not,Hq] at *);first|done|with_reducible assumption|with_reducible rfl|exact trivial|exact (mw (a7X (by with_reducible assumption)) (a7Y (by with_reducible assumption)) (by with_reducible assumption)).c|exact (mw (by with_reducible assumption) (by with_reducible assumption) (by with_reducible assumption)).c|exact (mw (a7X (by with_reducible assumption)) (a7Y (by with_reducible assumption)) (by with_reducible assumption)).x|exact (mw (by with_reducible assumption) (by with_reducible assumption) (by with_reducible assumption)).x|exact (mw (a7X (by with_reducible assumption)) (a7Y (by with_reducible assumption)) (by with_reducible assumption)).y|exact (mw (by with_reducible assumption) (by with_reducible assumption) (by with_reducible assumption)).y|exact (mw (a7X (by with_reducible assumption)) (a7Y (by with_reducible assumption)) (by with_reducible assumption)).xs|exact (mw (by with_reducible assumption) (by with_reducible assumption) (by with_reducible assumption)).xs|exact (mw (a7X (by with_reducible assumption)) (a7Y (by with_reducible assumption)) (by with_reducible assumption)).ys|exact (mw (by with_reducible assumption) (by with_reducible assumption) (by with_reducible assumption)).ys|exact (y6 (by first|exact a7X (by with_reducible assumption)|exact a7Y (by with_reducible assumption)|with_reducible assumption) (by first|exact a7X (by with_reducible assumption)|exact a7Y (by with_reducible assumption)|with_reducible assumption) (by with_reducible assumption)).c|exact (y6 (by first|exact a7X (by with_reducible assumption)|exact a7Y (by with_reducible assumption)|with_reducible assumption) (by first|exact a7X (by with_reducible assumption)|exact a7Y (by with_reducible assumption)|with_reducible assumption) (by with_reducible assumption)).xs|exact (y6 (by first|exact a7X (by with_reducible assumption)|exact a7Y (by with_reducible assumption)|with_reducible assumption) (by first|exact a7X (by with_reducible assumption)|exact a7Y (by with_reducible assumption)|with_reducible assumption) (by with_reducible assumption)).ys|exact (Qp (by first|exact a7X (by with_reducible assumption)|exact a7Y (by with_reducible assumption)|with_reducible assumption) (by first|exact a7X (by with_reducible assumption)|exact a7Y (by with_reducible assumption)|with_reducible assumption) (by with_reducible assumption) (by with_reducible assumption)).1|exact (Qp (by first|exact a7X (by with_reducible assumption)|exact a7Y (by with_reducible assumption)|with_reducible assumption) (by first|exact a7X (by with_reducible assumption)|exact a7Y (by with_reducible assumption)|with_reducible assumption) (by with_reducible assumption) (by with_reducible assumption)).2|exact (Ib (by first|exact a7X (by with_reducible assumption)|exact a7Y (by with_reducible assumption)|with_reducible assumption) (by first|exact a7X (by with_reducible assumption)|exact a7Y (by with_reducible assumption)|with_reducible assumption) (by with_reducible assumption) (by with_reducible assumption)).1.1|exact (Ib (by first|exact a7X (by with_reducible assumption)|exact a7Y (by with_reducible assumption)|with_reducible assumption) (by first|exact a7X (by with_reducible assumption)|exact a7Y (by with_reducible assumption)|with_reducible assumption) (by with_reducible assumption) (by with_reducible assumption)).1.2|exact (Ib (by first|exact a7X (by with_reducible assumption)|exact a7Y (by with_reducible assumption)|with_reducible assumption) (by first|exact a7X (by with_reducible assumption)|exact a7Y (by with_reducible assumption)|with_reducible assumption) (by with_reducible assumption) (by with_reducible assumption)).2|exact (Dn (by rintro⟨q1,q2⟩;simp_all)).c|exact (Dn (by rintro⟨q1,q2⟩;simp_all)).x|exact (Dn (by rintro⟨q1,q2⟩;simp_all)).y|exact (Dn (by rintro⟨q1,q2⟩;simp_all)).xs|exact (Dn (by rintro⟨q1,q2⟩;simp_all)).ys|exact (oP (by first|exact a7X (by with_reducible assumption)|exact a7Y (by with_reducible assumption)|with_reducible assumption)).s|exact (oP (by first|exact a7X (by with_reducible assumption)|exact a7Y (by with_reducible assumption)|with_reducible assumption)).g|exact (oP (by first|exact a7X (by with_reducible assumption)|exact a7Y (by with_reducible assumption)|with_reducible assumption)).n
structure rT(a b:U)(i t:Nat):Prop where
 hi:i<=(cQ a b).length
 ht:t<=mK a
 p:∀ j,j<i->∀ s,s<mK a->Pb a b ((cQ a b).getD j (ae.mk (ar.mk (0:Int) (0:Int)) (0:Int) (0:Int) (0:Int))) s
 q:∀ s,s<t->Pb a b ((cQ a b).getD i (ae.mk (ar.mk (0:Int) (0:Int)) (0:Int) (0:Int) (0:Int))) s
def rT.first(a b:U):rT a b 0 0:=⟨a8r _,a8r _,λ j hj=>by omega,λ s hs=>by omega⟩
def rT.step{a b:U}{i t:Nat}(h:rT a b i t)(ht:t<mK a)(e:Pb a b ((cQ a b).getD i (ae.mk (ar.mk (0:Int) (0:Int)) (0:Int) (0:Int) (0:Int))) t):rT a b i (t+1):=⟨h.hi,ht,h.p,λ s hs=>by
 rcases a8m s t with r|r
 .exact h.q s r
 .rw[show s=t by omega];exact e⟩
def rT.row{a b:U}{i t:Nat}(h:rT a b i t)(hi:i<(cQ a b).length)(ht:¬ t<mK a):rT a b (i+1) 0:=⟨hi,a8r _,λ j hj s hs=>by
 rcases a8m j i with r|r
 .exact h.p j r s hs
 .rw[show j=i by omega];exact h.q s (by omega),λ s hs=>by omega⟩
def rT.done{a b:U}{i t:Nat}(h:rT a b i t)(hi:¬ i<(cQ a b).length):true=Ca a b:=(LM.2 λ j hj s hs=>h.p j (by omega) s hs).symm
def a4l{a b:U}(h:AB a b){i t:Nat}(e:me a ((p0 (cQ a b)).getD i 0) (t:Int)=true)(k:me b ((p1 (cQ a b)).getD i 0) (t:Int)=false)(hi:i<(cQ a b).length)(ht:t<mK a):false=Ca a b:=by
 rw[Cs hi] at e;rw[Ct hi] at k;symm;rw[b0Q];intro w;have:=LM.1 w i hi t ht e;rw[k] at this;cases this
def a4m{a b:U}{i t:Nat}(hi:i<(cQ a b).length)(e:me a ((p0 (cQ a b)).getD i 0) (t:Int)=false):Pb a b ((cQ a b).getD i (ae.mk (ar.mk (0:Int) (0:Int)) (0:Int) (0:Int) (0:Int))) t:=λ w=>by
 rw[Cs hi] at e;rw[e] at w;cases w
def a4n{a b:U}{i t:Nat}(hi:i<(cQ a b).length)(k:me b ((p1 (cQ a b)).getD i 0) (t:Int)=true):Pb a b ((cQ a b).getD i (ae.mk (ar.mk (0:Int) (0:Int)) (0:Int) (0:Int) (0:Int))) t:=λ _=>by
 rw[Ct hi] at k;exact k
def a6r{a b:U}(h:AB a b){i t:Nat}(hi:i<(cQ a b).length)(ht:t<mK a):FF a ((p0 (cQ a b)).getD i 0) (t:Int):=by rw[Cs hi];exact a1X h hi ht
def a6s{a b:U}(h:AB a b){i t:Nat}(hi:i<(cQ a b).length)(ht:t<mK a):FF b ((p1 (cQ a b)).getD i 0) (t:Int):=by rw[Ct hi];exact a1Y h hi ht
def vv:aW:=⟨vB,[.r (.st .automaton), .r (.st .automaton)],λ (a:U) (b:U)=>⟨(some (AB a b),[⟨.bool,Ca a b⟩])⟩⟩
def He(a:U)(b:U):Nat->aL:=(eS 0 (.mk (Nat) (λ i=>rT a b i 0) (λ i=>(cQ a b).length - i) [] [9,10,11,12,13,14] (λ i=>[(7, .aQ ⟨(.int .i64),((i:Int):Int)⟩)]) [] (λ i=>[]) [] [] (λ i=>(eS 2 (.b (Nat) (λ t=>rT a b i t/\i<(cQ a b).length) (λ t=>mK a - t) [15,16,17,18] (λ t=>[(8, .aQ ⟨(.int .i64),((t:Int):Int)⟩)])) cB))) cB)
abbrev qX(a:U)(b:U)(i1:Nat)(t2:Nat):Prop:=(au ((t2:Int)+(1:Int))/\(∃ t3:Nat,((rT a b i1 t3/\i1<(cQ a b).length)/\(mK a - t3<mK a - t2/\((a=a/\(b=b/\((p0 (cQ a b))=(p0 (cQ a b))/\((p1 (cQ a b))=(p1 (cQ a b))/\((i1:Int)=(i1:Int)/\(((t2:Int)+(1:Int))=(t3:Int)/\True))))))/\True)))))
def A7:aW.Good vv:=by
 refine⟨aD rW,?_⟩;intro (a:U) (b:U) (hp:AB a b);refine aV [xv,hJ,Bw] [] [] [] ⟨C9,gN,GM,af⟩ rW AK (He a b) (let v0:=cQ a b;let v1:=p0 v0;let v2:=(0:Int);let v3:=p1 v0;let v4:=(v1.length:Int);((AB a b/\(v1.length<=140737488355328->(v3.length<=140737488355328->((∃ i1:Nat,(rT a b i1 0/\((a=a/\(b=b/\(v1=v1/\(v3=v3/\(v2=(i1:Int)/\True)))))/\True)))/\(∀ i1:Nat,let v5:=(i1:Int);let v6:=v1.getD i1 v2;let v7:=v3.getD i1 v2;(rT a b i1 0->(au v4->(((decide (v5<v4))=true->((∃ t2:Nat,((rT a b i1 t2/\i1<v0.length)/\((a=a/\(b=b/\(v1=v1/\(v3=v3/\(v5=v5/\(v2=(t2:Int)/\True))))))/\True)))/\(∀ t2:Nat,let v8:=(t2:Int);((rT a b i1 t2/\i1<v0.length)->((0<=a.sig.aS/\a.sig.aS<=3)/\(au (bA a.sig)->(((decide (v8<(bA a.sig)))=true->(aE v5 v1.length/\(au v6->(FF a v6 v8/\(((me a v6 v8)=true->(aE v5 v3.length/\(au v7->(FF b v7 v8/\(((!(me b v7 v8))=true->false=(Ca a b))/\((!(me b v7 v8))=false->(qX a b i1 t2)))))))/\((me a v6 v8)=(!true)->((false=true->false=(Ca a b))/\(false=false->(qX a b i1 t2)))))))))/\((decide (v8<(bA a.sig)))=false->(au (v5+(1:Int))/\(∃ i3:Nat,(rT a b i3 0/\(v0.length - i3<v0.length - i1/\((a=a/\(b=b/\(v1=v1/\(v3=v3/\((v5+(1:Int))=(i3:Int)/\True)))))/\True)))))))))))))/\((decide (v5<v4))=false->true=(Ca a b)))))))))))) ?_;have ha:=hp.ka;have hb:=hp.kb;have n1:(bA a.sig)=(mK a:Int):=ha.lens.2.2.2.1.symm;have n4:=(dW a.sig).1 ha.s;have n5:=ha.lens;have n6:=VJ hp;refine⟨?_,λ _ _=>⟨⟨0,?_,⟨rfl,rfl,rfl,rfl,?_,af⟩,af⟩,λ i1 _ _=>⟨λ _=>⟨⟨0,?_,⟨rfl,rfl,rfl,rfl,rfl,?_,af⟩,af⟩,λ t2 _=>⟨?_,λ _=>⟨λ _=>⟨?_,λ _=>⟨?_,λ _=>⟨?_,λ _=>⟨?_,λ _=>?_,λ _=>⟨?_,t2+1,?_,?_,⟨rfl,rfl,rfl,rfl,rfl,?_,af⟩,af⟩⟩⟩,λ _=>⟨λ _=>?_,λ _=>⟨?_,t2+1,?_,?_,⟨rfl,rfl,rfl,rfl,rfl,?_,af⟩,af⟩⟩⟩⟩,λ _=>⟨?_,i1+1,?_,?_,⟨rfl,rfl,rfl,rfl,?_,af⟩,af⟩⟩⟩⟩,λ _=>?_⟩⟩⟩;all_goals try and_intros
 all_goals (try simp only[a7V,a8e,a7D,a7C,aE,au,bB,cN,a8t,a9p,a8C,b0j,a8x,a8s,a8j,a9m,Wb,Wc,a7K,a7I,a7T,a8A] at *);first|done|with_reducible assumption|omega|with_reducible rfl|exact trivial|exact rT.first a b|exact a6r hp (by omega) (by omega)|exact a6s hp (by omega) (by omega)|exact rT.step (a7X (by with_reducible assumption)) (by omega) (a4m (by omega) (by with_reducible assumption))|exact rT.step (a7X (by with_reducible assumption)) (by omega) (a4n (by omega) (by with_reducible assumption))|exact rT.row (a7X (by with_reducible assumption)) (by omega) (by omega)|exact rT.done (by with_reducible assumption) (by omega)|exact a4l hp (by with_reducible assumption) (by with_reducible assumption) (by omega) (by omega)
def sY:aW:=⟨tu,[.v (.st .sig), .v (.st .expr), .v (.st .expr)],λ (gg:aG) (e:J) (f:J)=>⟨(none,[⟨.bool,yg gg e f⟩,⟨(.int .i64),gE gg e f⟩])⟩⟩
def Fa(gg:aG)(e:J)(f:J):Nat->aL:=cB
def Ae:aW.Good sY:=by
 refine⟨aD qL,?_⟩;intro (gg:aG) (e:J) (f:J) _;refine U1 [pb] [qZ] [] [] [28] [] [] [3,4,5] ⟨wZ,af⟩ ⟨yI,af⟩ trivial trivial qL zW (Fa gg e f) (let v0:=gE gg e f;((au v0->(((!(decide (v0=(0:Int))))=true->(false=(yg gg e f)/\v0=v0))/\((!(decide (v0=(0:Int))))=false->(AB (x8 gg e f) (x9 gg e f)/\((!(OB (x8 gg e f) (x9 gg e f)))=(yg gg e f)/\(0:Int)=v0))))))) ?_;refine λ _=>⟨λ _=>⟨?_,rfl⟩,λ _=>⟨?_,?_,?_⟩⟩;all_goals try and_intros
 all_goals (try simp only[a7V,a8e,a8x,a8s,a7D,a7C] at *);first|done|with_reducible assumption|with_reducible rfl|exact trivial|exact Yd (by with_reducible assumption)|exact Qo (by with_reducible assumption)|exact Yf (by with_reducible assumption)|exact a1Z (by with_reducible assumption)|exact a2a (by with_reducible assumption)|exact Yr (by with_reducible assumption) (by with_reducible assumption)|exact Yq (by with_reducible assumption) (by with_reducible assumption)|(symm;assumption)
def tf:aW:=⟨tE,[.v (.st .sig), .v (.st .expr), .v (.st .expr)],λ (gg:aG) (e:J) (f:J)=>⟨(none,[⟨.bool,yg gg e f⟩,⟨(.int .i64),gE gg e f⟩])⟩⟩
def Fe(gg:aG)(e:J)(f:J):Nat->aL:=cB
def Ag:aW.Good tf:=by
 refine⟨aD qP,?_⟩;intro (gg:aG) (e:J) (f:J) _;refine aV [zC,vv] [] [] [3,4,5] ⟨ET,A7,af⟩ qP z7 (Fe gg e f) (let v0:=gE gg e f;let v1:=Aa gg e f;let v2:=Ab gg e f;((au v0->(((!(decide (v0=(0:Int))))=true->(false=(yg gg e f)/\v0=v0))/\((!(decide (v0=(0:Int))))=false->(AB v1 v2/\(((Ca v1 v2)=true->(AB v2 v1/\((Ca v2 v1)=(yg gg e f)/\(0:Int)=v0)))/\((Ca v1 v2)=(!true)->(false=(yg gg e f)/\(0:Int)=v0))))))))) ?_;refine λ _=>⟨λ _=>⟨?_,rfl⟩,λ _=>⟨?_,λ _=>⟨?_,?_,?_⟩,λ _=>⟨?_,?_⟩⟩⟩;all_goals try and_intros
 all_goals (try simp only[a7V,a8e,a8x,a8s,a7D,a7C] at *);first|done|with_reducible assumption|with_reducible rfl|exact trivial|exact Yd (by with_reducible assumption)|exact Qo (by with_reducible assumption)|exact Yf (by with_reducible assumption)|exact a1Z (by with_reducible assumption)|exact a2a (by with_reducible assumption)|exact Yr (by with_reducible assumption) (by with_reducible assumption)|exact Yq (by with_reducible assumption) (by with_reducible assumption)|(symm;assumption)
def cV(xs:List J):J:=xs.foldl (λ o e=>J.mk (6:Int) (0:Int) [o,e]) (J.mk (1:Int) (0:Int) [])
def Oe(xs:List J)(e:J):cV (xs++[e])=J.mk (6:Int) (0:Int) [cV xs,e]:=by simp[cV,a9G]
def Cy{xs:List J}{i:Nat}(h:i<xs.length):J.mk (6:Int) (0:Int) [cV (xs.take i),xs.getD i zE]=cV (xs.take (i+1)):=by
 rw[a9H,a7L h,a7G,a7L h];exact (Oe _ _).symm
def yN{xs:List J}{i:Nat}(h:¬ i<xs.length):cV (xs.take i)=cV xs:=by rw[a8o (by omega)]
def lp(n:Nat):List J:=(List.range n).map λ a:Nat=>J.mk (4:Int) (a:Int) []
def TQ(n:Nat):lp n++[J.mk (4:Int) (n:Int) []]=lp (n+1):=by simp[lp,b1o]
def RY(n:Nat):(lp n).length=n:=by simp[lp]
def H5(n:Nat):J.mk (6:Int) (0:Int) [cV (lp n),J.mk (4:Int) (n:Int) []]=cV (lp (n+1)):=by rw[<-TQ,Oe]
def awE(n:Nat):J:=J.mk (8:Int) (0:Int) [cV (lp n)]
def X6(n:Nat)(h:n<=4):aB (awE n)=true/\aj (awE n)<=3000:=by
 have:n=0\/n=1\/n=2\/n=3\/n=4:=by omega
 rcases this with h|h|h|h|h<;>subst h<;>exact⟨by decide,by decide⟩
noncomputable def CL(gg:aG):J:=ej (awE gg.av.toNat)
def a1K{gg:aG}{i:Nat}(h:¬ (i:Int)<gg.av)(k:i<=gg.av.toNat):ej (J.mk (8:Int) (0:Int) [cV (lp i)])=CL gg:=by rw[show i=gg.av.toNat by omega];rfl
structure AwI(n:Nat):Prop where
 g:aB (J.mk (8:Int) (0:Int) [cV (lp n)])=true
 n:aj (J.mk (8:Int) (0:Int) [cV (lp n)])<=3000
def awI{n:Nat}(h:n<=4):AwI n:=⟨(X6 n h).1,(X6 n h).2⟩
noncomputable abbrev tX(gg:aG)(xs:List J)(e:J):J:=J.mk (6:Int) (0:Int) [e,J.mk (7:Int) (0:Int) [CL gg,J.mk (7:Int) (0:Int) [cV xs,CL gg]]]
structure Kx(gg:aG)(xs:List J)(e f:J):Prop where
 l:cE (fR gg) xs=true
 p:dP gg e=true
 q:dP gg f=true
noncomputable def tW(gg:aG)(xs:List J)(e f:J):Int := @ite _ (Kx gg xs e f) (Classical.propDecidable _) (if xs.length<=4 then (if fR gg (tX gg xs e)=true/\fR gg (tX gg xs f)=true then gE gg (tX gg xs e) (tX gg xs f) else 3) else 2) 1
noncomputable def vP(gg:aG)(xs:List J)(e f:J):Bool := @ite _ (Kx gg xs e f) (Classical.propDecidable _) (if xs.length<=4 then (if fR gg (tX gg xs e)=true/\fR gg (tX gg xs f)=true then yg gg (tX gg xs e) (tX gg xs f) else false) else false) false
def Wa{gg:aG}{e:J}(h:dP gg e=true):ca gg=true:=(oP h).s
def ZQ{gg:aG}{e x:J}(h:dP gg e=true):dP gg x=fR gg x:=by rw[dP,Wa h,b0u]
def V9{gg:aG}{x:J}(h:dP gg x=true):fR gg x=true:=by rw[dP,a7H] at h;exact h.2
def XY{gg:aG}{xs:List J}{i:Nat}{e f:J}(k:dP gg (xs.getD i zE)=false)(h:dP gg e=true)(hi:i<xs.length):¬ Kx gg xs e f:=λ q=>by
 have:=eC (fR gg) zE xs i hi;rw[ZQ h] at k;have q1:=q.l;rw[this k] at q1;exact absurd q1 (by decide)
def a4v{gg:aG}{xs:List J}{i:Nat}{e:J}(k:dP gg (xs.getD i zE)=true)(h:dP gg e=true)(p:cE (fR gg) (xs.take i)=true)(hi:i<xs.length):cE (fR gg) (xs.take (i+1))=true:=by
 rw[ZQ h] at k;rw[dX (fR gg) zE xs i hi,p,k];rfl
def a3S{gg:aG}{x:J}(h:dP gg x=true):aU x<=1048576:=mD x (by have:=(oP h).n;omega)
def a4t{gg:aG}{xs:List J}{i:Nat}{e f:J}(p:cE (fR gg) (xs.take i)=true)(h:dP gg e=true)(k:dP gg f=true)(hi:¬ i<xs.length):Kx gg xs e f:=⟨by rw[a8o (by omega)] at p;exact p,h,k⟩
def Pw{gg:aG}{xs:List J}{e f:J}(h:¬ Kx gg xs e f):false=vP gg xs e f/\1=tW gg xs e f:=by rw[vP,tW,a7z h,a7z h];exact⟨rfl,rfl⟩
def VN{gg:aG}{xs:List J}{e f:J}(h:Kx gg xs e f)(k:¬ xs.length<=4):false=vP gg xs e f/\2=tW gg xs e f:=by rw[vP,tW,a7E h,a7E h,a7z k,a7z k];exact⟨rfl,rfl⟩
def VO{gg:aG}{xs:List J}{e f:J}(h:Kx gg xs e f)(k:xs.length<=4)(m:¬ (fR gg (tX gg xs e)=true/\fR gg (tX gg xs f)=true)):false=vP gg xs e f/\3=tW gg xs e f:=by rw[vP,tW,a7E h,a7E h,a7E k,a7E k,a7z m,a7z m];exact⟨rfl,rfl⟩
def VP{gg:aG}{xs:List J}{e f:J}(h:Kx gg xs e f)(k:xs.length<=4)(m:fR gg (tX gg xs e)=true/\fR gg (tX gg xs f)=true):yg gg (tX gg xs e) (tX gg xs f)=vP gg xs e f/\gE gg (tX gg xs e) (tX gg xs f)=tW gg xs e f:=by rw[vP,tW,a7E h,a7E h,a7E k,a7E k,a7E m,a7E m];exact⟨rfl,rfl⟩
def we:aW:=⟨DM,[.v (.slice (.st .expr))],λ (xs:List J)=>⟨(some (xs.length<=1000000),[⟨(.st .expr),cV xs⟩])⟩⟩
def OT(xs:List J):Nat->aL:=(eS 0 (.a (Nat) (λ i=>i<=xs.length) (λ i=>xs.length - i) [0,6] (λ i=>[(9, .aQ ⟨(.int .i64),((i:Int):Int)⟩)]) [2] (λ i=>[(3, .box [.aQ ⟨(.int .i64),((cV (xs.take i)).ai:Int)⟩, .aQ ⟨(.int .i64),((cV (xs.take i)).aZ:Int)⟩, .aQ ⟨(.slice (.st .expr)),((cV (xs.take i)).O:List J)⟩])])) cB)
def xa:aW.Good we:=by
 refine⟨aD AD,?_⟩;intro (xs:List J) (hp:xs.length<=1000000);refine aV [gA,fi] [] [] [] ⟨ga,eU,af⟩ AD Ie (OT xs) (let v0:=(xs.length:Int);let v3:=(0:Int);let v1:=(v3=v3/\(v3=v3/\(True/\True)))/\True;let v2:=J.mk (1:Int) v3 [];((au v0->((∃ i1:Nat,let v4:=cV (xs.take i1);(i1<=xs.length/\((True/\(True/\(xs=xs/\(v0=v0/\(v3=(i1:Int)/\True)))))/\((v2.ai=(v4.ai)/\(v2.aZ=(v4.aZ)/\(v2.O=(v4.O)/\True)))/\v1))))/\(∀ i1:Nat,let v6:=cV (xs.take i1);let v5:=J.mk (v6.ai) (v6.aZ) (v6.O);let v4:=J.mk (6:Int) 0 ([v5,(aP (xs.getD i1 zE))]);(i1<=xs.length->(((decide ((i1:Int)<v0))=true->(aE (i1:Int) xs.length/\(au ((i1:Int)+(1:Int))/\(∃ i2:Nat,let v7:=cV (xs.take i2);(i2<=xs.length/\(xs.length - i2<xs.length - i1/\((True/\(True/\(xs=xs/\(v0=v0/\(((i1:Int)+(1:Int))=(i2:Int)/\True)))))/\((v4.ai=(v7.ai)/\(v4.aZ=(v7.aZ)/\(v4.O=(v7.O)/\True)))/\v1))))))))/\((decide ((i1:Int)<v0))=false->v5=(cV xs))))))))) ?_;refine λ _=>⟨⟨0,?_,⟨af,af,rfl,rfl,?_,af⟩,⟨?_,?_,?_,af⟩,⟨rfl,rfl,af,af⟩,af⟩,λ i1 _=>⟨λ _=>⟨?_,?_,i1+1,?_,?_,⟨af,af,rfl,rfl,?_,af⟩,⟨?_,?_,?_,af⟩,⟨rfl,rfl,af,af⟩,af⟩,λ _=>?_⟩⟩;all_goals try and_intros
 all_goals try (first|with_reducible rfl|with_reducible assumption)
 all_goals try simp only[J.eta,cu] at *
 all_goals (try simp only[a7V,a8e,a7D,a7C,aE,au,bB,cN,a8t,a9p,a8C,b0j,a8x,a8s,a8j,a7K,a7I,a7T,a8A] at *);first|done|with_reducible assumption|omega|with_reducible rfl|exact trivial|exact yN (by omega)|exact congrArg J.ai (Cy (by omega))|exact congrArg J.aZ (Cy (by omega))|exact congrArg J.O (Cy (by omega))|exact congrArg J.ai (yN (by omega))|exact congrArg J.aZ (yN (by omega))|exact congrArg J.O (yN (by omega))|(simp[cV];done)
def xp:aW:=⟨xB,[.v (.st .sig)],λ (gg:aG)=>⟨(some (ca gg=true),[⟨(.st .expr),CL gg⟩])⟩⟩
def IY(gg:aG):Nat->aL:=(eS 0 (.a (Nat) (λ i=>i<=gg.av.toNat) (λ i=>gg.av.toNat - i) [0,1,5,6] (λ i=>[(8, .aQ ⟨(.int .i64),((i:Int):Int)⟩),(3, .row 5)]) [2] (λ i=>[(5, .row eh (.st .expr) (lp i:List J))])) cB)
def C3:aW.Good xp:=by
 refine⟨aD uu,?_⟩;intro (gg:aG) (hp:ca gg=true);refine aV [gA,we,fi,rq] [] [] [1] ⟨ga,xa,eU,qd,af⟩ uu CO (IY gg) (let v0:=((0:Int)=(0:Int)/\((0:Int)=(0:Int)/\(True/\True)))/\True;((au gg.av->((∃ i1:Nat,(i1<=gg.av.toNat/\((True/\(True/\(gg.av=gg.av/\((0:Int)=(i1:Int)/\True))))/\([]=(lp i1)/\v0))))/\(∀ i1:Nat,let v1:=J.mk (8:Int) 0 ([(cV (lp i1))]);let v2:=[(J.mk (4:Int) (i1:Int) [])];let v3:=decide ((i1:Int)<gg.av);(i1<=gg.av.toNat->((v3=true->(bB ((lp i1).length+v2.length) 40/\(au ((i1:Int)+(1:Int))/\(∃ i2:Nat,(i2<=gg.av.toNat/\(gg.av.toNat - i2<gg.av.toNat - i1/\((True/\(True/\(gg.av=gg.av/\(((i1:Int)+(1:Int))=(i2:Int)/\True))))/\(((lp i1)++v2)=(lp i2)/\v0))))))))/\(v3=false->((lp i1).length<=1000000/\((aB v1=true/\aj v1<=3000)/\(aP (ej v1))=(CL gg))))))))))) ?_;have n4:=(dW gg).1 hp;refine λ _=>⟨⟨0,?_,⟨af,af,rfl,?_,af⟩,?_,⟨rfl,rfl,af,af⟩,af⟩,λ i1 _=>⟨λ _=>⟨?_,?_,i1+1,?_,?_,⟨af,af,rfl,?_,af⟩,?_,⟨rfl,rfl,af,af⟩,af⟩,λ _=>⟨?_,?_,?_⟩⟩⟩;all_goals try and_intros
 all_goals try (first|with_reducible rfl|with_reducible assumption)
 all_goals try simp only[J.eta,cu] at *
 all_goals (try simp only[a7V,a8e,a7D,a7C,aE,au,bB,cN,a8t,a9p,a8C,b0j,a8x,a8s,a8j,a7K,a7I,a7T,a8A,RY] at *);first|done|with_reducible assumption|omega|with_reducible rfl|exact trivial|exact TQ _|exact a1K (by omega) (by omega)|exact (awI (by omega)).g|exact (awI (by omega)).n|exact congrArg J.ai (H5 _)|exact congrArg J.aZ (H5 _)|exact congrArg J.O (H5 _)|(simp[lp,cV];done)|exact absurd (hp.symm.trans (by with_reducible assumption:ca gg=false)) (by decide)
def xr:aW:=⟨xE,[.v (.st .sig)],λ (gg:aG)=>⟨(some (ca gg=true),[⟨(.st .expr),CL gg⟩,⟨(.int .i64),0⟩])⟩⟩
def I1(gg:aG):Nat->aL:=(eS 0 (.a (Nat) (λ i=>i<=gg.av.toNat) (λ i=>gg.av.toNat - i) [0,3,7,8,9,11] (λ i=>[(5, .aQ ⟨(.int .i64),((i:Int):Int)⟩)]) [2] (λ i=>[(4, .box [.aQ ⟨(.int .i64),((cV (lp i)).ai:Int)⟩, .aQ ⟨(.int .i64),((cV (lp i)).aZ:Int)⟩, .aQ ⟨(.slice (.st .expr)),((cV (lp i)).O:List J)⟩])])) cB)
def C7:aW.Good xr:=by
 refine⟨aD ux,?_⟩;intro (gg:aG) (hp:ca gg=true);refine aV [ti,eW,eV,iW] [] [] [1] ⟨uE,fJ,fI,mc,af⟩ ux CU (I1 gg) (let v1:=(0:Int);let v0:=(v1=v1/\(v1=v1/\(True/\True)))/\True;let v2:=J.mk 1 0 [];((((!(ca gg))=true->(zE=(CL gg)/\(1:Int)=0))/\((!(ca gg))=false->((∃ i1:Nat,(i1<=gg.av.toNat/\((gg=gg/\(True/\(True/\(v1=(i1:Int)/\True))))/\((v2.ai=((cV (lp i1)).ai)/\(v2.aZ=((cV (lp i1)).aZ)/\(v2.O=((cV (lp i1)).O)/\True)))/\v0))))/\(∀ i1:Nat,let v3:=J.mk ((cV (lp i1)).ai) ((cV (lp i1)).aZ) ((cV (lp i1)).O);let v4:=J.mk (6:Int) 0 [v3,(J.mk (4:Int) (i1:Int) [])];let v5:=J.mk (8:Int) v1 ([v3]);let v6:=decide ((i1:Int)<gg.av);(i1<=gg.av.toNat->(au gg.av->((v6=true->(au ((i1:Int)+(1:Int))/\(∃ i2:Nat,(i2<=gg.av.toNat/\(gg.av.toNat - i2<gg.av.toNat - i1/\((gg=gg/\(True/\(True/\(((i1:Int)+(1:Int))=(i2:Int)/\True))))/\((v4.ai=((cV (lp i2)).ai)/\(v4.aZ=((cV (lp i2)).aZ)/\(v4.O=((cV (lp i2)).O)/\True)))/\v0)))))))/\(v6=false->((aB v5=true/\aj v5<=3000)/\((aP (ej v5))=(CL gg)/\v1=0)))))))))))) ?_;have n4:=(dW gg).1 hp;refine⟨λ _=>⟨?_,?_⟩,λ _=>⟨⟨0,?_,⟨rfl,af,af,?_,af⟩,⟨?_,?_,?_,af⟩,⟨rfl,rfl,af,af⟩,af⟩,λ i1 _ _=>⟨λ _=>⟨?_,i1+1,?_,?_,⟨rfl,af,af,?_,af⟩,⟨?_,?_,?_,af⟩,⟨rfl,rfl,af,af⟩,af⟩,λ _=>⟨?_,?_,?_⟩⟩⟩⟩;all_goals try and_intros
 all_goals try (first|with_reducible rfl|with_reducible assumption)
 all_goals try simp only[J.eta,cu] at *
 all_goals (try simp only[a7V,a8e,a7D,a7C,aE,au,bB,cN,a8t,a9p,a8C,b0j,a8x,a8s,a8j,a7K,a7I,a7T,a8A,RY] at *);first|done|with_reducible assumption|omega|with_reducible rfl|exact trivial|exact TQ _|exact a1K (by omega) (by omega)|exact (awI (by omega)).g|exact (awI (by omega)).n|exact congrArg J.ai (H5 _)|exact congrArg J.aZ (H5 _)|exact congrArg J.O (H5 _)|(simp[lp,cV];done)|exact absurd (hp.symm.trans (by with_reducible assumption:ca gg=false)) (by decide)
def sZ:aW:=⟨tv,[.v (.st .sig), .v (.slice (.st .expr)), .v (.st .expr), .v (.st .expr)],λ (gg:aG) (xs:List J) (e:J) (f:J)=>⟨(some (xs.length<=1048576),[⟨.bool,vP gg xs e f⟩,⟨(.int .i64),tW gg xs e f⟩])⟩⟩
def Fb(gg:aG)(xs:List J)(e:J)(f:J):Nat->aL:=cB
abbrev Bm(gg:aG)(xs:List J)(e:J)(f:J):Prop:=(let v0:=aP (J.mk (7:Int) 0 ([(aP (CL gg)),(J.mk (7:Int) 0 ([(cV xs),(aP (CL gg))]))]));let v2:=aP (J.mk (6:Int) 0 ([e,v0]));let v3:=aP (J.mk (6:Int) 0 ([f,v0]));let v1:=gE gg v2 v3;(au v1 ->
 ((yg gg v2 v3)=(vP gg xs e f)/\v1=(tW gg xs e f))))
abbrev Bn(gg:aG)(xs:List J)(e:J)(f:J):Prop:=(let v0:=aP (J.mk (7:Int) 0 ([(aP (CL gg)),(J.mk (7:Int) 0 ([(cV xs),(aP (CL gg))]))]));let v1:=false=(vP gg xs e f)/\(3:Int)=(tW gg xs e f);let v2 := !(fR gg (aP (J.mk (6:Int) 0 ([e,v0]))));let v3 := !(fR gg (aP (J.mk (6:Int) 0 ([f,v0]))));let v4:=decide ((4:Int)<((xs.length:Int)));let v5:=Bm gg xs e f;(au ((xs.length:Int)) ->
 ((v4=true ->
 (false=(vP gg xs e f)/\(2:Int)=(tW gg xs e f)))/\(v4=false ->
 (ca gg=true/\(xs.length<=1000000/\((v2=false ->
 ((v3=true ->
 v1)/\(v3=false ->
 v5)))/\(v2=(!false) ->
 ((true=true ->
 v1)/\(true=false ->
 v5))))))))))
def Af:aW.Good sZ:=by
 refine⟨aD qM,?_⟩;intro (gg:aG) (xs:List J) (e:J) (f:J) (hp:xs.length<=1048576);refine aV [mi,xp,we,fi,td,sY] [] [] [4,6,7,35,37,41,45] ⟨nJ,C3,xa,eU,uC,Ae,af⟩ qM zX (Fb gg xs e f) (let v0:=false=(vP gg xs e f)/\(1:Int)=(tW gg xs e f);let v1 := !(cE (fR gg) ([e,f])&&ca gg);let v2 := !(cE (fR gg) xs&&ca gg);let v3:=Bn gg xs e f;(((v2=false->((v1=true->v0)/\(v1=false->v3)))/\(v2=(!false)->((true=true->v0)/\(true=false->v3)))))) ?_;refine⟨λ _=>⟨λ _=>⟨?_,?_⟩,λ _ _=>⟨λ _=>⟨?_,?_⟩,λ _=>⟨?_,?_,λ _=>⟨λ _=>⟨?_,?_⟩,λ _ _=>⟨?_,?_⟩⟩,λ _=>⟨λ _=>⟨?_,?_⟩,λ _ _=>⟨?_,?_⟩⟩⟩⟩⟩,λ _=>⟨λ _=>⟨?_,?_⟩,λ _ _=>⟨λ _=>⟨?_,?_⟩,λ _=>⟨?_,?_,λ _=>⟨λ _=>⟨?_,?_⟩,λ _ _=>⟨?_,?_⟩⟩,λ _=>⟨λ _=>⟨?_,?_⟩,λ _ _=>⟨?_,?_⟩⟩⟩⟩⟩⟩;all_goals try and_intros
 all_goals try (first|with_reducible rfl|with_reducible assumption)
 all_goals try simp only[J.eta,cu] at *
 all_goals (try simp only[a7V,a8e,a8x,a8s,a8j,a9m,a7D,a7C,aE,au,bB,a8t,Hq,a7H] at *);first|done|with_reducible assumption|with_reducible rfl|exact trivial|omega|exact (VN (by first|exact⟨a7X (by with_reducible assumption),a7X (by with_reducible assumption),a7Y (by with_reducible assumption)⟩|exact⟨(by with_reducible assumption),a7X (by with_reducible assumption),a7Y (by with_reducible assumption)⟩|with_reducible assumption) (by omega)).1|exact (VN (by first|exact⟨a7X (by with_reducible assumption),a7X (by with_reducible assumption),a7Y (by with_reducible assumption)⟩|exact⟨(by with_reducible assumption),a7X (by with_reducible assumption),a7Y (by with_reducible assumption)⟩|with_reducible assumption) (by omega)).2|exact (VO (by first|exact⟨a7X (by with_reducible assumption),a7X (by with_reducible assumption),a7Y (by with_reducible assumption)⟩|exact⟨(by with_reducible assumption),a7X (by with_reducible assumption),a7Y (by with_reducible assumption)⟩|with_reducible assumption) (by omega) (by rintro⟨q1,q2⟩;simp_all [tX])).1|exact (VO (by first|exact⟨a7X (by with_reducible assumption),a7X (by with_reducible assumption),a7Y (by with_reducible assumption)⟩|exact⟨(by with_reducible assumption),a7X (by with_reducible assumption),a7Y (by with_reducible assumption)⟩|with_reducible assumption) (by omega) (by rintro⟨q1,q2⟩;simp_all [tX])).2|exact (VP (by first|exact⟨a7X (by with_reducible assumption),a7X (by with_reducible assumption),a7Y (by with_reducible assumption)⟩|exact⟨(by with_reducible assumption),a7X (by with_reducible assumption),a7Y (by with_reducible assumption)⟩|with_reducible assumption) (by omega) (by first|exact⟨(by with_reducible assumption),(by with_reducible assumption)⟩|(constructor<;>simp_all [dP,tX]))).1|exact (VP (by first|exact⟨a7X (by with_reducible assumption),a7X (by with_reducible assumption),a7Y (by with_reducible assumption)⟩|exact⟨(by with_reducible assumption),a7X (by with_reducible assumption),a7Y (by with_reducible assumption)⟩|with_reducible assumption) (by omega) (by first|exact⟨(by with_reducible assumption),(by with_reducible assumption)⟩|(constructor<;>simp_all [dP,tX]))).2|exact (Pw (by rintro⟨q1,q2,q3⟩;simp_all [dP])).1|exact (Pw (by rintro⟨q1,q2,q3⟩;simp_all [dP])).2|exact a7Y (by with_reducible assumption)
def tg:aW:=⟨tF,[.v (.st .sig), .v (.slice (.st .expr)), .v (.st .expr), .v (.st .expr)],λ (gg:aG) (xs:List J) (e:J) (f:J)=>⟨(some (xs.length<=1048576),[⟨.bool,vP gg xs e f⟩,⟨(.int .i64),tW gg xs e f⟩])⟩⟩
def Ff(gg:aG)(xs:List J)(e:J)(f:J):Nat->aL:=(eS 0 (.a (Nat) (λ i=>i<=xs.length/\cE (fR gg) (xs.take i)=true) (λ i=>xs.length - i) [0,2,3,17,18,19,20,21,22,23,24,25] (λ i=>[(11, .aQ ⟨(.int .i64),((i:Int):Int)⟩)]) [] (λ i=>[(10, .box [.aQ ⟨(.int .i64),((cV (xs.take i)).ai:Int)⟩, .aQ ⟨(.int .i64),((cV (xs.take i)).aZ:Int)⟩, .aQ ⟨(.slice (.st .expr)),((cV (xs.take i)).O:List J)⟩])])) (eS 100010 (.u (Kx gg xs e f) [0,2,3,17,18,19,20,21,22,23,24,25] [] [] [(10, .box [.aQ ⟨(.int .i64),((cV xs).ai:Int)⟩, .aQ ⟨(.int .i64),((cV xs).aZ:Int)⟩, .aQ ⟨(.slice (.st .expr)),((cV xs).O:List J)⟩])] cB) cB))
abbrev Bo(gg:aG)(xs:List J)(e:J)(f:J):Prop:=(let v0:=aP (J.mk (7:Int) 0 [(aP (CL gg)),(J.mk (7:Int) 0 [(J.mk ((cV xs).ai) ((cV xs).aZ) ((cV xs).O)),(aP (CL gg))])]);let v2:=aP (J.mk (6:Int) 0 [e,v0]);let v3:=aP (J.mk (6:Int) 0 [f,v0]);let v1:=gE gg v2 v3;(au v1 ->
 ((yg gg v2 v3)=(vP gg xs e f)/\v1=(tW gg xs e f))))
abbrev Bp(gg:aG)(xs:List J)(e:J)(f:J):Prop:=(let v1:=(xs.length:Int);let v2:=false=(vP gg xs e f)/\(3:Int)=(tW gg xs e f);let v5:=cV xs;let v0:=aP (J.mk (7:Int) 0 [(aP (CL gg)),(J.mk (7:Int) 0 [(J.mk (v5.ai) (v5.aZ) (v5.O)),(aP (CL gg))])]);let v3 := !(dP gg (aP (J.mk (6:Int) 0 [e,v0])));let v4 := !(dP gg (aP (J.mk (6:Int) 0 [f,v0])));let v6:=Bo gg xs e f;let v7:=J.mk 1 0 [];(((∃ i1:Nat,let v8:=cV (xs.take i1);((i1<=xs.length/\cE (fR gg) (xs.take i1)=true)/\((xs=xs/\(gg=gg/\(e=e/\(f=f/\(True/\((0:Int)=(i1:Int)/\True))))))/\((v7.ai=(v8.ai)/\(v7.aZ=(v8.aZ)/\(v7.O=(v8.O)/\True)))/\True))))/\(∀ i1:Nat,let v9:=cV (xs.take i1);let va:=xs.getD i1 zE;let v8:=J.mk (6:Int) 0 [(J.mk (v9.ai) (v9.aZ) (v9.O)),va];let vb:=(i1:Int);((i1<=xs.length/\cE (fR gg) (xs.take i1)=true) ->
 (au v1 ->
 (((decide (vb<v1))=true ->
 (aE vb xs.length/\(((!(dP gg va))=true ->
 (false=(vP gg xs e f)/\(1:Int)=(tW gg xs e f)))/\((!(dP gg va))=false ->
 (aE vb xs.length/\(aU va<=1048576/\(au (vb+(1:Int))/\(∃ i2:Nat,let vc:=cV (xs.take i2);((i2<=xs.length/\cE (fR gg) (xs.take i2)=true)/\(xs.length - i2<xs.length - i1/\((xs=xs/\(gg=gg/\(e=e/\(f=f/\(True/\((vb+(1:Int))=(i2:Int)/\True))))))/\((v8.ai=(vc.ai)/\(v8.aZ=(vc.aZ)/\(v8.O=(vc.O)/\True)))/\True))))))))))))/\((decide (vb<v1))=false ->
 (∃ u2:Unit,(Kx gg xs e f/\((xs=xs/\(gg=gg/\(e=e/\(f=f/\(True/\True)))))/\(((v9.ai)=(v5.ai)/\((v9.aZ)=(v5.aZ)/\((v9.O)=(v5.O)/\True)))/\True))))))))))/\(∀ u1:Unit,(Kx gg xs e f ->
 (au v1 ->
 (((decide ((4:Int)<v1))=true ->
 (false=(vP gg xs e f)/\(2:Int)=(tW gg xs e f)))/\((decide ((4:Int)<v1))=false ->
 (ca gg=true/\(au (0) ->
 ((v3=false ->
 ((v4=true ->
 v2)/\(v4=false ->
 v6)))/\(v3=(!false) ->
 ((true=true ->
 v2)/\(true=false ->
 v6)))))))))))))
def Ah:aW.Good tg:=by
 refine⟨aD qQ,?_⟩;intro (gg:aG) (xs:List J) (e:J) (f:J) (hp:xs.length<=1048576);refine aV [wh,eW,ez,eV,xr,tf] [] [] [4,6,7] ⟨xb,fJ,gu,fI,C7,Ag,af⟩ qQ z8 (Ff gg xs e f) (let v0:=false=(vP gg xs e f)/\(1:Int)=(tW gg xs e f);let v1:=Bp gg xs e f;((((!(dP gg e))=false->(((!(dP gg f))=true->v0)/\((!(dP gg f))=false->v1)))/\((!(dP gg e))=(!false)->((true=true->v0)/\(true=false->v1)))))) ?_;refine⟨λ _=>⟨λ _=>⟨?_,?_⟩,λ _=>⟨⟨⟨0,?_,⟨rfl,rfl,rfl,rfl,af,?_,af⟩,⟨?_,?_,?_,af⟩,af⟩,λ i1 _ _=>⟨λ _=>⟨?_,λ _=>⟨?_,?_⟩,λ _=>⟨?_,?_,?_,i1+1,?_,?_,⟨rfl,rfl,rfl,rfl,af,?_,af⟩,⟨?_,?_,?_,af⟩,af⟩⟩,λ _=>⟨(),?_,⟨rfl,rfl,rfl,rfl,af,af⟩,⟨?_,?_,?_,af⟩,af⟩⟩⟩,λ u1 _ _=>⟨λ _=>⟨?_,?_⟩,λ _=>⟨?_,λ _=>⟨λ _=>⟨λ _=>⟨?_,?_⟩,λ _ _=>⟨?_,?_⟩⟩,λ _=>⟨λ _=>⟨?_,?_⟩,λ _ _=>⟨?_,?_⟩⟩⟩⟩⟩⟩⟩,λ _=>⟨λ _=>⟨?_,?_⟩,λ _=>⟨⟨⟨0,?_,⟨rfl,rfl,rfl,rfl,af,?_,af⟩,⟨?_,?_,?_,af⟩,af⟩,λ i1 _ _=>⟨λ _=>⟨?_,λ _=>⟨?_,?_⟩,λ _=>⟨?_,?_,?_,i1+1,?_,?_,⟨rfl,rfl,rfl,rfl,af,?_,af⟩,⟨?_,?_,?_,af⟩,af⟩⟩,λ _=>⟨(),?_,⟨rfl,rfl,rfl,rfl,af,af⟩,⟨?_,?_,?_,af⟩,af⟩⟩⟩,λ u1 _ _=>⟨λ _=>⟨?_,?_⟩,λ _=>⟨?_,λ _=>⟨λ _=>⟨λ _=>⟨?_,?_⟩,λ _ _=>⟨?_,?_⟩⟩,λ _=>⟨λ _=>⟨?_,?_⟩,λ _ _=>⟨?_,?_⟩⟩⟩⟩⟩⟩⟩⟩;all_goals try and_intros
 all_goals try (first|with_reducible rfl|with_reducible assumption)
 all_goals try simp only[J.eta,cu] at *
 all_goals (try simp only[Bool.not_eq_true',Bool.not_eq_false',Bool.not_true,Bool.not_false,Bool.false_eq_true,Bool.true_eq_false,decide_eq_true_eq,decide_eq_false_iff_not,aE,au,bB,Int.toNat_natCast,Hq,Bool.and_eq_true] at *);first|done|with_reducible assumption|with_reducible rfl|exact trivial|omega|exact congrArg J.ai (Cy (by omega))|exact congrArg J.aZ (Cy (by omega))|exact congrArg J.O (Cy (by omega))|exact congrArg J.ai (yN (by omega))|exact congrArg J.aZ (yN (by omega))|exact congrArg J.O (yN (by omega))|exact (VN (by with_reducible assumption) (by omega)).1|exact (VN (by with_reducible assumption) (by omega)).2|exact (VO (by with_reducible assumption) (by omega) (by rintro⟨q1,q2⟩;unfold tX at q1 q2;simp_all [dP])).1|exact (VO (by with_reducible assumption) (by omega) (by rintro⟨q1,q2⟩;unfold tX at q1 q2;simp_all [dP])).2|exact (VP (by with_reducible assumption) (by omega) ⟨V9 (by with_reducible assumption),V9 (by with_reducible assumption)⟩).1|exact (VP (by with_reducible assumption) (by omega) ⟨V9 (by with_reducible assumption),V9 (by with_reducible assumption)⟩).2|exact (Pw (XY (by with_reducible assumption) (by with_reducible assumption) (by omega))).1|exact (Pw (XY (by with_reducible assumption) (by with_reducible assumption) (by omega))).2|exact (Pw (by rintro⟨q1,q2,q3⟩;simp_all [dP])).1|exact (Pw (by rintro⟨q1,q2,q3⟩;simp_all [dP])).2|exact a4v (by with_reducible assumption) (by with_reducible assumption) (And.right (by with_reducible assumption)) (by omega)|exact a3S (by with_reducible assumption)|exact (a4t (And.right (by with_reducible assumption)) (by with_reducible assumption) (by with_reducible assumption) (by omega))|exact Wa (Kx.p (by with_reducible assumption))|exact all_zero (fR gg) xs|(simp[cV];done)
def uc:aW:=⟨fX,[.v (.st .sig), .v (.slice (.st .expr)), .v (.st .expr), .v (.st .expr)],λ (gg:aG) (xs:List J) (e:J) (f:J)=>⟨(none,[⟨.bool,true⟩])⟩⟩
def ud(gg:aG)(xs:List J)(e:J)(f:J):Nat->aL:=cB
abbrev rp(xs:List J)(e:J)(f:J):Prop:=(xs.length+cg aU xs<=1048576/\(xs.length<=140737488355328 ->
 (((!(dT xs xs))=true ->
 false=true)/\((!(dT xs xs))=false ->
 (aU e<=1048576/\(((!(dT (aP e) e))=true ->
 false=true)/\((!(dT (aP e) e))=false ->
 (aU f<=1048576/\(((!(dT (aP f) f))=true ->
 false=true)/\((!(dT (aP f) f))=false ->
 true=true))))))))))
def qe:aW.Good uc:=by
 refine⟨aD jB,?_⟩;intro (gg:aG) (xs:List J) (e:J) (f:J) _;refine aV [zt,Bu,zu,Bv,DD,tg,sZ,zq,Bt] [] [] [4,6,7] ⟨EF,GI,EG,GJ,Ix,Ah,Af,EE,GH,af⟩ jB pB (ud gg xs e f) (let v0:=lD (xs.length+cg aU xs) (1048576:Int);let v1:=lD (aU e) v0;let v3 := !((vP gg xs (aP e) (aP f)) == (vP gg xs e f));let v4:=decide ((lD (aU f) v1)<(0:Int));let v5:=rp xs e f;let v6:=tW gg xs (aP e) (aP f);let v2 := !(decide (v6=(tW gg xs e f)));(((0<=(1048576:Int)/\(1048576:Int)<=1048576)/\(au v0->(((decide (v0<(0:Int)))=true->true=true)/\((decide (v0<(0:Int)))=false->((0<=v0/\v0<=1048576)/\(au v1->(((decide (v1<(0:Int)))=true->true=true)/\((decide (v1<(0:Int)))=false->((0<=v1/\v1<=1048576)/\(au (lD (aU f) v1)->((v4=true->true=true)/\(v4=false->(xs.length+cg aU xs<=1048576/\(aU e<=1048576/\(aU f<=1048576/\(xs.length<=1048576/\(xs.length<=140737488355328->(au (tW gg xs e f)->(xs.length+cg aU xs<=1048576/\(xs.length<=140737488355328->(aU e<=1048576/\(aU f<=1048576/\(xs.length<=1048576/\(au v6->((v3=false->((v2=true->false=true)/\(v2=false->v5)))/\(v3=(!false)->((true=true->false=true)/\(true=false->v5)))))))))))))))))))))))))))))) ?_;have f0:=kM (xs.length+cg aU xs) 1048576;have f1:=kM (aU e) (lD (xs.length+cg aU xs) 1048576);have f2:=kM (aU f) (lD (aU e) (lD (xs.length+cg aU xs) 1048576));refine⟨?_,λ _=>⟨λ _=>rfl,λ _=>⟨?_,λ _=>⟨λ _=>rfl,λ _=>⟨?_,λ _=>⟨λ _=>rfl,λ _=>⟨?_,?_,?_,?_,λ _ _=>⟨?_,λ _=>⟨?_,?_,?_,λ _=>⟨λ _=>⟨λ _=>?_,λ _=>⟨?_,λ _=>⟨λ _=>?_,λ _=>⟨?_,λ _=>?_,λ _=>⟨?_,λ _=>?_,λ _=>rfl⟩⟩⟩⟩⟩,λ _=>⟨λ _=>?_,λ _=>⟨?_,λ _=>⟨λ _=>?_,λ _=>⟨?_,λ _=>?_,λ _=>⟨?_,λ _=>?_,λ _=>rfl⟩⟩⟩⟩⟩⟩⟩⟩⟩⟩⟩⟩⟩⟩⟩;all_goals try and_intros
 all_goals try (first|with_reducible rfl|with_reducible assumption)
 all_goals try simp only[J.eta,cu] at *
 all_goals first|rfl|trivial|omega|(simp only[a7D,a7C,aE,au,cI,iE,cN,bB] at *;omega)|(simp[aE,au] at *;omega)|grind|(simp_all;done)
def yA:∀ HW:List TV,HW.map TV.τ=[(.st .sig),(.slice (.st .expr)),(.st .expr),(.st .expr)]->fO prog fX (HW.map .val) (·=[⟨.bool,true⟩]):=by
 intro HW h;match HW,h with
 | [⟨t0,a0⟩,⟨t1,a1⟩,⟨t2,a2⟩,⟨t3,a3⟩],h =>
  simp only[a8d,a9h,a7A,a7W] at h;obtain⟨rfl,rfl,rfl,rfl⟩:=h;exact qe.2 a0 a1 a2 a3 trivial
end
end Go.Proofs.YtncejbehidimmaaGreatDoor

/- VmXAuto3, VmXAuto4, VmXAuto5, VmXAuto6, VmFAuto. -/
import Derived.Test.YtofnjfpeimhifaaGreatDoorVmXAuto2
import Derived.WalkKit
import Derived.LoopTactic
import Derived.StillTailTactics
import Derived.BigQuiet
set_option linter.all false
set_option maxHeartbeats 4000000
set_option maxRecDepth 4000
namespace Go.Proofs.YtofnjfpeimhifaaGreatDoor
def b1n:=@Bool.and_false
def b3l:=@List.getD_cons_zero
def b2c:=@List.of_mem_zip
def b2J:=@Go.wpStill_step
def b2g:=@List.map_eq_nil_iff
noncomputable section
def Ny(a:aj):aOk a=(HF a&&wa (xp a) a.accept.length):=rfl
def XR(a:aj):HF a=(cG a.sig&&decide (1<=a.accept.length/\a.accept.length<=60)&&decide (a.next.length=a.accept.length)):=rfl
def JF(a:aj)(i:Nat):xp a i=(decide (((a.accept.getD i []).length:Int)=aV a.sig)&&decide (((a.next.getD i []).length:Int)=aV a.sig)&&bX (xn a.sig a.accept.length) (a.next.getD i [])):=rfl
def JA(g:aF)(n:Int)(r:List Int):xn g n r=(decide ((r.length:Int)=g.au)&&bX (Vh n) r):=rfl
def Yn(n k:Int):Vh n k=decide (-1<=k/\k<=n - 1):=rfl
def a2B(a:aj)(h:HF a=true):(0<=a.sig.aK/\a.sig.aK<=3)/\a.accept.length<=60/\a.next.length=a.accept.length:=by
 simp only[HF,a9e,a9d] at h;exact⟨((dA _).1 h.1.1).1,h.1.2.2,h.2⟩
def D0(a:aj)(h:cG a.sig=false\/¬ (1<=a.accept.length/\a.accept.length<=60)\/¬ a.next.length=a.accept.length):aOk a=false:=by
 have:HF a=false:=by
  unfold HF;rcases h with h|h|h
  .rw[h];rfl
  .rw[b0D h,b1n];rfl
  .rw[b0D h,b1n]
 rw[Ny,this];rfl
def a0b(a:aj)(h:cG a.sig=true)(h2:1<=a.accept.length/\a.accept.length<=60)(h3:a.next.length=a.accept.length):HF a=true:=by
 rw[XR,h,a9Z h2,a9Z h3];rfl
def Ss(a:aj)(i:Nat)(hi:i<a.accept.length)(h:xp a i=false):aOk a=false:=by
 rw[Ny,Rp _ _ i hi h,b1n]
def VX(a:aj)(i k:Nat)(hk:k<(a.next.getD i []).length)(h:xn a.sig a.accept.length ((a.next.getD i []).getD k [])=false):xp a i=false:=by
 rw[JF,dJ _ [] _ k hk h,b1n]
def ZJ(a:aj)(i:Nat)(h:¬ ((a.accept.getD i []).length:Int)=aV a.sig\/¬ ((a.next.getD i []).length:Int)=aV a.sig):xp a i=false:=by
 rw[JF];rcases h with h|h
 .rw[b0D h];rfl
 .rw[b0D h,b1n];rfl
def ZK(a:aj)(i:Nat)(h:((a.accept.getD i []).length:Int)=aV a.sig)(h2:((a.next.getD i []).length:Int)=aV a.sig)(k:Nat)(hk:(a.next.getD i []).length<=k)(h3:bX (xn a.sig a.accept.length) ((a.next.getD i []).take k)=true):xp a i=true:=by
 rw[a9A hk] at h3;rw[JF,a9Z h,a9Z h2,h3];rfl
def a1N(g:aF)(n:Int)(r:List Int)(x:Nat)(hx:x<r.length)(h:¬ (-1<=r.getD x 0/\r.getD x 0<=n - 1)):xn g n r=false:=by
 rw[JA,dJ _ 0 _ x hx (b0D h),b1n]
def Zz(g:aF)(n:Int)(r:List Int)(h:¬ (r.length:Int)=g.au):xn g n r=false:=by
 rw[JA,b0D h];rfl
def ZA(g:aF)(n:Int)(r:List Int)(h:(r.length:Int)=g.au)(x:Nat)(hx:r.length<=x)(h2:bX (Vh n) (r.take x)=true):xn g n r=true:=by
 rw[a9A hx] at h2;rw[JA,a9Z h,h2];rfl
def a5z(n:Int)(r:List Int)(x:Nat)(hx:x<r.length)(h:bX (Vh n) (r.take x)=true)(hk : -1<=r.getD x 0/\r.getD x 0<=n - 1):bX (Vh n) (r.take (x+1))=true:=by
 rw[de _ 0 r x hx,h,Yn,a9Z hk];rfl
def a5J(g:aF)(n:Int)(R:List (List Int))(k:Nat)(hk:k<R.length)(h:bX (xn g n) (R.take k)=true)(h2:xn g n (R.getD k [])=true):bX (xn g n) (R.take (k+1))=true:=by
 rw[de _ [] R k hk,h,h2];rfl
def a5O(a:aj)(i:Nat)(h:wa (xp a) i=true)(h2:xp a i=true):wa (xp a) (i+1)=true:=by
 rw[N4,h,h2];rfl
def a0c(a:aj)(i:Nat)(hi:a.accept.length=i)(h:HF a=true)(h2:wa (xp a) i=true):aOk a=true:=by
 rw[Ny,h,hi,h2];rfl
structure yd(a:aj)(i:Nat):Prop where
 le:i<=a.accept.length
 hd:HF a=true
 al:wa (xp a) i=true
structure xy(a:aj)(i k:Nat):Prop where
 lt:i<a.accept.length
 hd:HF a=true
 al:wa (xp a) i=true
 e1:((a.accept.getD i []).length:Int)=aV a.sig
 e2:((a.next.getD i []).length:Int)=aV a.sig
 le:k<=(a.next.getD i []).length
 rs:bX (xn a.sig a.accept.length) ((a.next.getD i []).take k)=true
structure ye(a:aj)(i k x:Nat):Prop where
 p:xy a i k
 lt:k<(a.next.getD i []).length
 e:(((a.next.getD i []).getD k []).length:Int)=a.sig.au
 le:x<=((a.next.getD i []).getD k []).length
 ks:bX (Vh a.accept.length) (((a.next.getD i []).getD k []).take x)=true
structure VNN(a:aj):Prop where
 t0:0<=a.sig.aK
 t3:a.sig.aK<=3
 n0:1<=a.accept.length
 n:a.accept.length<=60
 nx:a.next.length=a.accept.length
def vnn{a:aj}(h:HF a=true):VNN a:=by
 have q:=a2B a h;simp only[HF,a9e,a9d] at h;exact⟨q.1.1,q.1.2,h.1.2.1,q.2.1,q.2.2⟩
def V8{a:aj}(h:cG a.sig=true)(h2:1<=a.accept.length/\a.accept.length<=60)(h3:a.next.length=a.accept.length):yd a 0:=⟨a9F _,a0b a h h2 h3,rfl⟩
def yd.bad{a:aj}{i:Nat}(v:yd a i)(hi:i<a.accept.length)(h:¬ ((a.accept.getD i []).length:Int)=aV a.sig\/¬ ((a.next.getD i []).length:Int)=aV a.sig):false=aOk a:=(Ss a i hi (ZJ a i h)).symm
def yd.to1{a:aj}{i:Nat}(v:yd a i)(hi:i<a.accept.length)(h1:((a.accept.getD i []).length:Int)=aV a.sig)(h2:((a.next.getD i []).length:Int)=aV a.sig):xy a i 0:=⟨hi,v.hd,v.al,h1,h2,a9F _,rfl⟩
def yd.done{a:aj}{i:Nat}(v:yd a i)(hi:a.accept.length<=i):true=aOk a:=(a0c a i (by have:=v.le;omega) v.hd v.al).symm
def xy.len{a:aj}{i k:Nat}(v:xy a i k)(hk:k<(a.next.getD i []).length)(h:¬ (((a.next.getD i []).getD k []).length:Int)=a.sig.au):false=aOk a:=(Ss a i v.lt (VX a i k hk (Zz _ _ _ h))).symm
def xy.to2{a:aj}{i k:Nat}(v:xy a i k)(hk:k<(a.next.getD i []).length)(h:(((a.next.getD i []).getD k []).length:Int)=a.sig.au):ye a i k 0:=⟨v,hk,h,a9F _,rfl⟩
def xy.done{a:aj}{i k:Nat}(v:xy a i k)(hk:(a.next.getD i []).length<=k):yd a (i+1):=⟨v.lt,v.hd,a5O a i v.al (ZK a i v.e1 v.e2 k hk v.rs)⟩
def ye.bad{a:aj}{i k x:Nat}(v:ye a i k x)(hx:x<((a.next.getD i []).getD k []).length)(h:¬ (-1<=((a.next.getD i []).getD k []).getD x 0/\((a.next.getD i []).getD k []).getD x 0<=(a.accept.length:Int) - 1)):false=aOk a:=(Ss a i v.p.lt (VX a i k v.lt (a1N _ _ _ x hx h))).symm
def ye.next{a:aj}{i k x:Nat}(v:ye a i k x)(hx:x<((a.next.getD i []).getD k []).length)(h : -1<=((a.next.getD i []).getD k []).getD x 0/\((a.next.getD i []).getD k []).getD x 0<=(a.accept.length:Int) - 1):ye a i k (x+1):=⟨v.p,v.lt,v.e,hx,a5z _ _ x hx v.ks h⟩
def ye.done{a:aj}{i k x:Nat}(v:ye a i k x)(hx:((a.next.getD i []).getD k []).length<=x):xy a i (k+1):=⟨v.p.lt,v.p.hd,v.p.al,v.p.e1,v.p.e2,v.lt,a5J _ _ _ k v.lt v.p.rs (ZA _ _ _ v.e x hx v.ks)⟩
def yd.l{a:aj}{i:Nat}(v:yd a i):VNN a/\i<=a.accept.length:=⟨vnn v.hd,v.le⟩
def xy.l{a:aj}{i k:Nat}(v:xy a i k):VNN a/\i<a.accept.length/\k<=(a.next.getD i []).length:=⟨vnn v.hd,v.lt,v.le⟩
def ye.l{a:aj}{i k x:Nat}(v:ye a i k x):VNN a/\i<a.accept.length/\k<(a.next.getD i []).length/\x<=((a.next.getD i []).getD k []).length:=⟨vnn v.p.hd,v.p.lt,v.lt,v.le⟩
def iX:aX:=⟨oz,[.v (.st .automaton)],λ (a:aj)=>⟨(none,[⟨.bool,aOk a⟩])⟩⟩
def AF(a:aj):Nat->aJ:=(eA 0 (.mk (Nat) (λ i=>yd a i) (λ i=>a.accept.length - i) [] [0,9,10,11,12,13,14,15,16,17,18,19,20,21,22,23,24,25,26,27,28,29,30] (λ i=>[(32, .aN ⟨(.int .i64),((i:Int):Int)⟩)]) [] (λ i=>[]) [] [] (λ i=>(eA 2 (.mk (Nat) (λ k=>xy a i k) (λ k=>(a.next.getD i []).length - k) [] [4,33,34,35,36,37,38,39,40,41,42,43,44,45,46,47,48,49,50,51,52,53,54,55,56,57,58,59,60] (λ k=>[(63, .aN ⟨(.int .i64),((k:Int):Int)⟩)]) [] (λ k=>[]) [] [] (λ k=>(eA 4 (.b (Nat) (λ x=>ye a i k x) (λ x=>((a.next.getD i []).getD k []).length - x) [6,64,65,66,67,68,69,70,71,72] (λ x=>[(75, .aN ⟨(.int .i64),((x:Int):Int)⟩)])) cj))) cj))) cj)
abbrev mh(a:aj)(i1:Nat):Prop:=(let v0:=a.next.getD i1 [];let v1:=(a.accept.length:Int);let v2:=(v0.length:Int);let v3:=(i1:Int);let v4:=(1:Int);let v5:=(0:Int);(a.next.length<=140737488355328 ->
 (aB v3 a.next.length/\(v0.length<=140737488355328 ->
 (ai v2 ->
 ((∃ k2:Nat,(xy a i1 k2/\((a=a/\(v1=v1/\(v1=v1/\(v3=v3/\(v0=v0/\(v2=v2/\(v5=(k2:Int)/\True)))))))/\True)))/\(∀ k2:Nat,let v6:=v0.getD k2 [];let v7:=(v6.length:Int);let v8:=(k2:Int);let v9 := !(decide (v7=a.sig.au));(xy a i1 k2 ->
 (((decide (v8<v2))=true ->
 (aB v8 v0.length/\(v6.length<=140737488355328 ->
 (ai v7 ->
 (ai a.sig.au ->
 ((v9=true ->
 false=(aOk a))/\(v9=false ->
 (ai v7 ->
 ((∃ x3:Nat,(ye a i1 k2 x3/\((a=a/\(v1=v1/\(v1=v1/\(v3=v3/\(v0=v0/\(v2=v2/\(v8=v8/\(v6=v6/\(v7=v7/\(v5=(x3:Int)/\True))))))))))/\True)))/\(∀ x3:Nat,let va := !(decide ((-1:Int)<=(v6.getD x3 v5)/\(v6.getD x3 v5)<=(v1 - v4)));(ye a i1 k2 x3 ->
 (((decide ((x3:Int)<v7))=true ->
 (aB (x3:Int) v6.length/\(ai (v6.getD x3 v5) ->
 (ai (v1 - v4)/\(((va=true) ->
 false=(aOk a))/\((va=false) ->
 (ai ((x3:Int)+v4)/\(∃ x4:Nat,(ye a i1 k2 x4/\(v6.length - x4<v6.length - x3/\((a=a/\(v1=v1/\(v1=v1/\(v3=v3/\(v0=v0/\(v2=v2/\(v8=v8/\(v6=v6/\(v7=v7/\(((x3:Int)+v4)=(x4:Int)/\True))))))))))/\True)))))))))))/\((decide ((x3:Int)<v7))=false ->
 (ai (v8+v4)/\(∃ k4:Nat,(xy a i1 k4/\(v0.length - k4<v0.length - k2/\((a=a/\(v1=v1/\(v1=v1/\(v3=v3/\(v0=v0/\(v2=v2/\((v8+v4)=(k4:Int)/\True)))))))/\True))))))))))))))))))/\((decide (v8<v2))=false ->
 (ai (v3+v4)/\(∃ i3:Nat,(yd a i3/\(a.accept.length - i3<a.accept.length - i1/\((a=a/\(v1=v1/\(v1=v1/\((v3+v4)=(i3:Int)/\True))))/\True)))))))))))))))
abbrev gL(a:aj):Prop:=(let v0:=(a.accept.length:Int);let v1:=aV a.sig;let v2:=0<=a.sig.aK/\a.sig.aK<=3;((∃ i1:Nat,(yd a i1/\((a=a/\(v0=v0/\(v0=v0/\((0:Int)=(i1:Int)/\True))))/\True)))/\(∀ i1:Nat,let v4:=((a.next.getD i1 []).length:Int);let v5:=a.accept.getD i1 [];let v3:=(v5.length:Int);(yd a i1 ->
 (((decide ((i1:Int)<v0))=true ->
 (aB (i1:Int) a.accept.length/\(v2/\(((!(decide (v3=v1)))=false ->
 (aB (i1:Int) a.next.length/\(v2/\(a.accept.length<=140737488355328 ->
 (v5.length<=140737488355328 ->
 (ai v3 ->
 (ai v1 ->
 (a.next.length<=140737488355328 ->
 ((a.next.getD i1 []).length<=140737488355328 ->
 (ai v4 ->
 (ai v1 ->
 (((!(decide (v4=v1)))=true ->
 false=(aOk a))/\((!(decide (v4=v1)))=false ->
 (mh a i1))))))))))))))/\((!(decide (v3=v1)))=(!false) ->
 (a.accept.length<=140737488355328 ->
 (v5.length<=140737488355328 ->
 (ai v3 ->
 (ai v1 ->
 ((true=true ->
 false=(aOk a))/\(true=false ->
 (mh a i1))))))))))))/\((decide ((i1:Int)<v0))=false ->
 true=(aOk a)))))))
abbrev mi(a:aj):Prop:=(let v0 := !(decide (((a.next.length:Int))=((a.accept.length:Int))));(a.next.length<=140737488355328 ->
 (ai ((a.next.length:Int)) ->
 ((v0=true ->
 false=(aOk a))/\(v0=false ->
 (gL a))))))
abbrev mj(a:aj):Prop:=(let v0:=decide ((60:Int)<((a.accept.length:Int)));((v0=false ->
 (mi a))/\(v0=(!false) ->
 ((true=true ->
 false=(aOk a))/\(true=false ->
 (gL a))))))
abbrev mn(a:aj):Prop:=((true=false ->
 (mi a))/\(true=(!false) ->
 ((true=true ->
 false=(aOk a))/\(true=false ->
 (gL a)))))
def lH:aX.Good iX:=by
 refine⟨aD nk,?_⟩;intro (a:aj) _;refine aY [pK,jj,fP] [] [] [1] ⟨sH,iT,gA,U⟩ nk vP (AF a) (let v0:=decide (((a.accept.length:Int))<(1:Int));((a.accept.length<=140737488355328->(ai ((a.accept.length:Int))->(((!(cG a.sig))=false->((v0=false->(mj a))/\(v0=(!false)->(mn a))))/\((!(cG a.sig))=(!false)->((true=false->(mj a))/\(true=(!false)->(mn a))))))))) ?_;refine λ _ _=>⟨λ _=>⟨λ _=>⟨λ _ _ _=>⟨λ _=>?_,λ _=>⟨⟨0,?_,⟨rfl,rfl,rfl,?_,U⟩,U⟩,λ i1 _=>⟨λ _=>⟨?_,?_,λ _=>⟨?_,?_,λ _ _ _ _ _ _ _ _=>⟨λ _=>?_,λ _ _=>⟨?_,λ _ _=>⟨⟨0,?_,⟨rfl,rfl,rfl,rfl,rfl,rfl,?_,U⟩,U⟩,λ k2 _=>⟨λ _=>⟨?_,λ _ _ _=>⟨λ _=>?_,λ _ _=>⟨⟨0,?_,⟨rfl,rfl,rfl,rfl,rfl,rfl,rfl,rfl,rfl,?_,U⟩,U⟩,λ x3 _=>⟨λ _=>⟨?_,λ _=>⟨?_,λ _=>?_,λ _=>⟨?_,x3+1,?_,?_,⟨rfl,rfl,rfl,rfl,rfl,rfl,rfl,rfl,rfl,?_,U⟩,U⟩⟩⟩,λ _=>⟨?_,k2+1,?_,?_,⟨rfl,rfl,rfl,rfl,rfl,rfl,?_,U⟩,U⟩⟩⟩⟩⟩,λ _=>⟨?_,i1+1,?_,?_,⟨rfl,rfl,rfl,?_,U⟩,U⟩⟩⟩⟩⟩⟩,λ _ _ _ _ _=>⟨λ _=>?_,λ _ _=>⟨?_,λ _ _=>⟨⟨0,?_,⟨rfl,rfl,rfl,rfl,rfl,rfl,?_,U⟩,U⟩,λ k2 _=>⟨λ _=>⟨?_,λ _ _ _=>⟨λ _=>?_,λ _ _=>⟨⟨0,?_,⟨rfl,rfl,rfl,rfl,rfl,rfl,rfl,rfl,rfl,?_,U⟩,U⟩,λ x3 _=>⟨λ _=>⟨?_,λ _=>⟨?_,λ _=>?_,λ _=>⟨?_,x3+1,?_,?_,⟨rfl,rfl,rfl,rfl,rfl,rfl,rfl,rfl,rfl,?_,U⟩,U⟩⟩⟩,λ _=>⟨?_,k2+1,?_,?_,⟨rfl,rfl,rfl,rfl,rfl,rfl,?_,U⟩,U⟩⟩⟩⟩⟩,λ _=>⟨?_,i1+1,?_,?_,⟨rfl,rfl,rfl,?_,U⟩,U⟩⟩⟩⟩⟩⟩,λ _=>?_⟩⟩⟩,λ _=>⟨λ _=>?_,λ _=>⟨⟨0,?_,⟨rfl,rfl,rfl,?_,U⟩,U⟩,λ i1 _=>⟨λ _=>⟨?_,?_,λ _=>⟨?_,?_,λ _ _ _ _ _ _ _ _=>⟨λ _=>?_,λ _ _=>⟨?_,λ _ _=>⟨⟨0,?_,⟨rfl,rfl,rfl,rfl,rfl,rfl,?_,U⟩,U⟩,λ k2 _=>⟨λ _=>⟨?_,λ _ _ _=>⟨λ _=>?_,λ _ _=>⟨⟨0,?_,⟨rfl,rfl,rfl,rfl,rfl,rfl,rfl,rfl,rfl,?_,U⟩,U⟩,λ x3 _=>⟨λ _=>⟨?_,λ _=>⟨?_,λ _=>?_,λ _=>⟨?_,x3+1,?_,?_,⟨rfl,rfl,rfl,rfl,rfl,rfl,rfl,rfl,rfl,?_,U⟩,U⟩⟩⟩,λ _=>⟨?_,k2+1,?_,?_,⟨rfl,rfl,rfl,rfl,rfl,rfl,?_,U⟩,U⟩⟩⟩⟩⟩,λ _=>⟨?_,i1+1,?_,?_,⟨rfl,rfl,rfl,?_,U⟩,U⟩⟩⟩⟩⟩⟩,λ _ _ _ _ _=>⟨λ _=>?_,λ _ _=>⟨?_,λ _ _=>⟨⟨0,?_,⟨rfl,rfl,rfl,rfl,rfl,rfl,?_,U⟩,U⟩,λ k2 _=>⟨λ _=>⟨?_,λ _ _ _=>⟨λ _=>?_,λ _ _=>⟨⟨0,?_,⟨rfl,rfl,rfl,rfl,rfl,rfl,rfl,rfl,rfl,?_,U⟩,U⟩,λ x3 _=>⟨λ _=>⟨?_,λ _=>⟨?_,λ _=>?_,λ _=>⟨?_,x3+1,?_,?_,⟨rfl,rfl,rfl,rfl,rfl,rfl,rfl,rfl,rfl,?_,U⟩,U⟩⟩⟩,λ _=>⟨?_,k2+1,?_,?_,⟨rfl,rfl,rfl,rfl,rfl,rfl,?_,U⟩,U⟩⟩⟩⟩⟩,λ _=>⟨?_,i1+1,?_,?_,⟨rfl,rfl,rfl,?_,U⟩,U⟩⟩⟩⟩⟩⟩,λ _=>?_⟩⟩⟩⟩,λ _=>⟨λ _ _ _=>⟨λ _=>?_,λ _=>⟨⟨0,?_,⟨rfl,rfl,rfl,?_,U⟩,U⟩,λ i1 _=>⟨λ _=>⟨?_,?_,λ _=>⟨?_,?_,λ _ _ _ _ _ _ _ _=>⟨λ _=>?_,λ _ _=>⟨?_,λ _ _=>⟨⟨0,?_,⟨rfl,rfl,rfl,rfl,rfl,rfl,?_,U⟩,U⟩,λ k2 _=>⟨λ _=>⟨?_,λ _ _ _=>⟨λ _=>?_,λ _ _=>⟨⟨0,?_,⟨rfl,rfl,rfl,rfl,rfl,rfl,rfl,rfl,rfl,?_,U⟩,U⟩,λ x3 _=>⟨λ _=>⟨?_,λ _=>⟨?_,λ _=>?_,λ _=>⟨?_,x3+1,?_,?_,⟨rfl,rfl,rfl,rfl,rfl,rfl,rfl,rfl,rfl,?_,U⟩,U⟩⟩⟩,λ _=>⟨?_,k2+1,?_,?_,⟨rfl,rfl,rfl,rfl,rfl,rfl,?_,U⟩,U⟩⟩⟩⟩⟩,λ _=>⟨?_,i1+1,?_,?_,⟨rfl,rfl,rfl,?_,U⟩,U⟩⟩⟩⟩⟩⟩,λ _ _ _ _ _=>⟨λ _=>?_,λ _ _=>⟨?_,λ _ _=>⟨⟨0,?_,⟨rfl,rfl,rfl,rfl,rfl,rfl,?_,U⟩,U⟩,λ k2 _=>⟨λ _=>⟨?_,λ _ _ _=>⟨λ _=>?_,λ _ _=>⟨⟨0,?_,⟨rfl,rfl,rfl,rfl,rfl,rfl,rfl,rfl,rfl,?_,U⟩,U⟩,λ x3 _=>⟨λ _=>⟨?_,λ _=>⟨?_,λ _=>?_,λ _=>⟨?_,x3+1,?_,?_,⟨rfl,rfl,rfl,rfl,rfl,rfl,rfl,rfl,rfl,?_,U⟩,U⟩⟩⟩,λ _=>⟨?_,k2+1,?_,?_,⟨rfl,rfl,rfl,rfl,rfl,rfl,?_,U⟩,U⟩⟩⟩⟩⟩,λ _=>⟨?_,i1+1,?_,?_,⟨rfl,rfl,rfl,?_,U⟩,U⟩⟩⟩⟩⟩⟩,λ _=>?_⟩⟩⟩,λ _=>⟨λ _=>?_,λ _=>⟨⟨0,?_,⟨rfl,rfl,rfl,?_,U⟩,U⟩,λ i1 _=>⟨λ _=>⟨?_,?_,λ _=>⟨?_,?_,λ _ _ _ _ _ _ _ _=>⟨λ _=>?_,λ _ _=>⟨?_,λ _ _=>⟨⟨0,?_,⟨rfl,rfl,rfl,rfl,rfl,rfl,?_,U⟩,U⟩,λ k2 _=>⟨λ _=>⟨?_,λ _ _ _=>⟨λ _=>?_,λ _ _=>⟨⟨0,?_,⟨rfl,rfl,rfl,rfl,rfl,rfl,rfl,rfl,rfl,?_,U⟩,U⟩,λ x3 _=>⟨λ _=>⟨?_,λ _=>⟨?_,λ _=>?_,λ _=>⟨?_,x3+1,?_,?_,⟨rfl,rfl,rfl,rfl,rfl,rfl,rfl,rfl,rfl,?_,U⟩,U⟩⟩⟩,λ _=>⟨?_,k2+1,?_,?_,⟨rfl,rfl,rfl,rfl,rfl,rfl,?_,U⟩,U⟩⟩⟩⟩⟩,λ _=>⟨?_,i1+1,?_,?_,⟨rfl,rfl,rfl,?_,U⟩,U⟩⟩⟩⟩⟩⟩,λ _ _ _ _ _=>⟨λ _=>?_,λ _ _=>⟨?_,λ _ _=>⟨⟨0,?_,⟨rfl,rfl,rfl,rfl,rfl,rfl,?_,U⟩,U⟩,λ k2 _=>⟨λ _=>⟨?_,λ _ _ _=>⟨λ _=>?_,λ _ _=>⟨⟨0,?_,⟨rfl,rfl,rfl,rfl,rfl,rfl,rfl,rfl,rfl,?_,U⟩,U⟩,λ x3 _=>⟨λ _=>⟨?_,λ _=>⟨?_,λ _=>?_,λ _=>⟨?_,x3+1,?_,?_,⟨rfl,rfl,rfl,rfl,rfl,rfl,rfl,rfl,rfl,?_,U⟩,U⟩⟩⟩,λ _=>⟨?_,k2+1,?_,?_,⟨rfl,rfl,rfl,rfl,rfl,rfl,?_,U⟩,U⟩⟩⟩⟩⟩,λ _=>⟨?_,i1+1,?_,?_,⟨rfl,rfl,rfl,?_,U⟩,U⟩⟩⟩⟩⟩⟩,λ _=>?_⟩⟩⟩⟩⟩,λ _=>⟨λ _=>⟨λ _ _ _=>⟨λ _=>?_,λ _=>⟨⟨0,?_,⟨rfl,rfl,rfl,?_,U⟩,U⟩,λ i1 _=>⟨λ _=>⟨?_,?_,λ _=>⟨?_,?_,λ _ _ _ _ _ _ _ _=>⟨λ _=>?_,λ _ _=>⟨?_,λ _ _=>⟨⟨0,?_,⟨rfl,rfl,rfl,rfl,rfl,rfl,?_,U⟩,U⟩,λ k2 _=>⟨λ _=>⟨?_,λ _ _ _=>⟨λ _=>?_,λ _ _=>⟨⟨0,?_,⟨rfl,rfl,rfl,rfl,rfl,rfl,rfl,rfl,rfl,?_,U⟩,U⟩,λ x3 _=>⟨λ _=>⟨?_,λ _=>⟨?_,λ _=>?_,λ _=>⟨?_,x3+1,?_,?_,⟨rfl,rfl,rfl,rfl,rfl,rfl,rfl,rfl,rfl,?_,U⟩,U⟩⟩⟩,λ _=>⟨?_,k2+1,?_,?_,⟨rfl,rfl,rfl,rfl,rfl,rfl,?_,U⟩,U⟩⟩⟩⟩⟩,λ _=>⟨?_,i1+1,?_,?_,⟨rfl,rfl,rfl,?_,U⟩,U⟩⟩⟩⟩⟩⟩,λ _ _ _ _ _=>⟨λ _=>?_,λ _ _=>⟨?_,λ _ _=>⟨⟨0,?_,⟨rfl,rfl,rfl,rfl,rfl,rfl,?_,U⟩,U⟩,λ k2 _=>⟨λ _=>⟨?_,λ _ _ _=>⟨λ _=>?_,λ _ _=>⟨⟨0,?_,⟨rfl,rfl,rfl,rfl,rfl,rfl,rfl,rfl,rfl,?_,U⟩,U⟩,λ x3 _=>⟨λ _=>⟨?_,λ _=>⟨?_,λ _=>?_,λ _=>⟨?_,x3+1,?_,?_,⟨rfl,rfl,rfl,rfl,rfl,rfl,rfl,rfl,rfl,?_,U⟩,U⟩⟩⟩,λ _=>⟨?_,k2+1,?_,?_,⟨rfl,rfl,rfl,rfl,rfl,rfl,?_,U⟩,U⟩⟩⟩⟩⟩,λ _=>⟨?_,i1+1,?_,?_,⟨rfl,rfl,rfl,?_,U⟩,U⟩⟩⟩⟩⟩⟩,λ _=>?_⟩⟩⟩,λ _=>⟨λ _=>?_,λ _=>⟨⟨0,?_,⟨rfl,rfl,rfl,?_,U⟩,U⟩,λ i1 _=>⟨λ _=>⟨?_,?_,λ _=>⟨?_,?_,λ _ _ _ _ _ _ _ _=>⟨λ _=>?_,λ _ _=>⟨?_,λ _ _=>⟨⟨0,?_,⟨rfl,rfl,rfl,rfl,rfl,rfl,?_,U⟩,U⟩,λ k2 _=>⟨λ _=>⟨?_,λ _ _ _=>⟨λ _=>?_,λ _ _=>⟨⟨0,?_,⟨rfl,rfl,rfl,rfl,rfl,rfl,rfl,rfl,rfl,?_,U⟩,U⟩,λ x3 _=>⟨λ _=>⟨?_,λ _=>⟨?_,λ _=>?_,λ _=>⟨?_,x3+1,?_,?_,⟨rfl,rfl,rfl,rfl,rfl,rfl,rfl,rfl,rfl,?_,U⟩,U⟩⟩⟩,λ _=>⟨?_,k2+1,?_,?_,⟨rfl,rfl,rfl,rfl,rfl,rfl,?_,U⟩,U⟩⟩⟩⟩⟩,λ _=>⟨?_,i1+1,?_,?_,⟨rfl,rfl,rfl,?_,U⟩,U⟩⟩⟩⟩⟩⟩,λ _ _ _ _ _=>⟨λ _=>?_,λ _ _=>⟨?_,λ _ _=>⟨⟨0,?_,⟨rfl,rfl,rfl,rfl,rfl,rfl,?_,U⟩,U⟩,λ k2 _=>⟨λ _=>⟨?_,λ _ _ _=>⟨λ _=>?_,λ _ _=>⟨⟨0,?_,⟨rfl,rfl,rfl,rfl,rfl,rfl,rfl,rfl,rfl,?_,U⟩,U⟩,λ x3 _=>⟨λ _=>⟨?_,λ _=>⟨?_,λ _=>?_,λ _=>⟨?_,x3+1,?_,?_,⟨rfl,rfl,rfl,rfl,rfl,rfl,rfl,rfl,rfl,?_,U⟩,U⟩⟩⟩,λ _=>⟨?_,k2+1,?_,?_,⟨rfl,rfl,rfl,rfl,rfl,rfl,?_,U⟩,U⟩⟩⟩⟩⟩,λ _=>⟨?_,i1+1,?_,?_,⟨rfl,rfl,rfl,?_,U⟩,U⟩⟩⟩⟩⟩⟩,λ _=>?_⟩⟩⟩⟩,λ _=>⟨λ _ _ _=>⟨λ _=>?_,λ _=>⟨⟨0,?_,⟨rfl,rfl,rfl,?_,U⟩,U⟩,λ i1 _=>⟨λ _=>⟨?_,?_,λ _=>⟨?_,?_,λ _ _ _ _ _ _ _ _=>⟨λ _=>?_,λ _ _=>⟨?_,λ _ _=>⟨⟨0,?_,⟨rfl,rfl,rfl,rfl,rfl,rfl,?_,U⟩,U⟩,λ k2 _=>⟨λ _=>⟨?_,λ _ _ _=>⟨λ _=>?_,λ _ _=>⟨⟨0,?_,⟨rfl,rfl,rfl,rfl,rfl,rfl,rfl,rfl,rfl,?_,U⟩,U⟩,λ x3 _=>⟨λ _=>⟨?_,λ _=>⟨?_,λ _=>?_,λ _=>⟨?_,x3+1,?_,?_,⟨rfl,rfl,rfl,rfl,rfl,rfl,rfl,rfl,rfl,?_,U⟩,U⟩⟩⟩,λ _=>⟨?_,k2+1,?_,?_,⟨rfl,rfl,rfl,rfl,rfl,rfl,?_,U⟩,U⟩⟩⟩⟩⟩,λ _=>⟨?_,i1+1,?_,?_,⟨rfl,rfl,rfl,?_,U⟩,U⟩⟩⟩⟩⟩⟩,λ _ _ _ _ _=>⟨λ _=>?_,λ _ _=>⟨?_,λ _ _=>⟨⟨0,?_,⟨rfl,rfl,rfl,rfl,rfl,rfl,?_,U⟩,U⟩,λ k2 _=>⟨λ _=>⟨?_,λ _ _ _=>⟨λ _=>?_,λ _ _=>⟨⟨0,?_,⟨rfl,rfl,rfl,rfl,rfl,rfl,rfl,rfl,rfl,?_,U⟩,U⟩,λ x3 _=>⟨λ _=>⟨?_,λ _=>⟨?_,λ _=>?_,λ _=>⟨?_,x3+1,?_,?_,⟨rfl,rfl,rfl,rfl,rfl,rfl,rfl,rfl,rfl,?_,U⟩,U⟩⟩⟩,λ _=>⟨?_,k2+1,?_,?_,⟨rfl,rfl,rfl,rfl,rfl,rfl,?_,U⟩,U⟩⟩⟩⟩⟩,λ _=>⟨?_,i1+1,?_,?_,⟨rfl,rfl,rfl,?_,U⟩,U⟩⟩⟩⟩⟩⟩,λ _=>?_⟩⟩⟩,λ _=>⟨λ _=>?_,λ _=>⟨⟨0,?_,⟨rfl,rfl,rfl,?_,U⟩,U⟩,λ i1 _=>⟨λ _=>⟨?_,?_,λ _=>⟨?_,?_,λ _ _ _ _ _ _ _ _=>⟨λ _=>?_,λ _ _=>⟨?_,λ _ _=>⟨⟨0,?_,⟨rfl,rfl,rfl,rfl,rfl,rfl,?_,U⟩,U⟩,λ k2 _=>⟨λ _=>⟨?_,λ _ _ _=>⟨λ _=>?_,λ _ _=>⟨⟨0,?_,⟨rfl,rfl,rfl,rfl,rfl,rfl,rfl,rfl,rfl,?_,U⟩,U⟩,λ x3 _=>⟨λ _=>⟨?_,λ _=>⟨?_,λ _=>?_,λ _=>⟨?_,x3+1,?_,?_,⟨rfl,rfl,rfl,rfl,rfl,rfl,rfl,rfl,rfl,?_,U⟩,U⟩⟩⟩,λ _=>⟨?_,k2+1,?_,?_,⟨rfl,rfl,rfl,rfl,rfl,rfl,?_,U⟩,U⟩⟩⟩⟩⟩,λ _=>⟨?_,i1+1,?_,?_,⟨rfl,rfl,rfl,?_,U⟩,U⟩⟩⟩⟩⟩⟩,λ _ _ _ _ _=>⟨λ _=>?_,λ _ _=>⟨?_,λ _ _=>⟨⟨0,?_,⟨rfl,rfl,rfl,rfl,rfl,rfl,?_,U⟩,U⟩,λ k2 _=>⟨λ _=>⟨?_,λ _ _ _=>⟨λ _=>?_,λ _ _=>⟨⟨0,?_,⟨rfl,rfl,rfl,rfl,rfl,rfl,rfl,rfl,rfl,?_,U⟩,U⟩,λ x3 _=>⟨λ _=>⟨?_,λ _=>⟨?_,λ _=>?_,λ _=>⟨?_,x3+1,?_,?_,⟨rfl,rfl,rfl,rfl,rfl,rfl,rfl,rfl,rfl,?_,U⟩,U⟩⟩⟩,λ _=>⟨?_,k2+1,?_,?_,⟨rfl,rfl,rfl,rfl,rfl,rfl,?_,U⟩,U⟩⟩⟩⟩⟩,λ _=>⟨?_,i1+1,?_,?_,⟨rfl,rfl,rfl,?_,U⟩,U⟩⟩⟩⟩⟩⟩,λ _=>?_⟩⟩⟩⟩⟩⟩;all_goals try and_intros
 all_goals (try simp only[a9d,a8Z,aB,ai,a9t,a9E,a9N,a9J] at *);first|done|with_reducible rfl|with_reducible trivial|(have v:ye a _ _ _:=(by with_reducible assumption);have l:=v.l;obtain⟨⟨l1,l2,l3,l4,l5⟩,l6⟩:=l;have l7:=cK a.sig ⟨l1,l2⟩;first|omega|exact v.bad (by omega) (by omega)|exact v.next (by omega) (by omega)|exact v.done (by omega))|(have v:xy a _ _:=(by with_reducible assumption);have l:=v.l;obtain⟨⟨l1,l2,l3,l4,l5⟩,l6⟩:=l;have l7:=cK a.sig ⟨l1,l2⟩;first|omega|exact v.len (by omega) (by omega)|exact v.to2 (by omega) (by omega)|exact v.done (by omega))|(have v:yd a _:=(by with_reducible assumption);have l:=v.l;obtain⟨⟨l1,l2,l3,l4,l5⟩,l6⟩:=l;have l7:=cK a.sig ⟨l1,l2⟩;first|omega|exact v.bad (by omega) (by omega)|exact v.to1 (by omega) (by omega) (by omega)|exact v.done (by omega))|omega|exact (D0 a (.inl (by with_reducible assumption))).symm|exact (D0 a (.inr (.inl (by omega)))).symm|exact (D0 a (.inr (.inr (by omega)))).symm|exact V8 (by with_reducible assumption) (by omega) (by omega)|exact cK a.sig (by omega)|(trace_state;done)
def Fv:aX:=⟨FF,[.r (.st .automaton)],λ (a:aj)=>⟨(none,[⟨.bool,aOk a⟩])⟩⟩
def Q7(a:aj):Nat->aJ:=(eA 0 (.mk (Nat) (λ i=>yd a i) (λ i=>a.accept.length - i) [] [7,8,9,10,11,12,13,14,15,16,17,18,19,20,21,22,23,24,25,26,27,28,29,30,31] (λ i=>[(4, .aN ⟨(.int .i64),((i:Int):Int)⟩)]) [] (λ i=>[]) [] [] (λ i=>(eA 2 (.mk (Nat) (λ k=>xy a i k) (λ k=>(a.next.getD i []).length - k) [] [32,33,34,37,38,39,40,41,42,43,44,45,46,47,48,49,50,51,52,53,54,55,56,57,58,59,60,61,62,63,64,65,66] (λ k=>[(5, .aN ⟨(.int .i64),((k:Int):Int)⟩)]) [] (λ k=>[]) [] [] (λ k=>(eA 4 (.b (Nat) (λ x=>ye a i k x) (λ x=>((a.next.getD i []).getD k []).length - x) [67,68,69,70,71,72,73,74,75,76,79,80,81,82,83,84,85,86,87,88,89,90,91,92,93,94,95] (λ x=>[(6, .aN ⟨(.int .i64),((x:Int):Int)⟩)])) cj))) cj))) cj)
abbrev Bl(a:aj)(i1:Nat):Prop:=(let v0:=a.next.getD i1 [];let v1:=(a.accept.length:Int);let v2:=(i1:Int);let v3:=(1:Int);let v4:=(0:Int);let v5:=(v0.length:Int);((∃ k2:Nat,(xy a i1 k2/\((a=a/\(v1=v1/\(v2=v2/\(v4=(k2:Int)/\True))))/\True)))/\(∀ k2:Nat,let v6:=v0.getD k2 [];let v7:=(v6.length:Int);let v8:=(k2:Int);let v9 := !(decide (v7=a.sig.au));(xy a i1 k2 ->
 (a.next.length<=140737488355328 ->
 (aB v2 a.next.length/\(v0.length<=140737488355328 ->
 (ai v5 ->
 (((decide (v8<v5))=true ->
 (aB v2 a.next.length/\(aB v8 v0.length/\(a.next.length<=140737488355328 ->
 (v0.length<=140737488355328 ->
 (v6.length<=140737488355328 ->
 (ai v7 ->
 (ai a.sig.au ->
 ((v9=true ->
 false=(aOk a))/\(v9=false ->
 ((∃ x3:Nat,(ye a i1 k2 x3/\((a=a/\(v1=v1/\(v2=v2/\(v8=v8/\(v4=(x3:Int)/\True)))))/\True)))/\(∀ x3:Nat,let va := !(decide ((-1:Int)<=(v6.getD x3 v4)/\(v6.getD x3 v4)<=(v1 - v3)));(ye a i1 k2 x3 ->
 (a.next.length<=140737488355328 ->
 (aB v2 a.next.length/\(v0.length<=140737488355328 ->
 (aB v8 v0.length/\(v6.length<=140737488355328 ->
 (ai v7 ->
 (((decide ((x3:Int)<v7))=true ->
 (a.next.length<=140737488355328 ->
 (aB v2 a.next.length/\(v0.length<=140737488355328 ->
 (aB v8 v0.length/\(v6.length<=140737488355328 ->
 (aB (x3:Int) v6.length/\(ai (v6.getD x3 v4) ->
 (ai (v1 - v3)/\(((va=true) ->
 false=(aOk a))/\((va=false) ->
 (ai ((x3:Int)+v3)/\(∃ x4:Nat,(ye a i1 k2 x4/\(v6.length - x4<v6.length - x3/\((a=a/\(v1=v1/\(v2=v2/\(v8=v8/\(((x3:Int)+v3)=(x4:Int)/\True)))))/\True))))))))))))))))/\((decide ((x3:Int)<v7))=false ->
 (ai (v8+v3)/\(∃ k4:Nat,(xy a i1 k4/\(v0.length - k4<v0.length - k2/\((a=a/\(v1=v1/\(v2=v2/\((v8+v3)=(k4:Int)/\True))))/\True))))))))))))))))))))))))))/\((decide (v8<v5))=false ->
 (ai (v2+v3)/\(∃ i3:Nat,(yd a i3/\(a.accept.length - i3<a.accept.length - i1/\((a=a/\(v1=v1/\((v2+v3)=(i3:Int)/\True)))/\True)))))))))))))))
abbrev rN(a:aj):Prop:=(let v0:=(a.accept.length:Int);let v1:=aV a.sig;let v2:=0<=a.sig.aK/\a.sig.aK<=3;((∃ i1:Nat,(yd a i1/\((a=a/\(v0=v0/\((0:Int)=(i1:Int)/\True)))/\True)))/\(∀ i1:Nat,let v4:=((a.next.getD i1 []).length:Int);let v5:=a.accept.getD i1 [];let v3:=(v5.length:Int);(yd a i1 ->
 (((decide ((i1:Int)<v0))=true ->
 (aB (i1:Int) a.accept.length/\(v2/\(((!(decide (v3=v1)))=false ->
 (aB (i1:Int) a.next.length/\(v2/\(a.accept.length<=140737488355328 ->
 (v5.length<=140737488355328 ->
 (ai v3 ->
 (ai v1 ->
 (a.next.length<=140737488355328 ->
 ((a.next.getD i1 []).length<=140737488355328 ->
 (ai v4 ->
 (ai v1 ->
 (((!(decide (v4=v1)))=true ->
 false=(aOk a))/\((!(decide (v4=v1)))=false ->
 (Bl a i1))))))))))))))/\((!(decide (v3=v1)))=(!false) ->
 (a.accept.length<=140737488355328 ->
 (v5.length<=140737488355328 ->
 (ai v3 ->
 (ai v1 ->
 ((true=true ->
 false=(aOk a))/\(true=false ->
 (Bl a i1))))))))))))/\((decide ((i1:Int)<v0))=false ->
 true=(aOk a)))))))
abbrev Bm(a:aj):Prop:=(let v0 := !(decide (((a.next.length:Int))=((a.accept.length:Int))));(a.next.length<=140737488355328 ->
 (ai ((a.next.length:Int)) ->
 ((v0=true ->
 false=(aOk a))/\(v0=false ->
 (rN a))))))
def Kq:aX.Good Fv:=by
 refine⟨aD Cr,?_⟩;intro (a:aj) _;refine aY [uY,pN,gP] [] [] [] ⟨wB,sJ,kQ,U⟩ Cr J8 (Q7 a) (let v1:=(a.accept.length:Int);let v0 := !(decide ((1:Int)<=v1/\v1<=(60:Int)));((a.accept.length<=140737488355328->(ai v1->(((!(cG a.sig))=false->(((v0=false)->(Bm a))/\((v0=(!false))->((true=true->false=(aOk a))/\(true=false->(rN a))))))/\((!(cG a.sig))=(!false)->((true=false->(Bm a))/\(true=(!false)->((true=true->false=(aOk a))/\(true=false->(rN a))))))))))) ?_;refine λ _ _=>⟨λ _=>⟨λ _ _ _=>⟨λ _=>?_,λ _=>⟨⟨0,?_,⟨rfl,rfl,?_,U⟩,U⟩,λ i1 _=>⟨λ _=>⟨?_,?_,λ _=>⟨?_,?_,λ _ _ _ _ _ _ _ _=>⟨λ _=>?_,λ _=>⟨⟨0,?_,⟨rfl,rfl,rfl,?_,U⟩,U⟩,λ k2 _ _=>⟨?_,λ _ _=>⟨λ _=>⟨?_,?_,λ _ _ _ _ _=>⟨λ _=>?_,λ _=>⟨⟨0,?_,⟨rfl,rfl,rfl,rfl,?_,U⟩,U⟩,λ x3 _ _=>⟨?_,λ _=>⟨?_,λ _ _=>⟨λ _ _=>⟨?_,λ _=>⟨?_,λ _=>⟨?_,λ _=>⟨?_,λ _=>?_,λ _=>⟨?_,x3+1,?_,?_,⟨rfl,rfl,rfl,rfl,?_,U⟩,U⟩⟩⟩⟩⟩,λ _=>⟨?_,k2+1,?_,?_,⟨rfl,rfl,rfl,?_,U⟩,U⟩⟩⟩⟩⟩⟩⟩,λ _=>⟨?_,i1+1,?_,?_,⟨rfl,rfl,?_,U⟩,U⟩⟩⟩⟩⟩⟩,λ _ _ _ _ _=>⟨λ _=>?_,λ _=>⟨⟨0,?_,⟨rfl,rfl,rfl,?_,U⟩,U⟩,λ k2 _ _=>⟨?_,λ _ _=>⟨λ _=>⟨?_,?_,λ _ _ _ _ _=>⟨λ _=>?_,λ _=>⟨⟨0,?_,⟨rfl,rfl,rfl,rfl,?_,U⟩,U⟩,λ x3 _ _=>⟨?_,λ _=>⟨?_,λ _ _=>⟨λ _ _=>⟨?_,λ _=>⟨?_,λ _=>⟨?_,λ _=>⟨?_,λ _=>?_,λ _=>⟨?_,x3+1,?_,?_,⟨rfl,rfl,rfl,rfl,?_,U⟩,U⟩⟩⟩⟩⟩,λ _=>⟨?_,k2+1,?_,?_,⟨rfl,rfl,rfl,?_,U⟩,U⟩⟩⟩⟩⟩⟩⟩,λ _=>⟨?_,i1+1,?_,?_,⟨rfl,rfl,?_,U⟩,U⟩⟩⟩⟩⟩⟩,λ _=>?_⟩⟩⟩,λ _=>⟨λ _=>?_,λ _=>⟨⟨0,?_,⟨rfl,rfl,?_,U⟩,U⟩,λ i1 _=>⟨λ _=>⟨?_,?_,λ _=>⟨?_,?_,λ _ _ _ _ _ _ _ _=>⟨λ _=>?_,λ _=>⟨⟨0,?_,⟨rfl,rfl,rfl,?_,U⟩,U⟩,λ k2 _ _=>⟨?_,λ _ _=>⟨λ _=>⟨?_,?_,λ _ _ _ _ _=>⟨λ _=>?_,λ _=>⟨⟨0,?_,⟨rfl,rfl,rfl,rfl,?_,U⟩,U⟩,λ x3 _ _=>⟨?_,λ _=>⟨?_,λ _ _=>⟨λ _ _=>⟨?_,λ _=>⟨?_,λ _=>⟨?_,λ _=>⟨?_,λ _=>?_,λ _=>⟨?_,x3+1,?_,?_,⟨rfl,rfl,rfl,rfl,?_,U⟩,U⟩⟩⟩⟩⟩,λ _=>⟨?_,k2+1,?_,?_,⟨rfl,rfl,rfl,?_,U⟩,U⟩⟩⟩⟩⟩⟩⟩,λ _=>⟨?_,i1+1,?_,?_,⟨rfl,rfl,?_,U⟩,U⟩⟩⟩⟩⟩⟩,λ _ _ _ _ _=>⟨λ _=>?_,λ _=>⟨⟨0,?_,⟨rfl,rfl,rfl,?_,U⟩,U⟩,λ k2 _ _=>⟨?_,λ _ _=>⟨λ _=>⟨?_,?_,λ _ _ _ _ _=>⟨λ _=>?_,λ _=>⟨⟨0,?_,⟨rfl,rfl,rfl,rfl,?_,U⟩,U⟩,λ x3 _ _=>⟨?_,λ _=>⟨?_,λ _ _=>⟨λ _ _=>⟨?_,λ _=>⟨?_,λ _=>⟨?_,λ _=>⟨?_,λ _=>?_,λ _=>⟨?_,x3+1,?_,?_,⟨rfl,rfl,rfl,rfl,?_,U⟩,U⟩⟩⟩⟩⟩,λ _=>⟨?_,k2+1,?_,?_,⟨rfl,rfl,rfl,?_,U⟩,U⟩⟩⟩⟩⟩⟩⟩,λ _=>⟨?_,i1+1,?_,?_,⟨rfl,rfl,?_,U⟩,U⟩⟩⟩⟩⟩⟩,λ _=>?_⟩⟩⟩⟩,λ _=>⟨λ _ _ _=>⟨λ _=>?_,λ _=>⟨⟨0,?_,⟨rfl,rfl,?_,U⟩,U⟩,λ i1 _=>⟨λ _=>⟨?_,?_,λ _=>⟨?_,?_,λ _ _ _ _ _ _ _ _=>⟨λ _=>?_,λ _=>⟨⟨0,?_,⟨rfl,rfl,rfl,?_,U⟩,U⟩,λ k2 _ _=>⟨?_,λ _ _=>⟨λ _=>⟨?_,?_,λ _ _ _ _ _=>⟨λ _=>?_,λ _=>⟨⟨0,?_,⟨rfl,rfl,rfl,rfl,?_,U⟩,U⟩,λ x3 _ _=>⟨?_,λ _=>⟨?_,λ _ _=>⟨λ _ _=>⟨?_,λ _=>⟨?_,λ _=>⟨?_,λ _=>⟨?_,λ _=>?_,λ _=>⟨?_,x3+1,?_,?_,⟨rfl,rfl,rfl,rfl,?_,U⟩,U⟩⟩⟩⟩⟩,λ _=>⟨?_,k2+1,?_,?_,⟨rfl,rfl,rfl,?_,U⟩,U⟩⟩⟩⟩⟩⟩⟩,λ _=>⟨?_,i1+1,?_,?_,⟨rfl,rfl,?_,U⟩,U⟩⟩⟩⟩⟩⟩,λ _ _ _ _ _=>⟨λ _=>?_,λ _=>⟨⟨0,?_,⟨rfl,rfl,rfl,?_,U⟩,U⟩,λ k2 _ _=>⟨?_,λ _ _=>⟨λ _=>⟨?_,?_,λ _ _ _ _ _=>⟨λ _=>?_,λ _=>⟨⟨0,?_,⟨rfl,rfl,rfl,rfl,?_,U⟩,U⟩,λ x3 _ _=>⟨?_,λ _=>⟨?_,λ _ _=>⟨λ _ _=>⟨?_,λ _=>⟨?_,λ _=>⟨?_,λ _=>⟨?_,λ _=>?_,λ _=>⟨?_,x3+1,?_,?_,⟨rfl,rfl,rfl,rfl,?_,U⟩,U⟩⟩⟩⟩⟩,λ _=>⟨?_,k2+1,?_,?_,⟨rfl,rfl,rfl,?_,U⟩,U⟩⟩⟩⟩⟩⟩⟩,λ _=>⟨?_,i1+1,?_,?_,⟨rfl,rfl,?_,U⟩,U⟩⟩⟩⟩⟩⟩,λ _=>?_⟩⟩⟩,λ _=>⟨λ _=>?_,λ _=>⟨⟨0,?_,⟨rfl,rfl,?_,U⟩,U⟩,λ i1 _=>⟨λ _=>⟨?_,?_,λ _=>⟨?_,?_,λ _ _ _ _ _ _ _ _=>⟨λ _=>?_,λ _=>⟨⟨0,?_,⟨rfl,rfl,rfl,?_,U⟩,U⟩,λ k2 _ _=>⟨?_,λ _ _=>⟨λ _=>⟨?_,?_,λ _ _ _ _ _=>⟨λ _=>?_,λ _=>⟨⟨0,?_,⟨rfl,rfl,rfl,rfl,?_,U⟩,U⟩,λ x3 _ _=>⟨?_,λ _=>⟨?_,λ _ _=>⟨λ _ _=>⟨?_,λ _=>⟨?_,λ _=>⟨?_,λ _=>⟨?_,λ _=>?_,λ _=>⟨?_,x3+1,?_,?_,⟨rfl,rfl,rfl,rfl,?_,U⟩,U⟩⟩⟩⟩⟩,λ _=>⟨?_,k2+1,?_,?_,⟨rfl,rfl,rfl,?_,U⟩,U⟩⟩⟩⟩⟩⟩⟩,λ _=>⟨?_,i1+1,?_,?_,⟨rfl,rfl,?_,U⟩,U⟩⟩⟩⟩⟩⟩,λ _ _ _ _ _=>⟨λ _=>?_,λ _=>⟨⟨0,?_,⟨rfl,rfl,rfl,?_,U⟩,U⟩,λ k2 _ _=>⟨?_,λ _ _=>⟨λ _=>⟨?_,?_,λ _ _ _ _ _=>⟨λ _=>?_,λ _=>⟨⟨0,?_,⟨rfl,rfl,rfl,rfl,?_,U⟩,U⟩,λ x3 _ _=>⟨?_,λ _=>⟨?_,λ _ _=>⟨λ _ _=>⟨?_,λ _=>⟨?_,λ _=>⟨?_,λ _=>⟨?_,λ _=>?_,λ _=>⟨?_,x3+1,?_,?_,⟨rfl,rfl,rfl,rfl,?_,U⟩,U⟩⟩⟩⟩⟩,λ _=>⟨?_,k2+1,?_,?_,⟨rfl,rfl,rfl,?_,U⟩,U⟩⟩⟩⟩⟩⟩⟩,λ _=>⟨?_,i1+1,?_,?_,⟨rfl,rfl,?_,U⟩,U⟩⟩⟩⟩⟩⟩,λ _=>?_⟩⟩⟩⟩⟩;all_goals try and_intros
 all_goals (try simp only[a9d,a8Z,aB,ai,a9t,a9E,a9N,a9J] at *);first|done|with_reducible rfl|with_reducible trivial|(have v:ye a _ _ _:=(by with_reducible assumption);have l:=v.l;obtain⟨⟨l1,l2,l3,l4,l5⟩,l6⟩:=l;have l7:=cK a.sig ⟨l1,l2⟩;first|omega|exact v.bad (by omega) (by omega)|exact v.next (by omega) (by omega)|exact v.done (by omega))|(have v:xy a _ _:=(by with_reducible assumption);have l:=v.l;obtain⟨⟨l1,l2,l3,l4,l5⟩,l6⟩:=l;have l7:=cK a.sig ⟨l1,l2⟩;first|omega|exact v.len (by omega) (by omega)|exact v.to2 (by omega) (by omega)|exact v.done (by omega))|(have v:yd a _:=(by with_reducible assumption);have l:=v.l;obtain⟨⟨l1,l2,l3,l4,l5⟩,l6⟩:=l;have l7:=cK a.sig ⟨l1,l2⟩;first|omega|exact v.bad (by omega) (by omega)|exact v.to1 (by omega) (by omega) (by omega)|exact v.done (by omega))|omega|exact (D0 a (.inl (by with_reducible assumption))).symm|exact (D0 a (.inr (.inl (by omega)))).symm|exact (D0 a (.inr (.inr (by omega)))).symm|exact V8 (by with_reducible assumption) (by omega) (by omega)|exact cK a.sig (by omega)|(trace_state;done)
def NN(N:Nat)(xs:List (List UInt8)):Prop:=∀ x∈xs,x.length<=N
def vI(N:Nat)(xs:List (List UInt8))(h:NN N xs)(i:Nat):(xs.getD i []).length<=N:=by
 rcases a9O i xs.length with q|q
 .exact h _ (pG [] xs i q)
 .rw[a9h,b1g q];simp
def z7(c:UInt8)(l:List UInt8):NN l.length (bO c l):=λ x hx=>by
 have key:∀ (l:List UInt8) (d:List (List UInt8)) (y:List UInt8) (N:Nat),(∀ z∈d,z.length<=N)->y.length+l.length<=N->(∀ z∈(l.foldl (gp c) (d,y)).1,z.length<=N)/\(l.foldl (gp c) (d,y)).2.length<=N:=by
  intro l;induction l with
  | nil=>intro d y N hd hy;exact⟨hd,by simpa using hy⟩
  | cons b l ih =>
   intro d y N hd hy;simp only[b0C,gp];simp only[a9f] at hy;cases b == c
   .simp only[b3c];exact ih d (y++[b]) N hd (by simp;omega)
   .simp only[cond_true];refine ih (d++[y]) [] N (λ z hz=>?_) (by simp;omega);rcases a8X.1 hz with hz|hz
    .exact hd z hz
    .have:z=y:=by simpa using hz
     subst this;omega
 obtain⟨k1,k2⟩:=key l [] [] l.length (λ z hz=>by cases hz) (by simp);unfold bO at hx;rcases List.mem_append.1 hx with hx|hx
 .exact k1 x hx
 .have:x=(RH c l).2:=by simpa using hx
  subst this;exact k2
def AU{N:Nat}{xs ys:List (List UInt8)}(h:NN N xs)(hs:∀ y∈ys,y∈xs):NN N ys:=λ y hy=>h y (hs y hy)
def a3M:bt (10:Int)=10:=rfl
def a3N:bt (32:Int)=32:=rfl
def a3O:bt (58:Int)=58:=rfl
def tn1(i:Nat):((i:Int)+1).toNat=i+1:=by omega
def YI(s:List UInt8)(k:Nat):(bO 58 s).getD (k+1) []=(jq s).getD k []:=by
 unfold jq;rw[List.getD_eq_getElem?_getD,List.getD_eq_getElem?_getD,List.getElem?_drop,Nat.add_comm]
def a3w(s:List UInt8):(bO 58 s).length=(jq s).length+1:=by
 have:=D4 58 s;unfold jq;rw[List.length_drop];omega
def a3e(s:List UInt8):(bO 32 s).length=(dS s).length+1:=by
 have:=D4 32 s;unfold dS;rw[List.length_drop];omega
def X4(k:Int)(p:List UInt8)(h:¬ p=[46]):dr k p=jK k p/\dz k p=oS k p:=by
 unfold jK oS;rw[decide_eq_false h];exact⟨rfl,rfl⟩
def UD(k:Int)(p:List UInt8)(h:p=[46]) : -1=jK k p/\true=oS k p:=by
 unfold jK oS;rw[decide_eq_true h];exact⟨rfl,rfl⟩
structure CP(m:Int)(s:List UInt8)(k:Nat):Prop where
 le:k<=(jq s).length
 al:bX (oS m) ((jq s).take k)=true
def CP.len{m:Int}{s:List UInt8}{k:Nat}(v:CP m s k):(((jq s).take k).map (jK m)).length=k/\k<=(jq s).length:=⟨by have:=v.le;simp;omega,v.le⟩
def a0t(m:Int)(s:List UInt8):CP m s 0:=⟨a9F _,rfl⟩
def CP.next{m:Int}{s:List UInt8}{k:Nat}(v:CP m s k)(hk:k<(jq s).length)(h:oS m ((jq s).getD k [])=true):CP m s (k+1):=⟨hk,by rw[de _ [] _ k hk,v.al,h];rfl⟩
def CP.step{m:Int}{s:List UInt8}{k:Nat}(v:CP m s k)(hk:k<(jq s).length):((jq s).take k).map (jK m)++[jK m ((jq s).getD k [])]=((jq s).take (k+1)).map (jK m):=by
 rw[eu [] (jq s) k hk];simp
def CP.bad{m:Int}{s:List UInt8}{k:Nat}(v:CP m s k)(hk:k<(jq s).length)(h:oS m ((jq s).getD k [])=false):Qb m s=false:=dJ _ [] _ k hk h
def CP.done{m:Int}{s:List UInt8}{k:Nat}(v:CP m s k)(hk:(jq s).length<=k):Qb m s=true/\((jq s).take k).map (jK m)=oF m s:=by
 have e:=v.al;rw[a9A hk] at e;refine⟨e,?_⟩;rw[a9A hk];rfl
def a1Q(s:List UInt8)(h:(bO 58 s).getD 0 []=[43]\/(bO 58 s).getD 0 []=[45]):Mn s=true:=by
 unfold Mn iC ZQ;rcases h with h|h<;>rw[h]<;>rfl
def a3o(s:List UInt8)(h:¬ (bO 58 s).getD 0 []=[43])(h2:¬ (bO 58 s).getD 0 []=[45]):Mn s=false:=by
 unfold Mn iC ZQ;rw[decide_eq_false h,decide_eq_false h2];rfl
def Bo:aX:=⟨Bz,[.v .str],λ (t:List UInt8)=>⟨(some (t.length<=1048576),[⟨(.slice .str),gW t⟩,⟨.bool,Np t⟩])⟩⟩
def M4(t:List UInt8):Nat->aJ:=cj
def Gx:aX.Good Bo:=by
 refine⟨aD ym,?_⟩;intro (t:List UInt8) (hp:t.length<=1048576);refine aY [kY] [] [] [] ⟨lS,U⟩ ym F5 (M4 t) (let v0:=bO (([10]).getD 0 0) t;let v1:=((v0.length:Int)) - (1:Int);(((([10]).length=1/\t.length<=1048576)/\(v0.length<=140737488355328->(ai ((v0.length:Int))->(ai v1/\(fv (0:Int) v1 v0.length/\(aB v1 v0.length/\((v0.getD (Int.toNat v1) []).length<=140737488355328->(((v0.take (Int.toNat v1)).drop 0)=(gW t)/\(decide ((v0.getD (Int.toNat v1) [])=[]))=(Np t))))))))))) ?_;have f0:1<=(bO (([10]:List UInt8).getD 0 0) t).length:=D4 10 t;have f1:(bO (([10]:List UInt8).getD 0 0) t).length<=t.length+1:=yA 10 t;have f4:(((bO (([10]:List UInt8).getD 0 0) t).length:Int) - 1).toNat=(bO (([10]:List UInt8).getD 0 0) t).length - 1:=by omega
 have f2:List.drop 0 (List.take ((bO (([10]:List UInt8).getD 0 0) t).length - 1) (bO (([10]:List UInt8).getD 0 0) t))=gW t:=rfl;have f3:decide ((bO (([10]:List UInt8).getD 0 0) t).getD ((bO (([10]:List UInt8).getD 0 0) t).length - 1) []=[])=Np t:=rfl;refine⟨?_,λ _ _=>⟨?_,?_,?_,λ _=>⟨?_,?_⟩⟩⟩;all_goals try and_intros
 all_goals (try rw[f4]);first|rfl|trivial|omega|(simp only[a9d,a8Z,aB,ai,fv,bz,a9i,a9f,a9v,a9t,a9E,a9N,a9J] at *;first|omega|grind)|grind|(rw[f4,f2])|(simp only[f4,f2,f3];done)
def sA(l:List UInt8):List Bool:=bif eZ 2 l then lZ l else []
def sN(l:List UInt8):List (List Int):=bif eZ 2 l then kp 2 l else []
structure LP(l:List UInt8)(i:Nat):Prop where
 le:i<=(dS l).length
 al:bX (DY 2) ((dS l).take i)=true
structure LQ(l:List UInt8)(i k:Nat):Prop where
 p:LP l i
 lt:i<(dS l).length
 g:Mn ((dS l).getD i [])=true
 c:CP 2 ((dS l).getD i []) k
def a1t(l:List UInt8):LP l 0:=⟨a9F _,rfl⟩
def Vk(l:List UInt8)(i:Nat)(hi:i<(dS l).length)(h:DY 2 ((dS l).getD i [])=false):[]=sA l/\[]=sN l/\false=eZ 2 l:=by
 have e:eZ 2 l=false:=dJ _ [] _ i hi h;unfold sA sN;rw[e];exact⟨rfl,rfl,rfl⟩
def LP.sgn{l:List UInt8}{i:Nat}(v:LP l i)(hi:i<(dS l).length)(h1:¬ (bO 58 ((dS l).getD i [])).getD 0 []=[43])(h2:¬ (bO 58 ((dS l).getD i [])).getD 0 []=[45]):[]=sA l/\[]=sN l/\false=eZ 2 l :=
 Vk l i hi (by unfold DY;rw[a3o _ h1 h2,Bool.and_false])
def LP.to{l:List UInt8}{i:Nat}(v:LP l i)(hi:i<(dS l).length)(h:(bO 58 ((dS l).getD i [])).getD 0 []=[43]\/(bO 58 ((dS l).getD i [])).getD 0 []=[45]):LQ l i 0:=⟨v,hi,a1Q _ h,a0t _ _⟩
def LP.done{l:List UInt8}{i:Nat}(v:LP l i)(hi:(dS l).length<=i):((dS l).take i).map iC=sA l/\((dS l).take i).map (oF 2)=sN l/\true=eZ 2 l:=by
 have e:=v.al;rw[List.take_of_length_le hi] at e ⊢;have e:eZ 2 l=true:=e;unfold sA sN;rw[e];exact⟨rfl,rfl,rfl⟩
def LP.len{l:List UInt8}{i:Nat}(v:LP l i):(((dS l).take i).map iC).length=i/\(((dS l).take i).map (oF 2)).length=i/\i<=(dS l).length:=⟨by have:=v.le;simp;omega,by have:=v.le;simp;omega,v.le⟩
def LQ.bad{l:List UInt8}{i k:Nat}(v:LQ l i k)(hk:k<(jq ((dS l).getD i [])).length)(h:oS 2 ((jq ((dS l).getD i [])).getD k [])=false):[]=sA l/\[]=sN l/\false=eZ 2 l :=
 Vk l i v.lt (by unfold DY;rw[v.c.bad hk h];rfl)
def LQ.next{l:List UInt8}{i k:Nat}(v:LQ l i k)(hk:k<(jq ((dS l).getD i [])).length)(h:oS 2 ((jq ((dS l).getD i [])).getD k [])=true):LQ l i (k+1):=⟨v.p,v.lt,v.g,v.c.next hk h⟩
def LQ.done{l:List UInt8}{i k:Nat}(v:LQ l i k)(hk:(jq ((dS l).getD i [])).length<=k):LP l (i+1)/\((dS l).take i).map iC++[iC ((dS l).getD i [])]=((dS l).take (i+1)).map iC/\((dS l).take i).map (oF 2)++[((jq ((dS l).getD i [])).take k).map (jK 2)]=((dS l).take (i+1)).map (oF 2):=by
 obtain⟨e,e2⟩:=v.c.done hk;refine⟨⟨v.lt,?_⟩,?_,?_⟩
 .rw[de _ [] _ i v.lt,v.p.al];unfold DY;rw[e,v.g];rfl
 .rw[eu [] (dS l) i v.lt];simp
 .rw[e2,eu [] (dS l) i v.lt];simp
def Zp(l:List UInt8)(i:Nat):((dS l).getD i []).length<=l.length:=vI _ _ (AU (z7 32 l) λ y hy=>b0N hy) i
def ZT(s:List UInt8)(i:Nat):((jq s).getD i []).length<=s.length:=vI _ _ (AU (z7 58 s) λ y hy=>b0N hy) i
def a1x(l:List UInt8):List.drop 1 (bO 32 l)=dS l:=rfl
def a2x(l:List UInt8):List.drop 1 (bO 58 l)=jq l:=rfl
def LP.w{l:List UInt8}{i:Nat}(_v:LP l i):1<=(bO 58 ((dS l).getD i [])).length/\((dS l).getD i []).length<=l.length/\(bO 58 ((dS l).getD i [])).length=(jq ((dS l).getD i [])).length+1/\(bO 58 ((dS l).getD i [])).length<=((dS l).getD i []).length+1 :=
 ⟨D4 _ _,Zp l i,a3w _,yA 58 _⟩
def vx:aX:=⟨xf,[.v .str],λ (l:List UInt8)=>⟨(some (l.length<=1048576),[⟨(.slice .bool),sA l⟩,⟨(.slice (.slice (.int .i64))),sN l⟩,⟨.bool,eZ 2 l⟩])⟩⟩
def G9(l:List UInt8):Nat->aJ:=(eA 0 (.mk (Nat) (λ i=>LP l i) (λ i=>(dS l).length - i) [] [0,15,16,17,18] (λ i=>[(21, .aN ⟨(.int .i64),((i:Int):Int)⟩),(5, .aC 1600),(6, .aC 1700)]) [] (λ i=>[(1600, .aC .bool (((dS l).take i).map iC:List Bool)),(1700, .aC (.slice (.int .i64)) (((dS l).take i).map (oF 2):List (List Int)))]) [] [] (λ i=>(eA 2 (.mk (Nat) (λ k=>LQ l i k) (λ k=>(jq ((dS l).getD i [])).length - k) [] [8,22,23,24,25,26,27,28,29,30,31,32,33,34,35,36,37,38] (λ k=>[(41, .aN ⟨(.int .i64),((k:Int):Int)⟩),(10, .aC 3800)]) [1600,1700] (λ k=>[(3800, .aC (.int .i64) (((jq ((dS l).getD i [])).take k).map (jK 2):List Int))]) [] [] (λ k=>(eA 100015 (.u (True) [12,42,43,44,45,46,47,48,49] [(13, .aN ⟨(.int .i64),(jK 2 ((jq ((dS l).getD i [])).getD k []):Int)⟩),(14, .aN ⟨.bool,(oS 2 ((jq ((dS l).getD i [])).getD k []):Bool)⟩)] [1600,1700,3800] [] cj) cj))) cj))) cj)
abbrev qG(l:List UInt8)(i1:Nat)(k2:Nat):Prop:=(let v0:=((bO (([32]).getD 0 0) l).take (Int.toNat (((bO (([32]).getD 0 0) l).length:Int)))).drop 1;let v2:=bO (([58]).getD 0 0) (v0.getD i1 []);let v1:=(v2.take (Int.toNat ((v2.length:Int)))).drop 1;(v0=v0/\(((v0.length:Int))=((v0.length:Int))/\((i1:Int)=(i1:Int)/\(v1=v1/\(((v1.length:Int))=((v1.length:Int))/\((k2:Int)=(k2:Int)/\True)))))))
abbrev qH(l:List UInt8)(i1:Nat)(k2:Nat):Prop:=(let v0:=((jq ((dS l).getD i1 [])).take k2).map (jK 2);let v1:=(dS l).take i1;(v0=v0/\((v1.map iC)=(v1.map iC)/\((v1.map (oF 2))=(v1.map (oF 2))/\True))))
abbrev qI(l:List UInt8)(i1:Nat):Prop:=(let v1:=((bO (([32]).getD 0 0) l).take (Int.toNat (((bO (([32]).getD 0 0) l).length:Int)))).drop 1;let v0:=bO (([58]).getD 0 0) (v1.getD i1 []);let v2:=(v0.take (Int.toNat ((v0.length:Int)))).drop 1;let v3:=jq ((dS l).getD i1 []);let v4:=(dS l).take i1;let v5:=(v2.length:Int);let v7:=(v1.length:Int);let v8:=v4.map (oF 2);let v9:=[(decide ((v0.getD 0 [])=([43])))];let va:=(i1:Int);let vb:=v4.map iC;let v6:=vb=vb/\(v8=v8/\True);(fv (1:Int) ((v0.length:Int)) v0.length/\(ai v5 ->
 ((∃ k2:Nat,(LQ l i1 k2/\((True/\(True/\(v0=v0/\(True/\(v1=v1/\(v7=v7/\(va=va/\(v2=v2/\(v5=v5/\((0:Int)=(k2:Int)/\True))))))))))/\([]=((v3.take k2).map (jK 2))/\v6))))/\(∀ k2:Nat,let vc:=v3.getD k2 [];let vd:=(v3.take k2).map (jK 2);let ve:=v2.getD k2 [];(LQ l i1 k2 ->
 (((decide ((k2:Int)<v5))=true ->
 (aB (k2:Int) v2.length/\(ve.length<=140737488355328 ->
 ((0<=(2:Int)/\(2:Int)<=9)/\(ai (dr (2:Int) ve) ->
 ((((decide (ve=([46])))=true ->
 (∃ u3:Unit,(True/\((True/\(True/\(v0=v0/\(True/\((-1:Int)=(jK 2 vc)/\(true=(oS 2 vc)/\(qG l i1 k2)))))))/\(qH l i1 k2)))))/\((decide (ve=([46])))=false ->
 (∃ u3:Unit,(True/\((True/\(True/\(v0=v0/\(True/\((dr (2:Int) ve)=(jK 2 vc)/\((dz (2:Int) ve)=(oS 2 vc)/\(qG l i1 k2)))))))/\(qH l i1 k2))))))/\(∀ u3:Unit,(True ->
 (((!(oS 2 vc))=true ->
 ([]=(sA l)/\([]=(sN l)/\false=(eZ 2 l))))/\((!(oS 2 vc))=false ->
 (bz (vd.length+([(jK 2 vc)]).length) 8/\(ai ((k2:Int)+(1:Int))/\(∃ k4:Nat,(LQ l i1 k4/\(v3.length - k4<v3.length - k2/\((True/\(True/\(v0=v0/\(True/\(v1=v1/\(v7=v7/\(va=va/\(v2=v2/\(v5=v5/\(((k2:Int)+(1:Int))=(k4:Int)/\True))))))))))/\((vd++([(jK 2 vc)]))=((v3.take k4).map (jK 2))/\v6)))))))))))))))))/\((decide ((k2:Int)<v5))=false ->
 (aB (0:Int) v0.length/\((v0.getD 0 []).length<=140737488355328 ->
 (bz (vb.length+v9.length) 1/\(bz (v8.length+([vd]).length) 24/\(ai (va+(1:Int))/\(∃ i3:Nat,(LP l i3/\((dS l).length - i3<(dS l).length - i1/\((True/\(True/\(v1=v1/\(v7=v7/\((va+(1:Int))=(i3:Int)/\True)))))/\((vb++v9)=(((dS l).take i3).map iC)/\((v8++([vd]))=(((dS l).take i3).map (oF 2))/\True)))))))))))))))))))
def Ch:aX.tK vx:=by
 refine⟨aD tQ,?_⟩;intro (l:List UInt8) (hp:l.length<=1048576);refine p9 [kY,uW] [] [] [] [15,16,37,56,57,64,65,68,69] [] [] [] ⟨lS,wA,U⟩ trivial trivial trivial tQ Cu (G9 l) (let v1:=([58]).getD 0 0;let v2:=bO (([32]).getD 0 0) l;let v0:=(v2.take (Int.toNat ((v2.length:Int)))).drop 1;let v3:=(v0.length:Int);let v4:=[]=(sA l)/\([]=(sN l)/\false=(eZ 2 l));(((([32]).length=1/\l.length<=1048576)/\(v2.length<=140737488355328->(fv (1:Int) ((v2.length:Int)) v2.length/\(ai v3->((∃ i1:Nat,(LP l i1/\((True/\(True/\(v0=v0/\(v3=v3/\((0:Int)=(i1:Int)/\True)))))/\([]=(((dS l).take i1).map iC)/\([]=(((dS l).take i1).map (oF 2))/\True)))))/\(∀ i1:Nat,let v5:=bO v1 (v0.getD i1 []);let v6:=v5.getD 0 [];(LP l i1->(((decide ((i1:Int)<v3))=true->(aB (i1:Int) v0.length/\((v0.getD i1 []).length<=140737488355328->((([58]).length=1/\(v0.getD i1 []).length<=1048576)/\(v5.length<=140737488355328->(aB (0:Int) v5.length/\(v6.length<=140737488355328->(((!decide (v6=([43])))=true->(aB (0:Int) v5.length/\(v6.length<=140737488355328->(((!decide (v6=([45])))=true->v4)/\((!decide (v6=([45])))=false->(qI l i1))))))/\((!decide (v6=([43])))=(!true)->((false=true->v4)/\(false=false->(qI l i1))))))))))))/\((decide ((i1:Int)<v3))=false->((((dS l).take i1).map iC)=(sA l)/\((((dS l).take i1).map (oF 2))=(sN l)/\true=(eZ 2 l)))))))))))))) ?_;have f0:=a3e l;have f1:=yA 32 l;refine⟨?_,λ _=>⟨?_,λ _=>⟨⟨0,?_,⟨U,U,rfl,rfl,?_,U⟩,?_,?_,U⟩,λ i1 _=>⟨λ _=>⟨?_,λ _=>⟨?_,λ _=>⟨?_,λ _=>⟨λ _=>⟨?_,λ _=>⟨λ _=>⟨?_,?_,?_⟩,λ _=>⟨?_,λ _=>⟨⟨0,?_,⟨U,U,rfl,U,rfl,rfl,rfl,rfl,rfl,?_,U⟩,?_,rfl,rfl,U⟩,λ k2 _=>⟨λ _=>⟨?_,λ _=>⟨?_,λ _=>⟨⟨λ _=>⟨(),?_,⟨U,U,rfl,U,?_,?_,rfl,rfl,rfl,rfl,rfl,rfl,U⟩,rfl,rfl,rfl,U⟩,λ _=>⟨(),?_,⟨U,U,rfl,U,?_,?_,rfl,rfl,rfl,rfl,rfl,rfl,U⟩,rfl,rfl,rfl,U⟩⟩,λ u3 _=>⟨λ _=>⟨?_,?_,?_⟩,λ _=>⟨?_,?_,k2+1,?_,?_,⟨U,U,rfl,U,rfl,rfl,rfl,rfl,rfl,?_,U⟩,?_,rfl,rfl,U⟩⟩⟩⟩⟩,λ _=>⟨?_,λ _=>⟨?_,?_,?_,i1+1,?_,?_,⟨U,U,rfl,rfl,?_,U⟩,?_,?_,U⟩⟩⟩⟩⟩⟩⟩,λ _=>⟨λ _=>⟨?_,?_,?_⟩,λ _=>⟨?_,λ _=>⟨⟨0,?_,⟨U,U,rfl,U,rfl,rfl,rfl,rfl,rfl,?_,U⟩,?_,rfl,rfl,U⟩,λ k2 _=>⟨λ _=>⟨?_,λ _=>⟨?_,λ _=>⟨⟨λ _=>⟨(),?_,⟨U,U,rfl,U,?_,?_,rfl,rfl,rfl,rfl,rfl,rfl,U⟩,rfl,rfl,rfl,U⟩,λ _=>⟨(),?_,⟨U,U,rfl,U,?_,?_,rfl,rfl,rfl,rfl,rfl,rfl,U⟩,rfl,rfl,rfl,U⟩⟩,λ u3 _=>⟨λ _=>⟨?_,?_,?_⟩,λ _=>⟨?_,?_,k2+1,?_,?_,⟨U,U,rfl,U,rfl,rfl,rfl,rfl,rfl,?_,U⟩,?_,rfl,rfl,U⟩⟩⟩⟩⟩,λ _=>⟨?_,λ _=>⟨?_,?_,?_,i1+1,?_,?_,⟨U,U,rfl,rfl,?_,U⟩,?_,?_,U⟩⟩⟩⟩⟩⟩⟩⟩⟩⟩,λ _=>⟨?_,?_,?_⟩⟩⟩⟩⟩;all_goals try and_intros
 all_goals (try simp only[a9N,a9J,a9d,a8Z] at *);(try simp only[a3M,a3N,a3O,tn1,YI,b3l,a9Q,a9d,a8Z,a9t,a9E,a9N,a9J,aB,ai,fv,bz,a9f,a9v,b1T,a1x,a2x] at *);first|done|rfl|with_reducible trivial|exact a1t _|(have v:LQ l _ _:=(by with_reducible assumption);have q:=v.c.len;have p:=v.p.len;have t:=v.lt;have w:=v.p.w;first|omega|exact v.next (by omega) (by with_reducible assumption)|exact v.c.step (by omega)|exact (v.bad (by omega) (by with_reducible assumption)).1|exact (v.bad (by omega) (by with_reducible assumption)).2.1|exact (v.bad (by omega) (by with_reducible assumption)).2.2|exact (v.done (by omega)).1|exact (v.done (by omega)).2.1|exact (v.done (by omega)).2.2|exact (X4 2 _ (by with_reducible assumption)).1|exact (X4 2 _ (by with_reducible assumption)).2|exact (UD 2 _ (by with_reducible assumption)).1|exact (UD 2 _ (by with_reducible assumption)).2|exact b0b (ZT _ _) (by omega))|(have v:LP l _:=(by with_reducible assumption);have p:=v.len;have w:=v.w;first|omega|exact (v.sgn (by omega) (by with_reducible assumption) (by with_reducible assumption)).1|exact (v.sgn (by omega) (by with_reducible assumption) (by with_reducible assumption)).2.1|exact (v.sgn (by omega) (by with_reducible assumption) (by with_reducible assumption)).2.2|exact v.to (by omega) (.inl (by with_reducible assumption))|exact v.to (by omega) (.inr (by with_reducible assumption))|exact (v.done (by omega)).1|exact (v.done (by omega)).2.1|exact (v.done (by omega)).2.2)|omega|(trace_state;done)
open Go.RowKit Go.Proofs
def tI(a:aj)(i:Nat):List UInt8:=IM a.sig++[10]++jg (λ p=>tl p++[10]) ((a.accept.zip a.next).take i)
def tM(a:aj)(i k:Nat):List UInt8:=tI a i++[115,116,97,116,101]++jg Ik (((a.accept.getD i []).zip (a.next.getD i [])).take k)
def tX(a:aj)(i k x:Nat):List UInt8:=tM a i k++32::Ll ((a.accept.getD i []).getD k false)++jg Cz (((a.next.getD i []).getD k []).take x)
def a4C(a:aj):IM a.sig++[10]=tI a 0:=by unfold tI;rw[Gm,List.append_nil]
def a7E(a:aj)(i:Nat):tI a i++[115,116,97,116,101]=tM a i 0:=by unfold tM;rw[Gm,List.append_nil]
def a7G(a:aj)(i k:Nat):tM a i k++32::Ll ((a.accept.getD i []).getD k false)=tX a i k 0:=by unfold tX;rw[Gm,List.append_nil]
def a4E(a:aj)(i k x:Nat)(h:x<((a.next.getD i []).getD k []).length):tX a i k x++58::eV (((a.next.getD i []).getD k []).getD x 0)=tX a i k (x+1):=by
 unfold tX;rw[Gl Cz 0 _ x h,<-List.append_assoc];rfl
def JX{α β:Type}(y:α)(z:β)(xs:List α)(ys:List β)(h:xs.length=ys.length)(i:Nat)(hi:i<xs.length):(xs.zip ys).getD i (y,z)=(xs.getD i y,ys.getD i z):=by
 have h1:i<(xs.zip ys).length:=by rw[List.length_zip];omega
 rw[a9h,a9j h1,a9h,a9j hi,a9h,a9j (show i<ys.length by omega)];simp
structure ATx(a:aj):Prop where
 s:AOk a
 len:∀ i,i<a.accept.length->(a.accept.getD i []).length=(a.next.getD i []).length/\(a.accept.getD i []).length<=8
 pos:∀ i,i<a.accept.length->0<(a.accept.getD i []).length
 row:∀ i k,i<a.accept.length->k<(a.accept.getD i []).length->((a.next.getD i []).getD k []).length<=4
 cell:∀ i k x,i<a.accept.length->k<(a.accept.getD i []).length->x<((a.next.getD i []).getD k []).length -> -1<=((a.next.getD i []).getD k []).getD x 0/\((a.next.getD i []).getD k []).getD x 0<=59
def Wk(a:aj)(h:aOk a=true):ATx a:=by
 have A:=Su a h;have hm:∀ i,i<a.accept.length->(a.accept.getD i [],a.next.getD i [])∈a.accept.zip a.next:=λ i hi=>by
  rw[<-JX [] [] a.accept a.next A.nx.symm i hi];exact pG _ _ _ (by simp[A.nx];omega)
 refine⟨A,λ i hi=>?_,λ i hi=>?_,λ i k hi hk=>?_,λ i k x hi hk hx=>?_⟩
 .have:=A.st _ (hm i hi);have hl:=cK a.sig A.t;exact⟨this.1,by have:=this.2.1;simp only at this;omega⟩
 .have:=A.st _ (hm i hi);have hl:=cK a.sig A.t;have:=this.2.1;simp only at this;omega
 .have q:=A.st _ (hm i hi);have:=(q.2.2 _ (pG [] (a.next.getD i []) k (by have:=q.1;simp only at this;omega))).2;have:=A.c.2;omega
 .have q:=A.st _ (hm i hi);exact (q.2.2 _ (pG [] (a.next.getD i []) k (by have:=q.1;simp only at this;omega))).1 _ (pG 0 _ x hx)
def a4D(a:aj)(T:ATx a)(i k x:Nat)(hi:i<a.accept.length)(hk:k<(a.accept.getD i []).length)(h:((a.next.getD i []).getD k []).length<=x):tX a i k x=tM a i (k+1):=by
 unfold tX tM;rw[J9 Cz _ x h,Gl Ik (false,[]) _ k (by have:=(T.len i hi).1;rw[List.length_zip];omega),JX false [] _ _ (T.len i hi).1 k hk];simp[Ik,jY]
def a7F(a:aj)(T:ATx a)(i k:Nat)(hi:i<a.accept.length)(h:(a.accept.getD i []).length<=k):tM a i k++[10]=tI a (i+1):=by
 unfold tM tI;rw[J9 Ik _ k (by rw[List.length_zip];omega),Gl (λ p=>tl p++[10]) ([],[]) _ i (by have:=T.s.nx;simp;omega),JX [] [] _ _ T.s.nx.symm i hi];simp[tl]
def a2m(a:aj)(i:Nat)(h:a.accept.length<=i):tI a i=atx a:=by
 unfold tI atx;rw[J9 _ _ i (by simp;omega)];simp
def RG(n:Int)(h : -1<=n/\n<=59):(Cz n).length<=3:=by
 have:=(qB n h).2.2.2.1;simp only[Cz,a9f];omega
def Yz(b:Bool):(Ll b).length=1:=by cases b<;>rfl
def Vo{α:Type}{xs:List α}{k:Nat}{x:α}(h:x∈xs.take k):x∈xs:=b1Y h
def UF(p:Bool×List Int)(h:Zv p.2)(h4:p.2.length<=4):(Ik p).length<=14:=by
 have:=pF Cz 3 p.2 λ x hx=>RG x (h x hx);have:=Yz p.1;simp only[Ik,jY,a9f,a9i];omega
def a3q(p:List Bool×List (List Int))(hl:p.1.length<=8)(h:∀ r∈p.2,Zv r/\r.length<=4):(tl p++[10]).length<=118:=by
 have:=pF Ik 14 (p.1.zip p.2) λ q hq=>UF q (h q.2 (b2c hq).2).1 (h q.2 (b2c hq).2).2;have:(p.1.zip p.2).length<=8:=by simp;omega
 simp only[tl,a9i,a9f,a9v];omega
def XG(a:aj)(T:ATx a):(∀ i,(tI a i).length<=7200)/\(∀ i k,i<a.accept.length->(tM a i k).length<=7400)/\(∀ i k x,i<a.accept.length->k<(a.accept.getD i []).length->(tX a i k x).length<=7500):=by
 have A:=T.s;have hp:∀ p∈a.accept.zip a.next,p.1.length<=8/\∀ r∈p.2,Zv r/\r.length<=4:=λ p hp=>by
  have q:=A.st p hp;have hl:=cK a.sig A.t;refine⟨by have:=q.2.1;omega,λ r hr=>⟨(q.2.2 r hr).1,by have:=(q.2.2 r hr).2;have:=A.c.2;omega⟩⟩
 have d1:=(uc a.sig.aK ⟨A.t.1,by have:=A.t.2;omega⟩).len;have d2:=(uc a.sig.au ⟨A.c.1,by have:=A.c.2;omega⟩).len;have hI:∀ i,(tI a i).length<=7200:=λ i=>by
  have:=pF (λ p=>tl p++[10]) 118 ((a.accept.zip a.next).take i) λ p h=>a3q p (hp p (Vo h)).1 (hp p (Vo h)).2;have:((a.accept.zip a.next).take i).length<=60:=by have:=A.n2;simp;omega
  simp only[tI,IM,a9i,a9f,a9v];omega
 have hm:∀ i,i<a.accept.length->(a.accept.getD i [],a.next.getD i [])∈a.accept.zip a.next:=λ i hi=>by
  rw[<-JX [] [] a.accept a.next A.nx.symm i hi];exact pG _ _ _ (by simp[A.nx];omega)
 have hM:∀ i k,i<a.accept.length->(tM a i k).length<=7400:=λ i k hi=>by
  have hh:=hp _ (hm i hi);have:=pF Ik 14 (((a.accept.getD i []).zip (a.next.getD i [])).take k) λ q hq=>UF q (hh.2 q.2 (b2c (Vo hq)).2).1 (hh.2 q.2 (b2c (Vo hq)).2).2;have:(((a.accept.getD i []).zip (a.next.getD i [])).take k).length<=8:=by have:=hh.1;rw[a9W,List.length_zip];simp only at this;omega
  have:=hI i;simp only[tM,a9i,a9f,a9v];omega
 refine⟨hI,hM,λ i k x hi hk=>?_⟩;have:=hM i k hi;have hr:=(hp _ (hm i hi)).2 _ (pG [] (a.next.getD i []) k (by have:=(T.len i hi).1;omega));have:=pF Cz 3 (((a.next.getD i []).getD k []).take x) λ y hy=>RG y (hr.1 y (Vo hy));have:(((a.next.getD i []).getD k []).take x).length<=4:=by have:=hr.2;rw[a9W];omega
 have:=Yz ((a.accept.getD i []).getD k false);simp only[tX,a9i,a9f];omega
def Ls(w:World)(S:Nat->Prop)(L:List D)(v:Value):Prop:=∃ p cap,v = .slice p L.length cap/\(L=[]\/∃ b o,p=some ⟨b,o,none⟩/\S b/\cF w S L b o)
def PJ{w:World}{S:Nat->Prop}{n:Nat}{L:List D}{v:Value}(h:Rd w S (.slice n L) [v]):Ls w S L v:=by
 obtain⟨p,cap,h1,_,_,_,h5⟩:=(show ∃ a cap,[v]=[.slice a L.length cap]/\L.length<=cap/\cap<=maxLen/\L.length<=140737488355328/\(L=[]\/∃ b o,a=some ⟨b,o,none⟩/\S b/\cF w S L b o) from h);simp only[a9a,a9q] at h1;exact⟨p,cap,h1,h5⟩
def a1I{w:World}{S:Nat->Prop}{a:aj}{cs:List Value}(h:Rd w S a.aE cs):∃ v1 v2,cs=[.int .i64 a.sig.aK, .int .i64 a.sig.au,v1,v2] /\
  Ls w S (a.accept.map λ y=>D.slice 1 (y.map λ y=>D.bool y)) v1/\Ls w S (a.next.map λ y=>D.slice 1 (y.map λ y=>D.slice 1 (y.map λ y=>D.int .i64 y))) v2:=by
 simp only[aj.aE,Rd,cJ] at h;obtain⟨u0,r0,rfl,⟨h0,_⟩,u1,r1,rfl,⟨h1,_⟩,u2,r2,rfl,h2,u3,r3,rfl,h3,rfl⟩:=h;simp only[a9a,a9q] at h0 h1;subst h0 h1;exact⟨u2,u3,rfl,PJ (n:=1) h2,PJ (n:=1) h3⟩
def Eg{α:Type}(f:α->D)(z:α)(xs:List α)(i:Nat)(h:i<xs.length):(xs.map f)[i]?=some (f (xs.getD i z)):=by
 simp[b0w,a9h,h]
def pP{B:Nat}{w w1:World}(h:Below B w w1){b o:Nat}(hb:b<B){v:Value}(hc:w.cell? ⟨b,o,none⟩=some v):w1.cell? ⟨b,o,none⟩=some v:=by
 rw[<-hc];exact b1i (a:=⟨b,o,none⟩) (h.block b hb)
def Ej{w:World}{S:Nat->Prop}{L:List D}{b o:Nat}(h:cF w S L b o)(h1:∀ d∈L,d.size=1)(i:Nat)(d:D)(hd:L[i]?=some d):∃ u,Rd w S d [u]/\w.cell? ⟨b,o+i,none⟩=some u:=by
 obtain⟨cs,q1,q2,q3⟩:=cF.at_ (n:=1) L b o h h1 i d hd;match cs,q1 with
 | [u],_=>exact⟨u,q2,by have:=q3 0 u rfl;simpa using this⟩
def NG{w:World}{S:Nat->Prop}{L:List D}{v:Value}(h:Ls w S L v)(n:Nat)(hl:L.length=n)(hn:0<n):∃ b o cap,v = .slice (some ⟨b,o,none⟩) n cap/\S b/\cF w S L b o:=by
 obtain⟨p,cap,rfl,h5⟩:=h;rcases h5 with h5|⟨b,o,rfl,hb,hr⟩
 .rw[h5] at hl;simp at hl;omega
 .exact⟨b,o,cap,by rw[hl],hb,hr⟩
def ZN{α:Type}(f:α->D)(h:∀ x,(f x).size=1)(xs:List α):∀ d∈xs.map f,d.size=1:=λ d hd=>by obtain⟨x,_,rfl⟩:=a9b.1 hd;exact h x
def tN:Value->Nat
 | .int _ k=>k.toNat
 | _=>0
set_option maxRecDepth 100000 in
def Us(a:aj)(w:World)(S:Nat->Prop)(hS:∀ b,S b->b<w.heap.size)(Zb:aOk a=true)(cs:List Value)(hr:Rd w S a.aE cs) :
  Calls Tryz.prog 51 #[.agg cs.toArray] w λ e w'=>e = .returned (.string ⟨(atx a).toArray⟩)/\Below w.heap.size w w':=by
 have T:=Wk a Zb;obtain⟨L1,L2,L3⟩:=XG a T;obtain⟨v1,v2,rfl,l1,l2⟩:=a1I hr;clear hr;obtain⟨b1,o1,Uy,rfl,rJ,r1⟩:=NG l1 a.accept.length (by simp) T.s.n1;obtain⟨b2,o2,Uz,rfl,CZ,r2⟩:=NG l2 a.accept.length (by simpa using T.s.nx) T.s.n1;clear l1 l2;have z1:=ZN (λ y:List Bool=>D.slice 1 (y.map λ y=>D.bool y)) (λ _=>rfl) a.accept;have z2:=ZN (λ y:List (List Int)=>D.slice 1 (y.map λ y=>D.slice 1 (y.map λ y=>D.int .i64 y))) (λ _=>rfl) a.next;have hI:∀ o:Obj,pf (w.heap.size+1) (w.heap.size+1) [] ((w.alloc o).alloc (.cells #[.pointer none, .slice none 0 0] 126)):=λ o=>by
  have:=b3k 126 5 (w.alloc o);rw[show (w.alloc o).heap.size=w.heap.size+1 by simp] at this;exact this
 have A:=T.s;obtain⟨n1,MS⟩:∃ n:Nat,a.sig.aK=n:=⟨a.sig.aK.toNat,by have:=A.t.1;omega⟩;obtain⟨n2,O7⟩:∃ n:Nat,a.sig.au=n:=⟨a.sig.au.toNat,by have:=A.c.1;omega⟩;have m1:n1<100:=by have:=A.t.2;omega
 have m2:n2<100:=by have:=A.c.2;omega
 have d1:(Lib.decDigits n1).length<=2:=by have:=(uc a.sig.aK ⟨A.t.1,by have:=A.t.2;omega⟩).len;rw[MS] at this;exact this
 have d2:(Lib.decDigits n2).length<=2:=by have:=(uc a.sig.au ⟨A.c.1,by have:=A.c.2;omega⟩).len;rw[O7] at this;exact this
 rw[MS,O7];go_enter Tryz.func51,Tryz.ntmps51;go_wp2;have QQ:=hI (.cells #[.int .i64 n1, .int .i64 n2,(.slice (some ⟨b1,o1,none⟩) a.accept.length Uy),(.slice (some ⟨b2,o2,none⟩) a.accept.length Uz)] 41);have kd:Below w.heap.size w ((w.alloc (.cells #[.int .i64 n1, .int .i64 n2,(.slice (some ⟨b1,o1,none⟩) a.accept.length Uy),(.slice (some ⟨b2,o2,none⟩) a.accept.length Uz)] 41)).alloc (.cells #[.pointer none, .slice none 0 0] 126)):=((b0R _ w).alloc (a9n _) _).alloc (by simp) _;have KB:((w.alloc (.cells #[.int .i64 n1, .int .i64 n2,(.slice (some ⟨b1,o1,none⟩) a.accept.length Uy),(.slice (some ⟨b2,o2,none⟩) a.accept.length Uz)] 41)).alloc (.cells #[.pointer none, .slice none 0 0] 126)).heap[w.heap.size]?=some (.cells #[.int .i64 n1, .int .i64 n2,(.slice (some ⟨b1,o1,none⟩) a.accept.length Uy),(.slice (some ⟨b2,o2,none⟩) a.accept.length Uz)] 41 (0,0)):=by
  rw[b0a _ _ _ (by simp)];exact b0k w _
 have GY:((w.alloc (.cells #[.int .i64 n1, .int .i64 n2,(.slice (some ⟨b1,o1,none⟩) a.accept.length Uy),(.slice (some ⟨b2,o2,none⟩) a.accept.length Uz)] 41)).alloc (.cells #[.pointer none, .slice none 0 0] 126)).heap.size=w.heap.size+2:=by simp
 revert QQ kd KB GY;generalize hW:((w.alloc (.cells #[.int .i64 n1, .int .i64 n2,(.slice (some ⟨b1,o1,none⟩) a.accept.length Uy),(.slice (some ⟨b2,o2,none⟩) a.accept.length Uz)] 41)).alloc (.cells #[.pointer none, .slice none 0 0] 126))=W;intro QQ kd KB GY;clear hI hW;have c0:W.cell? ⟨w.heap.size,0,none⟩=some (.int .i64 n1):=by rw[b0I KB];rfl
 have c1:W.cell? ⟨w.heap.size,1,none⟩=some (.int .i64 n2):=by rw[b0I KB];rfl
 have hI1:pf (w.heap.size+1) (w.heap.size+1) [] { W with drawn:=W.drawn+1 }:=QQ;have oO:Below w.heap.size w { W with drawn:=W.drawn+1 }:=⟨kd.os,kd.tape,kd.output,kd.size,kd.block⟩;have EW:({ W with drawn:=W.drawn+1 }:World).heap[w.heap.size]?=some (.cells #[.int .i64 n1, .int .i64 n2,(.slice (some ⟨b1,o1,none⟩) a.accept.length Uy),(.slice (some ⟨b2,o2,none⟩) a.accept.length Uz)] 41 (0,0)):=KB;have KC:({ W with drawn:=W.drawn+1 }:World).heap.size=w.heap.size+2:=GY;go_still_tail 12,(by kernel_rfl);still_call (ig n1 m1 _);refine b2J (λ K hK=>?_);go_simp;rw[a9c];rotate_left
 .omega
 refine⟨rfl,hK _ ?_⟩;clear hK K;refine b2J (λ K hK=>?_);go_simp;rw[a9c];rotate_left
 .omega
 refine⟨rfl,hK _ ?_⟩;clear hK K;repeat still_step
 still_call (ig n2 m2 _);refine b2J (λ K hK=>?_);go_simp;rw[a9c];rotate_left
 .omega
 refine⟨rfl,hK _ ?_⟩;clear hK K;refine b2J (λ K hK=>?_);go_simp;rw[a9c];rotate_left
 .omega
 refine⟨rfl,hK _ ?_⟩;clear hK K;refine wpStill_nil ?_;revert hI1 oO EW KC;generalize ({ W with drawn:=W.drawn+1 }:World)=W1;intro hI1 oO EW KC;clear QQ kd KB GY c0 c1;have q0:=L1 0;have q1:(IM a.sig++[10]).length<=7200:=by rw[a4C];exact q0
 go_wp2_with (go_at_call 82;refine (ws (w.heap.size+1) (w.heap.size+1) [] _ _ hI1 (by simp;simp[IM,eh,MS,O7] at q1;omega) (by omega)).mono ?_);rintro e w1 ⟨he,h1⟩;subst he;have t0:(({ data := #[97,117,116,111,109,97,116,111,110,32] }++{ data:=(Lib.decDigits n1).toArray }++{ data := #[32] }++{ data:=(Lib.decDigits n2).toArray }++{ data := #[10] }:ByteArray)).data.toList=tI a 0:=by
  rw[<-a4C];simp[IM,eh,MS,O7]
 rw[t0] at h1;clear t0 q0 q1 d1 d2 m1 m2;have KX:∀ {t:List UInt8} {wr:World},Wr (w.heap.size+1) (w.heap.size+1) [] t W1 wr->wr.cell? ⟨w.heap.size,2,none⟩=some (.slice (some ⟨b1,o1,none⟩) a.accept.length Uy)/\wr.cell? ⟨w.heap.size,3,none⟩=some (.slice (some ⟨b2,o2,none⟩) a.accept.length Uz)/\Below w.heap.size w wr/\w.heap.size+1<=wr.heap.size:=λ {t wr} h=>by
  have e:=(h.aL _ _ _ _ EW (by decide) (by omega)).trans EW;refine⟨by rw[b0I e];rfl,by rw[b0I e];rfl,oO.trans (h.cQ.mono (b2N _)),?_⟩;have:=h.cQ.size;omega
 obtain⟨x1,x2,x3,x4⟩:=KX h1;go_wp2;go_loopw [27] (λ t wr=>∃ i:Nat,t = .int .i64 i/\i<=a.accept.length/\Wr (w.heap.size+1) (w.heap.size+1) [] (tI a i) W1 wr) (λ t wr=>a.accept.length - tN t)
 .exact⟨0,rfl,a9F _,h1⟩
 obtain⟨i,rfl,hi,hw⟩:=hrel;clear x1 x2 x3 x4 h1;obtain⟨x1,x2,x3,x4⟩:=KX hw;have EV:pf (w.heap.size+1) (w.heap.size+1) (tI a i) wr:=hw.Db;have li:=L1 i;by_cases bj:i<a.accept.length
 .obtain⟨u,hu,cu⟩:=Ej r1 z1 i _ (Eg _ [] a.accept i bj);obtain⟨b3,o3,cp3,rfl,Kt,r3⟩:=NG (PJ hu) (a.accept.getD i []).length (by simp) (T.pos i bj);obtain⟨u',To,YS⟩:=Ej r2 z2 i _ (Eg _ [] a.next i (by rw[A.nx];exact bj));obtain⟨b4,o4,cp4,rfl,hb4,r4⟩:=NG (PJ To) (a.accept.getD i []).length (by rw[a9M,(T.len i bj).1]) (T.pos i bj);clear hu To;have z3:=ZN (λ y:Bool=>D.bool y) (λ _=>rfl) (a.accept.getD i []);have z4:=ZN (λ y:List Int=>D.slice 1 (y.map λ y=>D.int .i64 y)) (λ _=>rfl) (a.next.getD i []);have y1:=pP x3 (hS _ rJ) cu;have y2:∀ {V9:World},Below w.heap.size w V9->V9.cell? ⟨b2,o2+i,none⟩=some (.slice (some ⟨b4,o4,none⟩) (a.accept.getD i []).length cp4):=λ h=>pP h (hS _ CZ) YS;have hl8:=(T.len i bj).2;have hln:=(T.len i bj).1.symm;clear cu YS;generalize hm:(a.accept.getD i []).length=m at *
  go_wp2_with (go_at_call 82;refine (ws (w.heap.size+1) (w.heap.size+1) (tI a i) _ _ EV (by simp;omega) (by omega)).mono ?_);first|(rintro e w2 ⟨he,h2⟩;subst he)|(intro e w2 he h2;subst he)
  have hM:=hw.trans (show Wr _ _ ([]++tI a i) _ _ _ from h2);rw[a7E] at hM;clear h2 EV x1 x2 x3 x4 hw li;go_wp2;go_loopw [35] (λ t wr=>∃ k:Nat,t = .int .i64 k/\k<=m/\Wr (w.heap.size+1) (w.heap.size+1) [] (tM a i k) W1 wr) (λ t wr=>m - tN t)
  .exact⟨0,rfl,a9F _,hM⟩
  clear hM;obtain⟨k,rfl,hk,hw⟩:=hrel;obtain⟨x1,x2,x3,x4⟩:=KX hw;have EV:=hw.Db;have li:=L2 i k bj;by_cases BZ:k<m
  .obtain⟨u,hu,cu⟩:=Ej r3 z3 k _ (Eg _ false (a.accept.getD i []) k (by omega));have hu:[u]=[.bool ((a.accept.getD i []).getD k false)]:=hu;simp only[a9a,a9q] at hu;subst hu;obtain⟨u',To,YS⟩:=Ej r4 z4 k _ (Eg _ [] (a.next.getD i []) k (by omega));obtain⟨p5,cp5,rfl,r5⟩:=PJ To;clear To;rw[a9M] at YS;have y3:=pP x3 (hS _ Kt) cu;have y4:∀ {V9:World},Below w.heap.size w V9->V9.cell? ⟨b4,o4+k,none⟩=some (.slice p5 ((a.next.getD i []).getD k []).length cp5):=λ h=>pP h (hS _ hb4) YS;clear cu YS;have Pf:=a7G a i k;have hL3:=L3 i k;have fD:=T.cell i k;have eW:=T.row i k bj (by omega);rw[hm] at hL3 fD;generalize hq:((a.next.getD i []).getD k []).length=q at *
   generalize hB:(a.accept.getD i []).getD k false=bb at *
   cases bb
   .go_wp2_with (go_at_call 82;refine (ws (w.heap.size+1) (w.heap.size+1) (tM a i k) _ _ EV (by simp;omega) (by omega)).mono ?_);first|(rintro e w2 ⟨he,h2⟩;subst he)|(intro e w2 he h2;subst he)
    have hX:=hw.trans (show Wr _ _ ([]++tM a i k) _ _ _ from h2);rw[show ([32,45]:List UInt8)=32::Ll false from rfl,Pf] at hX;clear h2 EV hw x1 x2 x3 x4 li y3 Pf;obtain⟨x1,x2,x3,x4⟩:=KX hX;have y5:=y2 x3;have y6:=y4 x3;go_wp2;go_loopw [52] (λ t wr=>∃ x:Nat,t = .int .i64 x/\x<=q/\Wr (w.heap.size+1) (w.heap.size+1) [] (tX a i k x) W1 wr) (λ t wr=>q - tN t)
    .exact⟨0,rfl,a9F _,hX⟩
    clear hX x1 x2 x3 x4 y5 y6;obtain⟨x,rfl,hx,hw⟩:=hrel;obtain⟨x1,x2,x3,x4⟩:=KX hw;have EV:=hw.Db;have li:=hL3 x bj BZ;by_cases hxq:x<q
    .obtain⟨b5,o5,rfl,hb5,r6⟩:∃ b5 o5,p5=some ⟨b5,o5,none⟩/\S b5/\cF w S (((a.next.getD i []).getD k []).map λ y=>D.int .i64 y) b5 o5:=by
      rcases r5 with r5|r5
      .rw[b2g] at r5;rw[r5] at hq;simp at hq;omega
      .exact r5
     obtain⟨u,hu,cu⟩:=Ej r6 (ZN (λ y:Int=>D.int .i64 y) (λ _=>rfl) _) x _ (Eg _ 0 ((a.next.getD i []).getD k []) x (by omega));have hu:[u]=[.int .i64 (((a.next.getD i []).getD k []).getD x 0)]:=hu.1;simp only[a9a,a9q] at hu;subst hu;have y7:=pP x3 (hS _ hb5) cu;obtain⟨e1,e2⟩:=fD x bj BZ hxq;have hXs:=a4E a i k x (by omega);clear cu fD;generalize ((a.next.getD i []).getD k []).getD x 0=z at *
     by_cases hz:z<0
     .go_wp2_with (go_at_call 82;refine (ws (w.heap.size+1) (w.heap.size+1) (tX a i k x) _ _ EV (by simp;omega) (by omega)).mono ?_);first|(rintro e w2 ⟨he,h2⟩;subst he)|(intro e w2 he h2;subst he)
      have hX:=hw.trans (show Wr _ _ ([]++tX a i k x) _ _ _ from h2);rw[show ([58,46]:List UInt8)=58::eV z from by unfold eV;rw[decide_eq_true hz];rfl,hXs] at hX;go_wp2;refine⟨⟨x+1,rfl,by omega,hX⟩,?_⟩;simp only[tN];omega
     .obtain⟨n,rfl⟩:∃ n:Nat,z=n:=⟨z.toNat,by omega⟩;have d3:(Lib.decDigits n).length<=2:=(uc (n:Int) ⟨by omega,by omega⟩).len;have dd:∀ w',Calls Tryz.prog 83 #[.int .i64 n] w' λ e JS=>e = .returned (.string ⟨(Lib.decDigits n).toArray⟩)/\JS=w':=λ w'=>ig n (by omega) w';go_wp2_with (go_at_call 83;refine (dd _).mono ?_);refine (ws (w.heap.size+1) (w.heap.size+1) (tX a i k x) _ _ EV (by simp;omega) (by omega)).mono ?_;first|(rintro e w2 ⟨he,h2⟩;subst he)|(intro e w2 he h2;subst he)
      have hX:=hw.trans (show Wr _ _ ([]++tX a i k x) _ _ _ from h2);rw[show (({ data := #[58] }++{ data:=(Lib.decDigits n).toArray }:ByteArray)).data.toList=58::eV (n:Int) from by unfold eV eh;rw[decide_eq_false (by omega)];simp,hXs] at hX;go_wp2;refine⟨⟨x+1,rfl,by omega,hX⟩,?_⟩;simp only[tN];omega
    .rw[a4D a T i k x bj (by omega) (by omega)] at hw;go_wp2;refine⟨⟨k+1,rfl,by omega,hw⟩,?_⟩;simp only[tN];omega
   .go_wp2_with (go_at_call 82;refine (ws (w.heap.size+1) (w.heap.size+1) (tM a i k) _ _ EV (by simp;omega) (by omega)).mono ?_);first|(rintro e w2 ⟨he,h2⟩;subst he)|(intro e w2 he h2;subst he)
    have hX:=hw.trans (show Wr _ _ ([]++tM a i k) _ _ _ from h2);rw[show ([32,43]:List UInt8)=32::Ll true from rfl,Pf] at hX;clear h2 EV hw x1 x2 x3 x4 li y3 Pf;obtain⟨x1,x2,x3,x4⟩:=KX hX;have y5:=y2 x3;have y6:=y4 x3;go_wp2;go_loopw [52] (λ t wr=>∃ x:Nat,t = .int .i64 x/\x<=q/\Wr (w.heap.size+1) (w.heap.size+1) [] (tX a i k x) W1 wr) (λ t wr=>q - tN t)
    .exact⟨0,rfl,a9F _,hX⟩
    clear hX x1 x2 x3 x4 y5 y6;obtain⟨x,rfl,hx,hw⟩:=hrel;obtain⟨x1,x2,x3,x4⟩:=KX hw;have EV:=hw.Db;have li:=hL3 x bj BZ;by_cases hxq:x<q
    .obtain⟨b5,o5,rfl,hb5,r6⟩:∃ b5 o5,p5=some ⟨b5,o5,none⟩/\S b5/\cF w S (((a.next.getD i []).getD k []).map λ y=>D.int .i64 y) b5 o5:=by
      rcases r5 with r5|r5
      .rw[b2g] at r5;rw[r5] at hq;simp at hq;omega
      .exact r5
     obtain⟨u,hu,cu⟩:=Ej r6 (ZN (λ y:Int=>D.int .i64 y) (λ _=>rfl) _) x _ (Eg _ 0 ((a.next.getD i []).getD k []) x (by omega));have hu:[u]=[.int .i64 (((a.next.getD i []).getD k []).getD x 0)]:=hu.1;simp only[a9a,a9q] at hu;subst hu;have y7:=pP x3 (hS _ hb5) cu;obtain⟨e1,e2⟩:=fD x bj BZ hxq;have hXs:=a4E a i k x (by omega);clear cu fD;generalize ((a.next.getD i []).getD k []).getD x 0=z at *
     by_cases hz:z<0
     .go_wp2_with (go_at_call 82;refine (ws (w.heap.size+1) (w.heap.size+1) (tX a i k x) _ _ EV (by simp;omega) (by omega)).mono ?_);first|(rintro e w2 ⟨he,h2⟩;subst he)|(intro e w2 he h2;subst he)
      have hX:=hw.trans (show Wr _ _ ([]++tX a i k x) _ _ _ from h2);rw[show ([58,46]:List UInt8)=58::eV z from by unfold eV;rw[decide_eq_true hz];rfl,hXs] at hX;go_wp2;refine⟨⟨x+1,rfl,by omega,hX⟩,?_⟩;simp only[tN];omega
     .obtain⟨n,rfl⟩:∃ n:Nat,z=n:=⟨z.toNat,by omega⟩;have d3:(Lib.decDigits n).length<=2:=(uc (n:Int) ⟨by omega,by omega⟩).len;have dd:∀ w',Calls Tryz.prog 83 #[.int .i64 n] w' λ e JS=>e = .returned (.string ⟨(Lib.decDigits n).toArray⟩)/\JS=w':=λ w'=>ig n (by omega) w';go_wp2_with (go_at_call 83;refine (dd _).mono ?_);refine (ws (w.heap.size+1) (w.heap.size+1) (tX a i k x) _ _ EV (by simp;omega) (by omega)).mono ?_;first|(rintro e w2 ⟨he,h2⟩;subst he)|(intro e w2 he h2;subst he)
      have hX:=hw.trans (show Wr _ _ ([]++tX a i k x) _ _ _ from h2);rw[show (({ data := #[58] }++{ data:=(Lib.decDigits n).toArray }:ByteArray)).data.toList=58::eV (n:Int) from by unfold eV eh;rw[decide_eq_false (by omega)];simp,hXs] at hX;go_wp2;refine⟨⟨x+1,rfl,by omega,hX⟩,?_⟩;simp only[tN];omega
    .rw[a4D a T i k x bj (by omega) (by omega)] at hw;go_wp2;refine⟨⟨k+1,rfl,by omega,hw⟩,?_⟩;simp only[tN];omega
  .have hT:=a7F a T i k bj (by omega);have a8G:=A.n2;go_wp2_with (go_at_call 82;refine (ws (w.heap.size+1) (w.heap.size+1) (tM a i k) _ _ EV (by simp;omega) (by omega)).mono ?_);first|(rintro e w2 ⟨he,h2⟩;subst he)|(intro e w2 he h2;subst he)
   have hX:=hw.trans (show Wr _ _ ([]++tM a i k) _ _ _ from h2);rw[hT] at hX;go_wp2;refine⟨⟨i+1,rfl,by omega,hX⟩,?_⟩;simp only[tN];omega
 .rw[a2m a i (by omega)] at EV;go_wp2_with (go_at_call 84;refine (Tryz.Builder_String_any (w.heap.size+1) (w.heap.size+1) (atx a) wr EV x4).mono ?_);first|(rintro e w2 ⟨he,h2⟩;subst he)|(intro e w2 he h2;subst he)
  go_wp2;go_ret;exact⟨rfl,x3.trans (h2.mono (b2N _))⟩
def jA:aX:=⟨pb,[.v (.st .automaton)],λ (a:aj)=>⟨(some (aOk a=true),[⟨.str,atx a⟩])⟩⟩
def mc:aX.Good jA:=by
 refine⟨aD zJ rfl (by decide),?_⟩;intro a hp w S bV ⟨hS,_⟩ ha;match bV,ha with
 | [v],ha =>
  obtain⟨⟨cs,rfl,hr⟩,_⟩:=ha;refine (Us a w S hS hp cs hr).mono ?_;rintro e w' ⟨rfl,hb⟩;have hl:(atx a).length<=7200:=by
   have:=(XG a (Wk a hp)).1 a.accept.length;rw[a2m a _ (a9n _)] at this;exact this
  exact⟨_,S,_,rfl,rfl,zL hb,λ _ _=>b0X,λ b h=>a9g (hS b h) hb.size,TU (w:=w') (S:=S) _ (by omega)⟩
end
end Go.Proofs.YtofnjfpeimhifaaGreatDoor

namespace Go.Proofs.YtofnjfpeimhifaaGreatDoor
noncomputable section
def a1r(t:List UInt8):(gW t).length=(bO 10 t).length - 1:=by unfold gW;simp
def a1s(t:List UInt8):∀ x∈gW t,x∈bO 10 t:=λ x hx=>b1Y hx
def K1(t:List UInt8)(i:Nat):((gW t).getD i []).length<=t.length/\(((gW t).drop 1).getD i []).length<=t.length:=by
 have h:=AU (z7 10 t) (a1s t);exact⟨vI _ _ h i,vI _ _ (AU h λ y hy=>b0N hy) i⟩
def a3d(t:List UInt8)(h:0<(gW t).length):(gW t).getD 0 []=(bO 10 t).getD 0 []:=by
 unfold gW at h ⊢;rw[List.getD_eq_getElem?_getD,List.getD_eq_getElem?_getD,List.getElem?_take];rw[List.length_take] at h;rw[if_pos (by omega)]
def me(t:List UInt8):List (List UInt8):=bO 32 ((gW t).getD 0 [])
def a2V(t:List UInt8):bO 32 ((gW t).getD 0 [])=me t:=rfl
def a0m(t:List UInt8):List.drop 1 (gW t)=dD t:=rfl
def a2I(t:List UInt8):(dD t).length=(gW t).length - 1:=by unfold dD;simp
def YO(t:List UInt8)(i:Nat):((dD t).getD i []).length<=t.length:=(K1 t i).2
def Y6(t:List UInt8)(i:Nat):((me t).getD i []).length<=t.length:=b0b (vI _ _ (z7 32 _) i) (K1 t 0).1
structure HP(t:List UInt8):Prop where
 lb:Np t=true
 l1:1<=(gW t).length
 l2:(gW t).length<=61
def HP.hd{t:List UInt8}(h:HP t):me t=ET t:=by
 unfold me ET;rw[a3d t h.l1]
def Hk{t:List UInt8}(h:K6 t=false):aj.mk (aF.mk (0:Int) (0:Int)) [] []=raV t/\5=raC t:=⟨((zt t).2 h).1.symm,((zt t).2 h).2.symm⟩
def Tk(t:List UInt8)(h:Np t=false\/¬ (1<=(gW t).length/\(gW t).length<=61)):aj.mk (aF.mk (0:Int) (0:Int)) [] []=raV t/\5=raC t:=Hk (by
 unfold K6;rcases h with h|h
 .rw[h];rfl
 .rw[b0D h];simp)
def HP.no{t:List UInt8}(h:HP t)(h3:¬ (me t).length=3):aj.mk (aF.mk (0:Int) (0:Int)) [] []=raV t/\5=raC t:=Hk (by
 rw[h.hd] at h3;unfold K6;rw[decide_eq_false h3];simp)
structure IP(t:List UInt8)(i:Nat):Prop where
 h:HP t
 h3:(me t).length=3
 le:i<=(dD t).length
 al:bX (eZ 2) ((dD t).take i)=true
def HP.to{t:List UInt8}(h:HP t)(h3:(me t).length=3):IP t 0:=⟨h,h3,a9F _,rfl⟩
def IP.len{t:List UInt8}{i:Nat}(v:IP t i):(((dD t).take i).map lZ).length=i/\(((dD t).take i).map (kp 2)).length=i/\i<=(dD t).length/\(dD t).length<=60/\(me t).length=3 :=
 ⟨by have:=v.le;simp;omega,by have:=v.le;simp;omega,v.le,by have:=a2I t;have:=v.h.l2;omega,v.h3⟩
def IP.bad{t:List UInt8}{i:Nat}(v:IP t i)(hi:i<(dD t).length)(h:eZ 2 ((dD t).getD i [])=false):aj.mk (aF.mk (0:Int) (0:Int)) [] []=raV t/\5=raC t:=Hk (by
 have e:bX (eZ 2) (dD t)=false:=dJ _ [] _ i hi h;unfold K6;rw[e];simp)
def IP.next{t:List UInt8}{i:Nat}(v:IP t i)(hi:i<(dD t).length)(h:eZ 2 ((dD t).getD i [])=true):IP t (i+1):=⟨v.h,v.h3,hi,by rw[de _ [] _ i hi,v.al,h];rfl⟩
def IP.step{t:List UInt8}{i:Nat}(_v:IP t i)(hi:i<(dD t).length)(h:eZ 2 ((dD t).getD i [])=true):((dD t).take i).map lZ++[sA ((dD t).getD i [])]=((dD t).take (i+1)).map lZ/\((dD t).take i).map (kp 2)++[sN ((dD t).getD i [])]=((dD t).take (i+1)).map (kp 2):=by
 have e1:sA ((dD t).getD i [])=lZ ((dD t).getD i []):=by unfold sA;rw[h];rfl
 have e2:sN ((dD t).getD i [])=kp 2 ((dD t).getD i []):=by unfold sN;rw[h];rfl
 rw[e1,e2,eu [] (dD t) i hi];exact⟨by simp,by simp⟩
def aI(t:List UInt8)(i:Nat):aj:=aj.mk (aF.mk (dr 1 ((me t).getD 1 [])) (dr 1 ((me t).getD 2 []))) (((dD t).take i).map lZ) (((dD t).take i).map (kp 2))
def IP.a{t:List UInt8}{i:Nat}(v:IP t i)(hi:(dD t).length<=i):aI t i=aR 1 2 t:=by
 unfold aI aR;rw[v.h.hd,List.take_of_length_le hi]
def IP.ok{t:List UInt8}{i:Nat}(v:IP t i)(hi:(dD t).length<=i):K6 t=(dz 1 ((me t).getD 1 [])&&dz 1 ((me t).getD 2 [])&&(aOk (aI t i)&&decide (atx (aI t i)=t))):=by
 rw[v.a hi];have e:=v.al;rw[List.take_of_length_le hi] at e;have h3:=v.h3;rw[v.h.hd] at h3;unfold K6 Vr;rw[v.h.hd,v.h.lb,decide_eq_true ⟨v.h.l1,v.h.l2⟩,decide_eq_true h3,e];rfl
def IP.n1{t:List UInt8}{i:Nat}(v:IP t i)(hi:(dD t).length<=i)(h:dz 1 ((me t).getD 1 [])=false):aj.mk (aF.mk (0:Int) (0:Int)) [] []=raV t/\5=raC t:=Hk (by rw[v.ok hi,h];rfl)
def IP.n2{t:List UInt8}{i:Nat}(v:IP t i)(hi:(dD t).length<=i)(h:dz 1 ((me t).getD 2 [])=false):aj.mk (aF.mk (0:Int) (0:Int)) [] []=raV t/\5=raC t:=Hk (by rw[v.ok hi,h,b1n];rfl)
def IP.n3{t:List UInt8}{i:Nat}(v:IP t i)(hi:(dD t).length<=i)(h:aOk (aI t i)=false):aj.mk (aF.mk (0:Int) (0:Int)) [] []=raV t/\5=raC t:=Hk (by rw[v.ok hi,h];simp)
def IP.n4{t:List UInt8}{i:Nat}(v:IP t i)(hi:(dD t).length<=i)(h:¬ atx (aI t i)=t):aj.mk (aF.mk (0:Int) (0:Int)) [] []=raV t/\5=raC t:=Hk (by rw[v.ok hi,b0D h];simp)
def IP.yes{t:List UInt8}{i:Nat}(v:IP t i)(hi:(dD t).length<=i)(h1:dz 1 ((me t).getD 1 [])=true)(h2:dz 1 ((me t).getD 2 [])=true)(h3:aOk (aI t i)=true)(h4:atx (aI t i)=t):aI t i=raV t/\0=raC t:=by
 have e:K6 t=true:=by rw[v.ok hi,h1,h2,h3,a9Z h4];rfl
 rw[((zt t).1 e).1,((zt t).1 e).2,v.a hi];exact⟨rfl,rfl⟩
def a0u{p:Prop}{i:Decidable p}(h : @decide p i=false):¬ p := @b1A p i h
def a0v{p:Prop}{i:Decidable p}(h : @decide p i=true):p := @a9y p i h
def a4N(t:List UInt8)(i:Nat):aj.mk (aF.mk (dr 1 ((me t).getD 1 [])) (dr 1 ((me t).getD 2 []))) (((dD t).take i).map lZ) (((dD t).take i).map (kp 2))=aI t i:=rfl
def iY:aX:=⟨o8,[.v .str],λ (t:List UInt8)=>⟨(some (t.length<=1048576),[⟨(.st .automaton),raV t⟩,⟨(.int .i64),raC t⟩])⟩⟩
def AH(t:List UInt8):Nat->aJ:=(eA 100004 (.u (HP t) [5,17,18,19,20,21] [] [2] [] (eA 0 (.a (Nat) (λ i=>IP t i) (λ i=>(dD t).length - i) [4,6,7,9,35,36,37,38,39,40,41,43,44,45,46,47,48,49,50,51,52,53,54,55,56,57,58,59,60,61] (λ i=>[(64, .aN ⟨(.int .i64),((i:Int):Int)⟩)]) [2] (λ i=>[(11, .box [.aN ⟨(.int .i64),(dr 1 ((me t).getD 1 []):Int)⟩, .aN ⟨(.int .i64),(dr 1 ((me t).getD 2 []):Int)⟩, .aC 9000, .aC 9600]),(9000, .aC (.slice .bool) (((dD t).take i).map lZ:List (List Bool))),(9600, .aC (.slice (.slice (.int .i64))) (((dD t).take i).map (kp 2):List (List (List Int))))])) cj)) cj)
abbrev mo(t:List UInt8):Prop:=(∃ u1:Unit,(HP t/\((t=t/\(True/\((gW t)=(gW t)/\True)))/\(((0:Int)=(0:Int)/\((0:Int)=(0:Int)/\(True/\(True/\True))))/\True))))
abbrev mq(t:List UInt8):Prop:=(let v0:=decide ((61:Int)<(((gW t).length:Int)));(ai (((gW t).length:Int)) ->
 ((v0=true ->
 ((aj.mk (aF.mk (0:Int) (0:Int)) [] [])=(raV t)/\(5:Int)=(raC t)))/\(v0=false ->
 (mo t)))))
abbrev mr(t:List UInt8):Prop:=((true=true ->
 ((aj.mk (aF.mk (0:Int) (0:Int)) [] [])=(raV t)/\(5:Int)=(raC t)))/\(true=false ->
 (mo t)))
abbrev gM(t:List UInt8)(i2:Nat):Prop:=(let v0:=((gW t).take (Int.toNat (((gW t).length:Int)))).drop 1;let v1:=bO (([32]).getD 0 0) ((gW t).getD 0 []);let v2:=(1:Int);let v3:=((dD t).take i2).map (kp 2);(bz (v3.length+([(sN (v0.getD i2 []))]).length) 24/\(ai ((i2:Int)+v2)/\(∃ i3:Nat,(IP t i3/\((dD t).length - i3<(dD t).length - i2/\((t=t/\(True/\((dz v2 (v1.getD 1 []))=(dz v2 (v1.getD 1 []))/\((dz v2 (v1.getD 2 []))=(dz v2 (v1.getD 2 []))/\(True/\(v0=v0/\(((v0.length:Int))=((v0.length:Int))/\(((i2:Int)+v2)=(i3:Int)/\True))))))))/\(((dr 1 ((me t).getD 1 []))=(dr 1 ((me t).getD 1 []))/\((dr 1 ((me t).getD 2 []))=(dr 1 ((me t).getD 2 []))/\(True/\(True/\True))))/\(((((dD t).take i2).map lZ)++([(sA (v0.getD i2 []))]))=(((dD t).take i3).map lZ)/\((v3++([(sN (v0.getD i2 []))]))=(((dD t).take i3).map (kp 2))/\(((0:Int)=(0:Int)/\((0:Int)=(0:Int)/\(True/\(True/\True))))/\True)))))))))))
abbrev mu(t:List UInt8)(i2:Nat):Prop:=(let v0:=(11:Nat)=11/\(3:Nat)=3;(((11:Nat)=11/\(2:Nat)=2)/\((9000:Nat)=9000/\(v0/\((9600:Nat)=9600/\(bz ((((dD t).take i2).map lZ).length+([(sA ((((gW t).take (Int.toNat (((gW t).length:Int)))).drop 1).getD i2 []))]).length) 24/\(v0/\((9600:Nat)=9600/\((gM t i2)/\((gM t i2)/\True))))))))))
abbrev mw(t:List UInt8)(i2:Nat):Prop:=((aj.mk (aF.mk (dr 1 ((me t).getD 1 [])) (dr 1 ((me t).getD 2 []))) (((dD t).take i2).map lZ) (((dD t).take i2).map (kp 2)))=(raV t)/\(0:Int)=(raC t))
abbrev gN(t:List UInt8)(i2:Nat):Prop:=(let v0:=aj.mk (aF.mk (dr 1 ((me t).getD 1 [])) (dr 1 ((me t).getD 2 []))) (((dD t).take i2).map lZ) (((dD t).take i2).map (kp 2));(aOk v0=true/\((atx v0).length<=140737488355328 ->
 (((!decide ((atx v0)=t))=true ->
 ((aj.mk (aF.mk (0:Int) (0:Int)) [] [])=(raV t)/\(5:Int)=(raC t)))/\((!decide ((atx v0)=t))=false ->
 (mw t i2))))))
abbrev gO(t:List UInt8)(i2:Nat):Prop:=((true=true ->
 ((aj.mk (aF.mk (0:Int) (0:Int)) [] [])=(raV t)/\(5:Int)=(raC t)))/\(true=false ->
 (mw t i2)))
abbrev my(t:List UInt8)(i2:Nat):Prop:=(let v0 := !(aOk (aj.mk (aF.mk (dr 1 ((me t).getD 1 [])) (dr 1 ((me t).getD 2 []))) (((dD t).take i2).map lZ) (((dD t).take i2).map (kp 2))));((v0=false ->
 (gN t i2))/\(v0=(!false) ->
 (gO t i2))))
def vW:aX.tK iY:=by
 refine⟨aD nN,?_⟩;intro (t:List UInt8) (hp:t.length<=1048576);refine p9 [Bo,kY,uW,iX,jA] [vx] [] [] [70,80,81,85,86] [] [] [] ⟨Gx,lS,wA,lH,mc,U⟩ ⟨Ch,U⟩ trivial trivial nN xC (AH t) (let v2:=(11:Nat)=11/\(3:Nat)=3;let v3:=(1:Int);let v5:=((gW t).length:Int);let v1:=((gW t).take (Int.toNat v5)).drop 1;let v8:=(11:Nat)=11/\(2:Nat)=2;let v9:=(v1.length:Int);let vb:=(0:Int);let v4:=(aj.mk (aF.mk vb vb) [] [])=(raV t)/\(5:Int)=(raC t);let vc:=(9600:Nat);let vd := !false;let ve:=(gW t).getD 0 [];let v0:=bO (([32]).getD 0 0) ve;let v6:=v0.getD 1 [];let v7:=v0.getD 2 [];let va := !(decide (((v0.length:Int))=(3:Int)));((t.length<=1048576/\((gW t).length<=140737488355328->((((!(Np t))=false->(ai v5->(((decide (v5<v3))=false->(mq t))/\((decide (v5<v3))=vd->(mr t)))))/\((!(Np t))=vd->((true=false->(mq t))/\(true=vd->(mr t)))))/\(∀ u1:Unit,(HP t->(aB vb (gW t).length/\(ve.length<=140737488355328->((([32]).length=1/\ve.length<=1048576)/\(v0.length<=140737488355328->(ai ((v0.length:Int))->((va=true->v4)/\(va=false->(aB v3 v0.length/\(v6.length<=140737488355328->((0<=v3/\v3<=9)/\(ai (dr v3 v6)->(aB (2:Int) v0.length/\(v7.length<=140737488355328->((0<=v3/\v3<=9)/\(ai (dr v3 v7)->(fv v3 v5 (gW t).length/\(ai v9->((∃ i2:Nat,(IP t i2/\((t=t/\(True/\((dz v3 v6)=(dz v3 v6)/\((dz v3 v7)=(dz v3 v7)/\(True/\(v1=v1/\(v9=v9/\(vb=(i2:Int)/\True))))))))/\(((dr v3 v6)=(dr 1 ((me t).getD 1 []))/\((dr v3 v7)=(dr 1 ((me t).getD 2 []))/\(True/\(True/\True))))/\((((dD t).take i2).map lZ)=[]/\((((dD t).take i2).map (kp 2))=[]/\((vb=vb/\(vb=vb/\(True/\(True/\True))))/\True)))))))/\(∀ i2:Nat,let vf:=gM t i2;let vg:=v1.getD i2 [];(IP t i2->(((decide ((i2:Int)<v9))=true->(aB (i2:Int) v1.length/\(vg.length<=140737488355328->(vg.length<=1048576/\(((!(eZ 2 vg))=true->v4)/\((!(eZ 2 vg))=false->(v8/\((9000:Nat)=9000/\((7100:Nat)=7100/\(v2/\(vc=9600/\((7120:Nat)=7120/\((v8/\((9000:Nat)=9000/\(v2/\(vc=9600/\((7120:Nat)=7120/\((bz ((((dD t).take i2).map lZ).length+([(sA vg)]).length) 24/\(v2/\(vc=9600/\((7120:Nat)=7120/\((v2/\(vc=9600/\(vf/\(vf/\True))))/\(((7120:Nat)=7120/\vf)/\True))))))/\((mu t i2)/\True)))))))/\((v8/\((9000:Nat)=9000/\((7100:Nat)=7100/\(v2/\(vc=9600/\(mu t i2))))))/\True))))))))))))))/\((decide ((i2:Int)<v9))=false->(((!(dz v3 v6))=false->(((!(dz v3 v7))=false->(my t i2))/\((!(dz v3 v7))=vd->((true=false->(gN t i2))/\(true=vd->(gO t i2))))))/\((!(dz v3 v6))=vd->((true=false->(my t i2))/\(true=vd->((true=false->(gN t i2))/\(true=vd->(gO t i2)))))))))))))))))))))))))))))))))))) ?_;have f0:=a1r t;have f1:=yA 10 t;refine⟨?_,λ _=>⟨⟨λ _ _=>⟨λ _ _=>⟨λ _=>⟨?_,?_⟩,λ _=>⟨(),?_,⟨rfl,U,rfl,U⟩,⟨rfl,rfl,U,U,U⟩,U⟩⟩,λ _=>⟨λ _=>⟨?_,?_⟩,λ _=>⟨(),?_,⟨rfl,U,rfl,U⟩,⟨rfl,rfl,U,U,U⟩,U⟩⟩⟩,λ _=>⟨λ _ _=>⟨λ _=>⟨?_,?_⟩,λ _=>⟨(),?_,⟨rfl,U,rfl,U⟩,⟨rfl,rfl,U,U,U⟩,U⟩⟩,λ _=>⟨λ _=>⟨?_,?_⟩,λ _=>⟨(),?_,⟨rfl,U,rfl,U⟩,⟨rfl,rfl,U,U,U⟩,U⟩⟩⟩⟩,λ u1 _=>⟨?_,λ _=>⟨?_,λ _ _=>⟨λ _=>⟨?_,?_⟩,λ _=>⟨?_,λ _=>⟨?_,λ _=>⟨?_,λ _=>⟨?_,λ _=>⟨?_,λ _=>⟨⟨0,?_,⟨rfl,U,rfl,rfl,U,rfl,rfl,?_,U⟩,⟨?_,?_,U,U,U⟩,?_,?_,⟨rfl,rfl,U,U,U⟩,U⟩,λ i2 _=>⟨λ _=>⟨?_,λ _=>⟨?_,λ _=>⟨?_,?_⟩,λ _=>⟨⟨?_,?_⟩,?_,?_,⟨?_,?_⟩,?_,?_,⟨⟨?_,?_⟩,?_,⟨?_,?_⟩,?_,?_,⟨?_,⟨?_,?_⟩,?_,?_,⟨⟨?_,?_⟩,?_,⟨?_,?_,i2+1,?_,?_,⟨rfl,U,rfl,rfl,U,rfl,rfl,?_,U⟩,⟨rfl,rfl,U,U,U⟩,?_,?_,⟨rfl,rfl,U,U,U⟩,U⟩,⟨?_,?_,i2+1,?_,?_,⟨rfl,U,rfl,rfl,U,rfl,rfl,?_,U⟩,⟨rfl,rfl,U,U,U⟩,?_,?_,⟨rfl,rfl,U,U,U⟩,U⟩,U⟩,⟨?_,?_,?_,i2+1,?_,?_,⟨rfl,U,rfl,rfl,U,rfl,rfl,?_,U⟩,⟨rfl,rfl,U,U,U⟩,?_,?_,⟨rfl,rfl,U,U,U⟩,U⟩,U⟩,⟨⟨?_,?_⟩,?_,⟨?_,?_⟩,?_,?_,⟨?_,?_⟩,?_,⟨?_,?_,i2+1,?_,?_,⟨rfl,U,rfl,rfl,U,rfl,rfl,?_,U⟩,⟨rfl,rfl,U,U,U⟩,?_,?_,⟨rfl,rfl,U,U,U⟩,U⟩,⟨?_,?_,i2+1,?_,?_,⟨rfl,U,rfl,rfl,U,rfl,rfl,?_,U⟩,⟨rfl,rfl,U,U,U⟩,?_,?_,⟨rfl,rfl,U,U,U⟩,U⟩,U⟩,U⟩,⟨⟨?_,?_⟩,?_,?_,⟨?_,?_⟩,?_,⟨?_,?_⟩,?_,⟨?_,?_⟩,?_,?_,⟨?_,?_⟩,?_,⟨?_,?_,i2+1,?_,?_,⟨rfl,U,rfl,rfl,U,rfl,rfl,?_,U⟩,⟨rfl,rfl,U,U,U⟩,?_,?_,⟨rfl,rfl,U,U,U⟩,U⟩,⟨?_,?_,i2+1,?_,?_,⟨rfl,U,rfl,rfl,U,rfl,rfl,?_,U⟩,⟨rfl,rfl,U,U,U⟩,?_,?_,⟨rfl,rfl,U,U,U⟩,U⟩,U⟩,U⟩⟩⟩,λ _=>⟨λ _=>⟨λ _=>⟨λ _=>⟨?_,λ _=>⟨λ _=>⟨?_,?_⟩,λ _=>⟨?_,?_⟩⟩⟩,λ _=>⟨λ _=>⟨?_,?_⟩,λ _=>⟨?_,?_⟩⟩⟩,λ _=>⟨λ _=>⟨?_,λ _=>⟨λ _=>⟨?_,?_⟩,λ _=>⟨?_,?_⟩⟩⟩,λ _=>⟨λ _=>⟨?_,?_⟩,λ _=>⟨?_,?_⟩⟩⟩⟩,λ _=>⟨λ _=>⟨λ _=>⟨?_,λ _=>⟨λ _=>⟨?_,?_⟩,λ _=>⟨?_,?_⟩⟩⟩,λ _=>⟨λ _=>⟨?_,?_⟩,λ _=>⟨?_,?_⟩⟩⟩,λ _=>⟨λ _=>⟨?_,λ _=>⟨λ _=>⟨?_,?_⟩,λ _=>⟨?_,?_⟩⟩⟩,λ _=>⟨λ _=>⟨?_,?_⟩,λ _=>⟨?_,?_⟩⟩⟩⟩⟩⟩⟩⟩⟩⟩⟩⟩⟩⟩⟩⟩⟩;all_goals try and_intros
 all_goals (try simp only[a9N,a9J,a9d,a8Z] at *);(try simp only[a3M,a3N,a3O,tn1,YI,b3l,a9Q,a9d,a8Z,a9t,a9E,a9N,a9J,aB,ai,fv,bz,a9f,a9v,b1T,a2V,a0m,a4N] at *);first|done|rfl|with_reducible trivial|(have v:IP t _:=(by with_reducible assumption);have p:=v.len;first|omega|exact v.next (by omega) (by with_reducible assumption)|exact (v.step (by omega) (by with_reducible assumption)).1|exact (v.step (by omega) (by with_reducible assumption)).2|exact (v.bad (by omega) (by with_reducible assumption)).1|exact (v.bad (by omega) (by with_reducible assumption)).2|exact (v.n1 (by omega) (by with_reducible assumption)).1|exact (v.n1 (by omega) (by with_reducible assumption)).2|exact (v.n2 (by omega) (by with_reducible assumption)).1|exact (v.n2 (by omega) (by with_reducible assumption)).2|exact (v.n3 (by omega) (by with_reducible assumption)).1|exact (v.n3 (by omega) (by with_reducible assumption)).2|exact (v.n4 (by omega) (by with_reducible assumption)).1|exact (v.n4 (by omega) (by with_reducible assumption)).2|exact (v.n4 (by omega) (a0u (by assumption))).1|exact (v.n4 (by omega) (a0u (by assumption))).2|exact (v.yes (by omega) (by with_reducible assumption) (by with_reducible assumption) (by with_reducible assumption) (by with_reducible assumption)).1|exact (v.yes (by omega) (by with_reducible assumption) (by with_reducible assumption) (by with_reducible assumption) (by with_reducible assumption)).2|exact (v.yes (by omega) (by with_reducible assumption) (by with_reducible assumption) (by with_reducible assumption) (a0v (by assumption))).1|exact (v.yes (by omega) (by with_reducible assumption) (by with_reducible assumption) (by with_reducible assumption) (a0v (by assumption))).2|with_reducible assumption|exact b0b (YO t _) hp)|(have v:HP t:=(by with_reducible assumption);have l1:=v.l1;have l2:=v.l2;first|omega|exact (v.no (by omega)).1|exact (v.no (by omega)).2|exact v.to (by omega)|exact b0b (Y6 t _) hp|exact b0b (K1 t 0).1 hp)|(first|exact (Tk t (.inl (by with_reducible assumption))).1|exact (Tk t (.inl (by with_reducible assumption))).2|exact (Tk t (.inr (by omega))).1|exact (Tk t (.inr (by omega))).2|exact⟨(by with_reducible assumption),(by omega),(by omega)⟩)|omega|(trace_state;done)
structure ZX(gg:aF)(e:J):Prop where
 sg:(aoV gg e).sig=gg
 acc:(aoV gg e).accept=nT gg (sasL gg e)
 nxt:(aoV gg e).next=sasN gg e
 ok:aOk (aoV gg e)=true
 sa:Z5 gg e
 st:SaS gg e
 m:1<=aV gg/\aV gg<=8
 c:0<=gg.au/\gg.au<=4
def OE{gg:aF}{ls:List J}{k:Nat}(hk:k<ls.length):(nT gg ls).getD k []=CI (ls.getD k zE) (aV gg).toNat:=by simp[nT,a9h,hk]
def a6u{gg:aF}{e:J}(h:okE gg e=true)(c:sasC gg e=0):ZX gg e:=by
 have q:=xk h;have s:=TX gg e q.s q.g q.n c;have t:=a7x q.g c;have hg:=(dA gg).1 q.s;have m:=cK gg hg.1;have e0:aoV gg e=aj.mk gg (nT gg (sasL gg e)) (sasN gg e):=by rw[<-(HM h).1,a3B c]
 have e1:(aoV gg e).sig=gg:=by rw[e0]
 have e2:(aoV gg e).accept=nT gg (sasL gg e):=by rw[e0]
 have e3:(aoV gg e).next=sasN gg e:=by rw[e0]
 have l2:(nT gg (sasL gg e)).length=(sasL gg e).length:=by simp[nT]
 refine⟨e1,e2,e3,?_,s,t,m,hg.2⟩;have h1:1<=(sasL gg e).length/\(sasL gg e).length<=60:=⟨s.pos,s.oa⟩;rw[Ny,XR,e1,e2,e3,l2,q.s,a9Z h1,a9Z s.len];simp only[b1s,b1u];rw[J0];intro k hk;have hn:(sasN gg e).getD k []∈sasN gg e:=RP (by rw[s.len];exact hk);have ok:=s.ok _ hn;have al:bX (xn gg ((sasL gg e).length:Int)) ((sasN gg e).getD k [])=true:=nK _ _ λ r hr=>by
  have o:=ok.2 r hr;have al:bX (Vh ((sasL gg e).length:Int)) r=true:=nK _ _ λ v hv=>by
   rw[Yn];exact a9Z (by have:=o.2 v hv;omega)
  rw[JA,al,a9Z (show (r.length:Int)=gg.au by have:=o.1;omega)];rfl
 rw[JF,e1,e2,e3,l2,al,OE hk,OD,ok.1,a9Z (show (((aV gg).toNat:Nat):Int)=aV gg by omega)];rfl
structure FaK(gg:aF)(e:J)(k:Nat):Prop where
 la:((aoV gg e).accept.getD k []).length=(aV gg).toNat
 ln:((aoV gg e).next.getD k []).length=(aV gg).toNat
 lr:∀ i,i<(aV gg).toNat->(((aoV gg e).next.getD k []).getD i []).length=gg.au.toNat
 ac:∀ i:Nat,i<(aV gg).toNat->((aoV gg e).accept.getD k []).getD i false=emV (i:Int) ((sasL gg e).getD k zE)
 tr:∀ i c:Nat,i<(aV gg).toNat->c<gg.au.toNat->(spV (i:Int) (c:Int) ((sasL gg e).getD k zE)).2=true
 en:∀ i c:Nat,i<(aV gg).toNat->c<gg.au.toNat->Wc (sasL gg e) (spV (i:Int) (c:Int) ((sasL gg e).getD k zE)).1 ((((aoV gg e).next.getD k []).getD i []).getD c 0)
def a0D{gg:aF}{e:J}(s:ZX gg e){k:Nat}(hk:k<(sasL gg e).length):FaK gg e k:=by
 have r:=s.st.r k hk;rw[<-s.nxt] at r;refine⟨by rw[s.acc,OE hk,OD],r.len,λ i hi=>(r.r i hi).len,λ i hi=>?_,λ i c hi hc=>?_,λ i c hi hc=>?_⟩
 .rw[s.acc,OE hk];simp[CI,a9h,hi]
 .have:=(r.r i hi).t c hc;simpa using this
 .have:=(r.r i hi).e c hc;simpa using this
def a2v(xs:List Int)(k n:Int):Int:=if (xs.length:Int)<=k\/n<1 then 0 else (xs.getD k.toNat 0).tmod n
def a0a{xs:List Int}{k n:Int}(h:(xs.length:Int)<=k\/n<1):0=a2v xs k n:=by rw[a2v,a9l h]
def a4L{xs:List Int}{k n:Int}(h:¬ (xs.length:Int)<=k)(h2:¬ n<1):(xs.getD k.toNat 0).tmod n=a2v xs k n:=by rw[a2v,a9c (by omega)]
def ZP{x n:Int}(h:0<=x)(hn:0<=n):0<=x.tmod n/\x.tmod n<=x:=by
 obtain⟨a,rfl⟩:=b1O h;obtain⟨b,rfl⟩:=b1O hn;show 0<=((a % b:Nat):Int)/\((a % b:Nat):Int)<=(a:Int);have:=Nat.mod_le a b;omega
def a4M{xs:List Int}{k n:Int}(hb:cW xs)(h:¬ (xs.length:Int)<=k)(h0:0<=k)(hn:¬ n<1):(0<=xs.getD k.toNat 0/\xs.getD k.toNat 0<=255)/\0<=(xs.getD k.toNat 0).tmod n/\(xs.getD k.toNat 0).tmod n<=255:=by
 have q:=hb k.toNat (by omega);have m:=ZP q.1 (show 0<=n by omega);exact⟨q,m.1,by omega⟩
def a2A{xs:List Int}(hb:cW xs){n:Int}(h:1<=n):0<=a2v xs 0 n/\a2v xs 0 n<n:=by
 unfold a2v;split
 .omega
 .rename_i q;have h0:0<xs.length:=by omega
  have:=hb 0 h0;have e:(0:Int).toNat=0:=rfl;rw[e];have hx:0<=xs.getD 0 0:=by
   rw[a9h,a9j h0];simp only[b1b];have q:=hb 0 h0;simp only[a9h,a9j h0,b1b] at q;omega
  exact⟨Int.tmod_nonneg _ hx,Int.tmod_lt_of_pos _ (by omega)⟩
noncomputable def faN(O more:List Int):Nat:=(a2v more 0 ((sasL (eG O) (eX O)).length:Int)).toNat
structure NW(O more:List Int):Prop where
 le:O.length<=3000/\more.length<=3000
 hb:cW O
 hm:cW more
 ok:okE (eG O) (eX O)=true
def a6s{O more:List Int}(hp:cW O/\cW more)(h:O.length<=3000/\more.length<=3000):NW O more:=⟨h,hp.1,hp.2,(e_f O hp.1 (by omega)).ok⟩
structure FW(O more:List Int):Prop where
 p:NW O more
 c:sasC (eG O) (eX O)=0
 s:ZX (eG O) (eX O)
 n:faN O more<(sasL (eG O) (eX O)).length
 e:(faN O more:Int)=a2v more 0 ((sasL (eG O) (eX O)).length:Int)
 k:FaK (eG O) (eX O) (faN O more)
def a6t{O more:List Int}(p:NW O more)(c:sasC (eG O) (eX O)=0):FW O more:=by
 have s:=a6u p.ok c;have h:=a2A p.hm (n:=((sasL (eG O) (eX O)).length:Int)) (by have:=s.sa.pos;omega);have e:(faN O more:Int)=a2v more 0 ((sasL (eG O) (eX O)).length:Int):=b3g h.1;have n:faN O more<(sasL (eG O) (eX O)).length:=by omega
 exact⟨p,c,s,n,e,a0D s n⟩
def VD{a:aj}(h:aOk a=true):raV (atx a)=a/\raC (atx a)=0:=by
 have q:=(a7v a h).1;have f:=(zt (atx a)).1 q.2;exact⟨f.1.trans q.1,f.2⟩
def a2G{a:aj}(h:aOk a=true):(atx a).length<=7200:=by
 have:=(XG a (Wk a h)).1 a.accept.length;rw[a2m a _ (a9n _)] at this;exact this
structure SmA(a:aj):Prop where
 n:a.accept.length<=1000
 m:a.next.length<=1000
 r:∀ i,(a.accept.getD i []).length<=1000
 x:∀ i,(a.next.getD i []).length<=1000
def ZX.sm{gg:aF}{e:J}(s:ZX gg e):SmA (aoV gg e):=by
 have l2:(nT gg (sasL gg e)).length=(sasL gg e).length:=by simp[nT]
 have f:=s.sa.oa;have m:=s.m;have z1:(aoV gg e).accept.length<=60:=by rw[s.acc,l2];exact f
 have z2:(aoV gg e).next.length<=60:=by rw[s.nxt,s.sa.len];exact f
 refine⟨by omega,by omega,λ i=>?_,λ i=>?_⟩
 .rcases a9O i (sasL gg e).length with h|h
  .have:=(a0D s h).la;omega
  .rw[a9h,b1g (by rw[s.acc,l2];exact h)];simp
 .rcases a9O i (sasL gg e).length with h|h
  .have:=(a0D s h).ln;omega
  .rw[a9h,b1g (by rw[s.nxt,s.sa.len];exact h)];simp
def VM{gg:aF}{e:J}(n:OkE gg e):(sasL gg e).length<=1000/\∀ i,i<(sasL gg e).length->cv ((sasL gg e).getD i zE)<=1048576:=by
 rcases a5L gg e with c|c
 .have s:=TX gg e n.s n.g n.n c;exact⟨by have:=s.oa;omega,λ i hi=>lB _ (by have:=(s.qD.get hi).2;omega)⟩
 .have:sasL gg e=[]:=by
   cases h:ku false gg e with
   | none=>exact (fb h).1
   | some q=>rw[(qR (ls:=q.1) (nx:=q.2) h).2.2] at c;cases c
  rw[this];exact⟨by simp,λ i hi=>by simp at hi⟩
def a4Y{x a:Int}{e:J}(h:aA e=true)(k:(spV x a e).2=true):cv (cr x a e)<=1048576:=lB _ (by have:=(diT x a e h).n k;omega)
structure Uj(O more:List Int)(i:Nat):Prop where
 q:FW O more
 v:okE (eG O) ((sasL (eG O) (eX O)).getD (faN O more) zE)=true
 le:i<=(aV (eG O)).toNat
structure QI(O more:List Int)(i c:Nat):Prop where
 p:Uj O more i
 lt:i<(aV (eG O)).toNat
 le:c<=(eG O).au.toNat
structure FaL(O more:List Int):Prop where
 n:faN O more<(aoV (eG O) (eX O)).accept.length
 m:faN O more<(aoV (eG O) (eX O)).next.length
 k:faN O more<(sasL (eG O) (eX O)).length
 f:(sasL (eG O) (eX O)).length<=60
 a:((aoV (eG O) (eX O)).accept.getD (faN O more) []).length=(aV (eG O)).toNat
 b:((aoV (eG O) (eX O)).next.getD (faN O more) []).length=(aV (eG O)).toNat
 t:1<=aV (eG O)/\aV (eG O)<=8
 c:0<=(eG O).au/\(eG O).au<=4
def FW.l{O more:List Int}(q:FW O more):FaL O more:=by
 have l2:(nT (eG O) (sasL (eG O) (eX O))).length=(sasL (eG O) (eX O)).length:=by simp[nT]
 exact⟨by rw[q.s.acc,l2];exact q.n,by rw[q.s.nxt,q.s.sa.len];exact q.n,q.n,q.s.sa.oa,q.k.la,q.k.ln,q.s.m,q.s.c⟩
def FW.al{O more:List Int}(q:FW O more):(aoV (eG O) (eX O)).accept.length=(sasL (eG O) (eX O)).length:=by rw[q.s.acc];simp[nT]
def a6r{O more:List Int}(p:NW O more):aoC (eG O) (eX O)=sasC (eG O) (eX O):=(HM p.ok).2.symm
structure FaV(S:List J)(d:J)(v:Int):Prop where
 k:v<0↔d.ah=1
 r:0<=v->v<S.length/\gu (S.getD v.toNat zE) d=true
def FaV.of{S:List J}{d:J}{v:Int}(h:Wc S d v):FaV S d v:=by
 rcases h with ⟨h1,h2⟩|⟨j,h1,h2,h3,h4⟩
 .subst h1;exact⟨⟨λ _=>h2,λ _=>by decide⟩,λ h=>absurd h (by decide)⟩
 .subst h1;refine⟨⟨λ h=>by omega,λ h=>absurd h h4⟩,λ _=>⟨by omega,?_⟩⟩;rw[a9Q,h3];exact CL.2 rfl
def Dh:aX:=⟨Dz,[.v (.slice (.int .u8)), .v (.slice (.int .u8))],λ (xs:List Int) (ys:List Int)=>⟨(none,[⟨.bool,decide (3000<xs.length)||decide (3000<ys.length)⟩])⟩⟩
def Px(xs:List Int)(ys:List Int):Nat->aJ:=cj
def IB:aX.Good Dh:=by
 refine⟨aD A7,?_⟩;intro (xs:List Int) (ys:List Int) _;refine aY [] [] [] [] trivial A7 HZ (Px xs ys) (let v0:=decide (3000<xs.length)||decide (3000<ys.length);let v1:=decide ((3000:Int)<((xs.length:Int)));((ai ((xs.length:Int))->((v1=false->(ai ((ys.length:Int))->(decide ((3000:Int)<((ys.length:Int))))=v0))/\(v1=(!false)->true=v0))))) ?_;refine λ _=>⟨λ _ _=>?_,λ _=>?_⟩;all_goals try and_intros
 all_goals first|rfl|trivial|omega|(simp only[a9d,a8Z] at *;first|omega|grind)|grind
def I2:aX:=⟨Jh,[.v (.slice (.int .u8)), .v (.int .i64), .v (.int .i64)],λ (xs:List Int) (k:Int) (n:Int)=>⟨(some (0<=k/\cW xs/\xs.length<=1000000),[⟨(.int .i64),a2v xs k n⟩])⟩⟩
def TA(xs:List Int)(k:Int)(n:Int):Nat->aJ:=cj
abbrev Dc(xs:List Int)(k:Int)(n:Int):Prop:=(let v0:=xs.getD (Int.toNat k) (0:Int);(aB k xs.length/\(ai v0/\((n≠(0:Int)/\ai (v0.tmod n))/\(v0.tmod n)=(a2v xs k n)))))
def MJ:aX.Good I2:=by
 refine⟨aD Ff,?_⟩;intro (xs:List Int) (k:Int) (n:Int) (hp:0<=k/\cW xs/\xs.length<=1000000);refine aY [] [] [] [] trivial Ff MC (TA xs k n) (let v0:=decide (((xs.length:Int))<=k);((ai ((xs.length:Int))->((v0=false->(((decide (n<(1:Int)))=true->(0:Int)=(a2v xs k n))/\((decide (n<(1:Int)))=false->(Dc xs k n))))/\(v0=(!false)->((true=true->(0:Int)=(a2v xs k n))/\(true=false->(Dc xs k n)))))))) ?_;refine λ _=>⟨λ _=>⟨λ _=>?_,λ _=>⟨?_,?_,⟨?_,?_⟩,?_⟩⟩,λ _=>⟨λ _=>?_,λ _=>⟨?_,?_,⟨?_,?_⟩,?_⟩⟩⟩;all_goals try and_intros
 all_goals (try simp only[a9t,a9E,a9d,a8Z,aB,ai,bz,dh,a9Q,b0O,b0f,b1Z,a9N,a9J,a9R,a9i,a9f,a9v,J.eta,aF.eta,aj.eta] at *);first|done|contradiction|with_reducible assumption|omega|with_reducible rfl|exact trivial|(have q:=a4M hp.2.1 (n:=n) (by omega:¬ (xs.length:Int)<=k) hp.1 (by omega);omega)|exact a0a (.inl (by omega))|exact a0a (.inr (by omega))|exact a4L (by omega) (by omega)
def wY:aX:=⟨xg,[.v (.st .sig), .v (.st .expr)],λ (gg:aF) (e:J)=>⟨(none,[⟨.bool,okE gg e⟩])⟩⟩
def I5(gg:aF)(e:J):Nat->aJ:=cj
def CU:aX.Good wY:=by
 refine⟨aD tR,?_⟩;intro (gg:aF) (e:J) _;refine aY [xW] [] [] [2,3] ⟨yH,U⟩ tR Cv (I5 gg e) ((okE gg e)=(okE gg e)) ?_;refine rfl;all_goals try and_intros
 all_goals first|rfl|trivial|omega|(simp only[a9d,a8Z,aB,ai,ca,fv,dh,bz] at *;omega)|(simp[aB,ai] at *;omega)|grind
def ot:aX:=⟨oA,[.v (.st .automaton)],λ (a:aj)=>⟨(none,[⟨.bool,aOk a⟩])⟩⟩
def AG(a:aj):Nat->aJ:=cj
def vS:aX.Good ot:=by
 refine⟨aD np,?_⟩;intro (a:aj) _;refine aY [Fv] [] [] [1] ⟨Kq,U⟩ np vQ (AG a) ((aOk a)=(aOk a)) ?_;refine rfl;all_goals try and_intros
 all_goals first|rfl|trivial|omega|(simp only[a9d,a8Z,aB,ai,ca,fv,dh,bz] at *;omega)|(simp[aB,ai] at *;omega)|grind
def u6:aX:=⟨vE,[.v (.slice .bool), .v (.slice .bool)],λ (xs:List Bool) (ys:List Bool)=>⟨(some (xs=ys/\xs.length<=1000),[⟨.bool,true⟩])⟩⟩
def G6(xs:List Bool)(ys:List Bool):Nat->aJ:=(eA 0 (.b (Nat) (λ k=>k<=xs.length) (λ k=>xs.length - k) [6,7,8,9,10] (λ k=>[(5, .aN ⟨(.int .i64),((k:Int):Int)⟩)])) cj)
def BW:aX.Good u6:=by
 refine⟨aD sF,?_⟩;intro (xs:List Bool) (ys:List Bool) (hp:xs=ys/\xs.length<=1000);refine aY [] [] [] [] trivial sF BS (G6 xs ys) (let v0:=(xs.length:Int);let v1 := !(decide (v0=((ys.length:Int))));((ai v0->(ai ((ys.length:Int))->((v1=true->false=true)/\(v1=false->((∃ k1:Nat,(k1<=xs.length/\((xs=xs/\(ys=ys/\((0:Int)=(k1:Int)/\True)))/\True)))/\(∀ k1:Nat,let v2 := !((xs.getD k1 false) == (ys.getD k1 false));let v3:=(k1:Int);(k1<=xs.length->(ai v0->(((decide (v3<v0))=true->(aB v3 xs.length/\(aB v3 ys.length/\((v2=true->false=true)/\(v2=false->(ai (v3+(1:Int))/\(∃ k2:Nat,(k2<=xs.length/\(xs.length - k2<xs.length - k1/\((xs=xs/\(ys=ys/\((v3+(1:Int))=(k2:Int)/\True)))/\True))))))))))/\((decide (v3<v0))=false->true=true)))))))))))) ?_;obtain⟨rfl,h0⟩:=hp;refine λ _ _=>⟨λ _=>?_,λ _=>⟨⟨0,?_,⟨rfl,rfl,?_,U⟩,U⟩,λ k1 _ _=>⟨λ _=>⟨?_,?_,λ _=>?_,λ _=>⟨?_,k1+1,?_,?_,⟨rfl,rfl,?_,U⟩,U⟩⟩,λ _=>rfl⟩⟩⟩;all_goals try and_intros
 all_goals (try simp only[a9t,a9E,a9d,a8Z,aB,ai,bz,dh,a9Q,b0O,b0f,b1Z,a9N,a9J,a9R,a9i,a9f,a9v,J.eta,aF.eta,aj.eta] at *);first|done|contradiction|with_reducible assumption|omega|with_reducible rfl|exact trivial|(simp_all;done)
def Bp:aX:=⟨BC,[.v (.slice (.int .i64)), .v (.slice (.int .i64))],λ (xs:List Int) (ys:List Int)=>⟨(some (xs=ys),[⟨.bool,true⟩])⟩⟩
def M6(xs:List Int)(ys:List Int):Nat->aJ:=(eA 0 (.b (Nat) (λ k=>k<=xs.length) (λ k=>xs.length - k) [6,7,8,9,10] (λ k=>[(5, .aN ⟨(.int .i64),((k:Int):Int)⟩)])) cj)
def GB:aX.Good Bp:=by
 refine⟨aD yn,?_⟩;intro (xs:List Int) (ys:List Int) (hp:xs=ys);refine aY [] [] [] [] trivial yn F7 (M6 xs ys) (let v0:=(xs.length:Int);let v1 := !(decide (v0=((ys.length:Int))));let v2:=(0:Int);((ai v0->(ai ((ys.length:Int))->((v1=true->false=true)/\(v1=false->((∃ k1:Nat,(k1<=xs.length/\((xs=xs/\(ys=ys/\(v2=(k1:Int)/\True)))/\True)))/\(∀ k1:Nat,let v3 := !(decide ((xs.getD k1 v2)=(ys.getD k1 v2)));let v4:=(k1:Int);(k1<=xs.length->(ai v0->(((decide (v4<v0))=true->(aB v4 xs.length/\(aB v4 ys.length/\(ai (xs.getD k1 v2)->(ai (ys.getD k1 v2)->((v3=true->false=true)/\(v3=false->(ai (v4+(1:Int))/\(∃ k2:Nat,(k2<=xs.length/\(xs.length - k2<xs.length - k1/\((xs=xs/\(ys=ys/\((v4+(1:Int))=(k2:Int)/\True)))/\True))))))))))))/\((decide (v4<v0))=false->true=true)))))))))))) ?_;obtain rfl:=hp;refine λ _ _=>⟨λ _=>?_,λ _=>⟨⟨0,?_,⟨rfl,rfl,?_,U⟩,U⟩,λ k1 _ _=>⟨λ _=>⟨?_,?_,λ _ _=>⟨λ _=>?_,λ _=>⟨?_,k1+1,?_,?_,⟨rfl,rfl,?_,U⟩,U⟩⟩⟩,λ _=>rfl⟩⟩⟩;all_goals try and_intros
 all_goals (try simp only[a9t,a9E,a9d,a8Z,aB,ai,bz,dh,a9Q,b0O,b0f,b1Z,a9N,a9J,a9R,a9i,a9f,a9v,J.eta,aF.eta,aj.eta] at *);first|done|contradiction|with_reducible assumption|omega|with_reducible rfl|exact trivial|(simp_all;done)
def oZ:aX:=⟨pc,[.v (.st .automaton), .v (.st .automaton)],λ (a:aj) (b:aj)=>⟨(some (a=b/\SmA a),[⟨.bool,true⟩])⟩⟩
def Cg(a:aj)(b:aj):Nat->aJ:=(eA 0 (.b (Nat) (λ i=>i<=a.accept.length) (λ i=>a.accept.length - i) [0,1,8,9,10,11,12,13,14,15,16,17,18,19,20,21,22,23,24,25,26,27,28,29,30] (λ i=>[(5, .aN ⟨(.int .i64),((i:Int):Int)⟩)])) (eA 2 (.mk (Nat) (λ i=>i<=a.next.length) (λ i=>a.next.length - i) [] [5,31,32,33,34,35] (λ i=>[(6, .aN ⟨(.int .i64),((i:Int):Int)⟩)]) [] (λ i=>[]) [] [] (λ i=>(eA 4 (.b (Nat) (λ k=>i<a.next.length/\k<=(a.next.getD i []).length) (λ k=>(a.next.getD i []).length - k) [50,51,52,53,54,57,58,59,60,61,62,63,64,65,66,67,68,69] (λ k=>[(7, .aN ⟨(.int .i64),((k:Int):Int)⟩)])) cj))) cj))
abbrev iw(a:aj)(b:aj):Prop:=(let v0:=(a.accept.length:Int);let v1:=(a.next.length:Int);let v2:=(1:Int);((∃ i1:Nat,(i1<=a.accept.length/\((a=a/\(b=b/\((0:Int)=(i1:Int)/\True)))/\True)))/\(∀ i1:Nat,let v3:=a.accept.getD i1 [];let v4:=(i1:Int);(i1<=a.accept.length ->
 (a.accept.length<=140737488355328 ->
 (ai v0 ->
 (((decide (v4<v0))=true ->
 (aB v4 a.accept.length/\(aB v4 b.accept.length/\(a.accept.length<=140737488355328 ->
 (v3.length<=140737488355328 ->
 (b.accept.length<=140737488355328 ->
 ((b.accept.getD i1 []).length<=140737488355328 ->
 ((v3=(b.accept.getD i1 [])/\v3.length<=1000)/\((false=true ->
 false=true)/\(false=false ->
 (ai (v4+v2)/\(∃ i2:Nat,(i2<=a.accept.length/\(a.accept.length - i2<a.accept.length - i1/\((a=a/\(b=b/\((v4+v2)=(i2:Int)/\True)))/\True)))))))))))))))/\((decide (v4<v0))=false ->
 ((∃ i2:Nat,(i2<=a.next.length/\((a=a/\(b=b/\((0:Int)=(i2:Int)/\True)))/\True)))/\(∀ i2:Nat,let v5:=a.next.getD i2 [];let v6:=b.next.getD i2 [];let v7:=(i2:Int);let v8:=(v5.length:Int);let v9 := !(decide (v8=((v6.length:Int))));(i2<=a.next.length ->
 (a.next.length<=140737488355328 ->
 (ai v1 ->
 (((decide (v7<v1))=true ->
 (aB v7 a.next.length/\(aB v7 b.next.length/\(a.next.length<=140737488355328 ->
 (v5.length<=140737488355328 ->
 (ai v8 ->
 (b.next.length<=140737488355328 ->
 (v6.length<=140737488355328 ->
 (ai ((v6.length:Int)) ->
 ((v9=true ->
 false=true)/\(v9=false ->
 ((∃ k3:Nat,((i2<a.next.length/\k3<=v5.length)/\((a=a/\(b=b/\(v7=v7/\((0:Int)=(k3:Int)/\True))))/\True)))/\(∀ k3:Nat,let va:=(k3:Int);((i2<a.next.length/\k3<=v5.length) ->
 (a.next.length<=140737488355328 ->
 (aB v7 a.next.length/\(v5.length<=140737488355328 ->
 (ai v8 ->
 (((decide (va<v8))=true ->
 (aB v7 a.next.length/\(aB va v5.length/\(aB v7 b.next.length/\(aB va v6.length/\(a.next.length<=140737488355328 ->
 (v5.length<=140737488355328 ->
 ((v5.getD k3 []).length<=140737488355328 ->
 (b.next.length<=140737488355328 ->
 (v6.length<=140737488355328 ->
 ((v6.getD k3 []).length<=140737488355328 ->
 ((v5.getD k3 [])=(v6.getD k3 [])/\((false=true ->
 false=true)/\(false=false ->
 (ai (va+v2)/\(∃ k4:Nat,((i2<a.next.length/\k4<=v5.length)/\(v5.length - k4<v5.length - k3/\((a=a/\(b=b/\(v7=v7/\((va+v2)=(k4:Int)/\True))))/\True)))))))))))))))))))/\((decide (va<v8))=false ->
 (ai (v7+v2)/\(∃ i4:Nat,(i4<=a.next.length/\(a.next.length - i4<a.next.length - i2/\((a=a/\(b=b/\((v7+v2)=(i4:Int)/\True)))/\True)))))))))))))))))))))))))/\((decide (v7<v1))=false ->
 true=true)))))))))))))))
abbrev ny(a:aj)(b:aj):Prop:=(let v0 := !(decide (((a.next.length:Int))=((b.next.length:Int))));(a.next.length<=140737488355328 ->
 (ai ((a.next.length:Int)) ->
 (b.next.length<=140737488355328 ->
 (ai ((b.next.length:Int)) ->
 ((v0=true ->
 false=true)/\(v0=false ->
 (iw a b))))))))
def xQ:aX.Good oZ:=by
 refine⟨aD nP,?_⟩;intro (a:aj) (b:aj) (hp:a=b/\SmA a);refine aY [u6,Bp] [] [] [2,3] ⟨BW,GB,U⟩ nP xD (Cg a b) (let v0 := !(decide (a.sig.aK=b.sig.aK)&&(decide (a.sig.au=b.sig.au)&&true));let v1 := !(decide (((a.accept.length:Int))=((b.accept.length:Int))));(((v0=false->(a.accept.length<=140737488355328->(ai ((a.accept.length:Int))->(b.accept.length<=140737488355328->(ai ((b.accept.length:Int))->((v1=false->(ny a b))/\(v1=(!false)->((true=true->false=true)/\(true=false->(iw a b))))))))))/\(v0=(!false)->((true=false->(ny a b))/\(true=(!false)->((true=true->false=true)/\(true=false->(iw a b))))))))) ?_;obtain⟨rfl,h0⟩:=hp;have h1:=h0.n;have h2:=h0.m;refine⟨λ _ _ _ _ _=>⟨λ _ _ _ _ _=>⟨λ _=>?_,λ _=>⟨⟨0,?_,⟨rfl,rfl,?_,U⟩,U⟩,λ i1 _ _ _=>⟨λ _=>⟨?_,?_,λ _ _ _ _=>⟨?_,λ _=>?_,λ _=>⟨?_,i1+1,?_,?_,⟨rfl,rfl,?_,U⟩,U⟩⟩⟩,λ _=>⟨⟨0,?_,⟨rfl,rfl,?_,U⟩,U⟩,λ i2 _ _ _=>⟨λ _=>⟨?_,?_,λ _ _ _ _ _ _=>⟨λ _=>?_,λ _=>⟨⟨0,?_,⟨rfl,rfl,rfl,?_,U⟩,U⟩,λ k3 _ _=>⟨?_,λ _ _=>⟨λ _=>⟨?_,?_,?_,?_,λ _ _ _ _ _ _=>⟨?_,λ _=>?_,λ _=>⟨?_,k3+1,?_,?_,⟨rfl,rfl,rfl,?_,U⟩,U⟩⟩⟩,λ _=>⟨?_,i2+1,?_,?_,⟨rfl,rfl,?_,U⟩,U⟩⟩⟩⟩⟩⟩,λ _=>rfl⟩⟩⟩⟩⟩,λ _=>⟨λ _=>?_,λ _=>⟨⟨0,?_,⟨rfl,rfl,?_,U⟩,U⟩,λ i1 _ _ _=>⟨λ _=>⟨?_,?_,λ _ _ _ _=>⟨?_,λ _=>?_,λ _=>⟨?_,i1+1,?_,?_,⟨rfl,rfl,?_,U⟩,U⟩⟩⟩,λ _=>⟨⟨0,?_,⟨rfl,rfl,?_,U⟩,U⟩,λ i2 _ _ _=>⟨λ _=>⟨?_,?_,λ _ _ _ _ _ _=>⟨λ _=>?_,λ _=>⟨⟨0,?_,⟨rfl,rfl,rfl,?_,U⟩,U⟩,λ k3 _ _=>⟨?_,λ _ _=>⟨λ _=>⟨?_,?_,?_,?_,λ _ _ _ _ _ _=>⟨?_,λ _=>?_,λ _=>⟨?_,k3+1,?_,?_,⟨rfl,rfl,rfl,?_,U⟩,U⟩⟩⟩,λ _=>⟨?_,i2+1,?_,?_,⟨rfl,rfl,?_,U⟩,U⟩⟩⟩⟩⟩⟩,λ _=>rfl⟩⟩⟩⟩⟩⟩,λ _=>⟨λ _ _ _ _ _=>⟨λ _=>?_,λ _=>⟨⟨0,?_,⟨rfl,rfl,?_,U⟩,U⟩,λ i1 _ _ _=>⟨λ _=>⟨?_,?_,λ _ _ _ _=>⟨?_,λ _=>?_,λ _=>⟨?_,i1+1,?_,?_,⟨rfl,rfl,?_,U⟩,U⟩⟩⟩,λ _=>⟨⟨0,?_,⟨rfl,rfl,?_,U⟩,U⟩,λ i2 _ _ _=>⟨λ _=>⟨?_,?_,λ _ _ _ _ _ _=>⟨λ _=>?_,λ _=>⟨⟨0,?_,⟨rfl,rfl,rfl,?_,U⟩,U⟩,λ k3 _ _=>⟨?_,λ _ _=>⟨λ _=>⟨?_,?_,?_,?_,λ _ _ _ _ _ _=>⟨?_,λ _=>?_,λ _=>⟨?_,k3+1,?_,?_,⟨rfl,rfl,rfl,?_,U⟩,U⟩⟩⟩,λ _=>⟨?_,i2+1,?_,?_,⟨rfl,rfl,?_,U⟩,U⟩⟩⟩⟩⟩⟩,λ _=>rfl⟩⟩⟩⟩⟩,λ _=>⟨λ _=>?_,λ _=>⟨⟨0,?_,⟨rfl,rfl,?_,U⟩,U⟩,λ i1 _ _ _=>⟨λ _=>⟨?_,?_,λ _ _ _ _=>⟨?_,λ _=>?_,λ _=>⟨?_,i1+1,?_,?_,⟨rfl,rfl,?_,U⟩,U⟩⟩⟩,λ _=>⟨⟨0,?_,⟨rfl,rfl,?_,U⟩,U⟩,λ i2 _ _ _=>⟨λ _=>⟨?_,?_,λ _ _ _ _ _ _=>⟨λ _=>?_,λ _=>⟨⟨0,?_,⟨rfl,rfl,rfl,?_,U⟩,U⟩,λ k3 _ _=>⟨?_,λ _ _=>⟨λ _=>⟨?_,?_,?_,?_,λ _ _ _ _ _ _=>⟨?_,λ _=>?_,λ _=>⟨?_,k3+1,?_,?_,⟨rfl,rfl,rfl,?_,U⟩,U⟩⟩⟩,λ _=>⟨?_,i2+1,?_,?_,⟨rfl,rfl,?_,U⟩,U⟩⟩⟩⟩⟩⟩,λ _=>rfl⟩⟩⟩⟩⟩⟩⟩;all_goals try and_intros
 all_goals (try simp only[a9t,a9E,a9d,a8Z,aB,ai,bz,dh,a9Q,b0O,b0f,b1Z,a9N,a9J,a9R,a9i,a9f,a9v,J.eta,aF.eta,aj.eta] at *);first|done|contradiction|with_reducible assumption|omega|with_reducible rfl|exact trivial|exact⟨rfl,h0.r _⟩|exact h0.r _|(have h3:=h0.x i1;omega)|(simp_all;done)|(rename_i q;exact absurd rfl q)
def yV:aX:=⟨ze,[.v (.st .expr), .v (.st .expr)],λ (x:J) (y:J)=>⟨(none,[⟨.bool,gu x y⟩])⟩⟩
def KQ(x:J)(y:J):Nat->aJ:=cj
def EO:aX.Good yV:=by
 refine⟨aD wo,?_⟩;intro (x:J) (y:J) _;refine aY [rU] [] [] [2,3] ⟨mX,U⟩ wo ED (KQ x y) ((gu x y)=(gu x y)) ?_;refine rfl;all_goals try and_intros
 all_goals first|rfl|trivial|omega|(simp only[a9d,a8Z,aB,ai,ca,fv,dh,bz] at *;omega)|(simp[aB,ai] at *;omega)|grind
def uU:aX:=⟨Dt,[.v (.st .sig), .v (.int .i64)],λ (gg:aF) (x:Int)=>⟨(some (0<=gg.aK/\gg.aK<=3),[⟨.bool,decide (0<=x/\x<=aV gg - 1)⟩])⟩⟩
def Pr(gg:aF)(x:Int):Nat->aJ:=cj
def wz:aX.Good uU:=by
 refine⟨aD A2,?_⟩;intro (gg:aF) (x:Int) (hp:0<=gg.aK/\gg.aK<=3);refine aY [jj,fP] [] [] [2] ⟨iT,gA,U⟩ A2 HT (Pr gg x) (((0<=gg.aK/\gg.aK<=3)/\(ai (aV gg)->(ai ((aV gg) - (1:Int))/\((decide ((0:Int)<=x/\x<=((aV gg) - (1:Int))))=(decide (0<=x/\x<=aV gg - 1))))))) ?_;have f0:=cK gg hp;refine⟨?_,λ _=>⟨?_,?_⟩⟩;all_goals try and_intros
 all_goals first|rfl|trivial|omega|(simp only[a9d,a8Z,aB,ai] at *;omega)|grind
def wX:aX:=⟨xe,[.v (.slice (.st .expr))],λ (xs:List J)=>⟨(some (xs.length<=1000/\∀ i,i<xs.length->cv (xs.getD i zE)<=1048576),[⟨(.slice (.st .expr)),xs⟩])⟩⟩
def I4(xs:List J):Nat->aJ:=(eA 0 (.a (Nat) (λ i=>i<=xs.length) (λ i=>xs.length - i) [0,2,6,7,8] (λ i=>[(11, .aN ⟨(.int .i64),((i:Int):Int)⟩),(3, .row 8)]) [] (λ i=>[(8, .row eP (.st .expr) (xs.take i:List J))])) cj)
def CT:aX.Good wX:=by
 refine⟨aD tP,?_⟩;intro (xs:List J) (hp:xs.length<=1000/\∀ i,i<xs.length->cv (xs.getD i zE)<=1048576);refine aY [fh] [] [] [] ⟨lR,U⟩ tP Ct (I4 xs) (let v0:=(xs.length:Int);((ai v0->(dh (0:Int) v0 40/\(ai v0->((∃ i1:Nat,(i1<=xs.length/\((True/\(xs=xs/\(v0=v0/\((0:Int)=(i1:Int)/\True))))/\((List.replicate 0 zE)=(xs.take i1)/\True))))/\(∀ i1:Nat,let v1:=aU (xs.getD i1 zE);(i1<=xs.length->(((decide ((i1:Int)<v0))=true->(aB (i1:Int) xs.length/\(cv v1<=1048576/\(bz ((xs.take i1).length+([v1]).length) 40/\(ai ((i1:Int)+(1:Int))/\(∃ i2:Nat,(i2<=xs.length/\(xs.length - i2<xs.length - i1/\((True/\(xs=xs/\(v0=v0/\(((i1:Int)+(1:Int))=(i2:Int)/\True))))/\(((xs.take i1)++([v1]))=(xs.take i2)/\True))))))))))/\((decide ((i1:Int)<v0))=false->(xs.take i1)=xs)))))))))) ?_;obtain⟨h0,h1⟩:=hp;refine λ _=>⟨?_,λ _=>⟨⟨0,?_,⟨U,rfl,rfl,?_,U⟩,?_,U⟩,λ i1 _=>⟨λ _=>⟨?_,?_,?_,?_,i1+1,?_,?_,⟨U,rfl,rfl,?_,U⟩,?_,U⟩,λ _=>?_⟩⟩⟩;all_goals try and_intros
 all_goals try (first|with_reducible rfl|with_reducible assumption)
 all_goals try simp only[J.eta,cC] at *
 all_goals (try simp only[a9t,a9E,a9d,a8Z,aB,ai,bz,dh,a9Q,b0O,b0f,b1Z,a9N,a9J,a9R,a9i,a9f,a9v,J.eta,aF.eta,aj.eta] at *);first|done|contradiction|with_reducible assumption|omega|with_reducible rfl|exact trivial|exact h1 _ (by omega)|exact (eu zE xs _ (by omega)).symm|exact a9A (by omega)|exact (a9A (by omega)).symm|(simp;omega)|(simp;done)
def yU:aX:=⟨y8,[.v (.st .sig), .v (.st .expr)],λ (gg:aF) (e:J)=>⟨(some (okE gg e=true),[⟨(.slice (.st .expr)),sasL gg e⟩,⟨(.int .i64),sasC gg e⟩])⟩⟩
def KM(gg:aF)(e:J):Nat->aJ:=cj
def EM:aX.Good yU:=by
 refine⟨aD wh,?_⟩;intro (gg:aF) (e:J) (hp:okE gg e=true);refine aY [gC,pL,wX] [] [] [2,3] ⟨gw,sI,CT,U⟩ wh Ey (KM gg e) (let v0:=sasL gg e;((((!(okE gg e))=true->([]=v0/\(1:Int)=(sasC gg e)))/\((!(okE gg e))=false->((cG gg=true/\aA e=true/\ar e<=1000)/\(v0.length<=140737488355328->((sasN gg e).length<=140737488355328->(ai (sasC gg e)->((v0.length<=1000/\∀ i,i<v0.length->cv (v0.getD i zE)<=1048576)/\(v0.length<=140737488355328->(v0=v0/\(sasC gg e)=(sasC gg e)))))))))))) ?_;have n1:=xk hp;have n2:=n1.s;have n3:=n1.g;have n4:=n1.n;refine⟨λ _=>⟨?_,?_⟩,λ _=>⟨?_,λ _ _ _=>⟨?_,λ _=>⟨rfl,rfl⟩⟩⟩⟩;all_goals try and_intros
 all_goals (try simp only[a9t,a9E,a9d,a8Z,aB,ai,bz,dh,a9Q,b0O,b0f,b1Z,a9N,a9J,a9R,a9i,a9f,a9v,J.eta,aF.eta,aj.eta] at *);first|done|contradiction|with_reducible assumption|omega|with_reducible rfl|exact trivial|contradiction|exact (VM n1).1|exact (VM n1).2|(simp_all;done)
def yW:aX:=⟨zg,[.v (.st .sig), .v (.st .expr)],λ (gg:aF) (e:J)=>⟨(some (okE gg e=true),[⟨(.slice (.st .expr)),sasL gg e⟩,⟨(.int .i64),sasC gg e⟩])⟩⟩
def KR(gg:aF)(e:J):Nat->aJ:=cj
def EP:aX.Good yW:=by
 refine⟨aD wq,?_⟩;intro (gg:aF) (e:J) (hp:okE gg e=true);refine aY [xW,wZ] [] [] [2,3] ⟨yH,CV,U⟩ wq EE (KR gg e) ((((!(okE gg e))=true->([]=(sasL gg e)/\(1:Int)=(sasC gg e)))/\((!(okE gg e))=false->((cG gg=true/\aA e=true/\ar e<=1000)/\((sasL gg e).length<=140737488355328->((sasN gg e).length<=140737488355328->(ai (sasC gg e)->((sasL gg e)=(sasL gg e)/\(sasC gg e)=(sasC gg e))))))))) ?_;have n1:=xk hp;have n2:=n1.s;have n3:=n1.g;have n4:=n1.n;refine⟨λ _=>⟨?_,?_⟩,λ _=>⟨?_,λ _ _ _=>⟨rfl,rfl⟩⟩⟩;all_goals try and_intros
 all_goals (try simp only[a9t,a9E,a9d,a8Z,aB,ai,bz,dh,a9Q,b0O,b0f,b1Z,a9N,a9J,a9R,a9i,a9f,a9v,J.eta,aF.eta,aj.eta] at *);first|done|contradiction|with_reducible assumption|omega|with_reducible rfl|exact trivial|contradiction|(simp_all;done)
def Bn:aX:=⟨Bw,[.v (.st .sig), .v (.st .expr), .v (.int .i64)],λ (gg:aF) (e:J) (x:Int)=>⟨(some (okE gg e=true/\0<=x/\x<aV gg),[⟨.bool,emV x e⟩,⟨(.int .i64),(0:Int)⟩])⟩⟩
def MY(gg:aF)(e:J)(x:Int):Nat->aJ:=cj
def Gv:aX.Good Bn:=by
 refine⟨aD yi,?_⟩;intro (gg:aF) (e:J) (x:Int) (hp:okE gg e=true/\0<=x/\x<aV gg);refine aY [gC,uU,jk] [] [] [3,4] ⟨gw,wz,mW,U⟩ yi F0 (MY gg e x) (let v0 := !(decide (0<=x/\x<=aV gg - 1));((((!(okE gg e))=true->(false=(emV x e)/\(1:Int)=(0:Int)))/\((!(okE gg e))=false->((0<=gg.aK/\gg.aK<=3)/\(((v0=true)->(false=(emV x e)/\(2:Int)=(0:Int)))/\((v0=false)->((aA e=true/\0<=x/\x<=4096)/\((emV x e)=(emV x e)/\(0:Int)=(0:Int)))))))))) ?_;have n1:=xk hp.1;have n2:=n1.s;have n3:=n1.g;have n4:=n1.n;have n5:=(dA gg).1 n2;have n6:=cK gg n5.1;refine⟨λ _=>⟨?_,?_⟩,λ _=>⟨?_,λ _=>⟨?_,?_⟩,λ _=>⟨?_,rfl,rfl⟩⟩⟩;all_goals try and_intros
 all_goals (try simp only[a9t,a9E,a9d,a8Z,aB,ai,bz,dh,a9Q,b0O,b0f,b1Z,a9N,a9J,a9R,a9i,a9f,a9v,J.eta,aF.eta,aj.eta] at *);first|done|contradiction|with_reducible assumption|omega|with_reducible rfl|exact trivial|contradiction|(simp_all;omega)|(simp_all;done)
def Dd:aX:=⟨Ds,[.v (.st .sig), .v (.st .expr), .v (.int .i64), .v (.int .i64)],λ (gg:aF) (e:J) (x:Int) (a:Int)=>⟨(some (okE gg e=true/\(0<=x/\x<aV gg)/\(0<=a/\a<gg.au)/\(spV x a e).2=true),[⟨(.st .expr),(spV x a e).1⟩,⟨(.int .i64),(0:Int)⟩])⟩⟩
def Pq(gg:aF)(e:J)(x:Int)(a:Int):Nat->aJ:=cj
abbrev yN(e:J)(x:Int)(a:Int):Prop:=((aA e=true/\ar e<=1000/\0<=x/\x<=4096)/\(((!((spV x a e).2))=true ->
 (zE=((spV x a e).1)/\(3:Int)=(0:Int)))/\((!((spV x a e).2))=false ->
 (cv (aU (cr x a e))<=1048576/\((aU (cr x a e))=((spV x a e).1)/\(0:Int)=(0:Int))))))
def Iw:aX.Good Dd:=by
 refine⟨aD A1,?_⟩;intro (gg:aF) (e:J) (x:Int) (a:Int) (hp:okE gg e=true/\(0<=x/\x<aV gg)/\(0<=a/\a<gg.au)/\(spV x a e).2=true);refine aY [gC,uU,fP,rO,fh] [] [] [4,5] ⟨gw,wz,gA,uC,lR,U⟩ A1 HS (Pq gg e x a) (let v0 := !(decide ((0:Int)<=a/\a<=(gg.au - (1:Int))));let v1:=zE=((spV x a e).1)/\(2:Int)=(0:Int);let v2 := !(decide (0<=x/\x<=aV gg - 1));((((!(okE gg e))=true->(zE=((spV x a e).1)/\(1:Int)=(0:Int)))/\((!(okE gg e))=false->((0<=gg.aK/\gg.aK<=3)/\(((v2=false)->(ai gg.au->(ai (gg.au - (1:Int))/\(((v0=true)->v1)/\((v0=false)->(yN e x a))))))/\((v2=(!false))->((true=true->v1)/\(true=false->(yN e x a)))))))))) ?_;have n1:=xk hp.1;have n2:=n1.s;have n3:=n1.g;have n4:=n1.n;have n5:=(dA gg).1 n2;have n6:=cK gg n5.1;have n7:=hp.2.2.2;have n8:=yB n7;have n9:=VT x a e n3;refine⟨λ _=>⟨?_,?_⟩,λ _=>⟨?_,λ _ _=>⟨?_,λ _=>⟨?_,?_⟩,λ _=>⟨?_,λ _=>⟨?_,?_⟩,λ _=>⟨?_,?_,rfl⟩⟩⟩,λ _=>⟨λ _=>⟨?_,?_⟩,λ _=>⟨?_,λ _=>⟨?_,?_⟩,λ _=>⟨?_,?_,rfl⟩⟩⟩⟩⟩;all_goals try and_intros
 all_goals try (first|with_reducible rfl|with_reducible assumption)
 all_goals try simp only[J.eta,cC] at *
 all_goals (try simp only[a9t,a9E,a9d,a8Z,aB,ai,bz,dh,a9Q,b0O,b0f,b1Z,a9N,a9J,a9R,a9i,a9f,a9v,J.eta,aF.eta,aj.eta] at *);first|done|contradiction|with_reducible assumption|omega|with_reducible rfl|exact trivial|contradiction|exact n8|exact congrArg J.ah n8|exact congrArg J.bl n8|exact congrArg J.ae n8|exact a4Y n3 n7|(simp_all;omega)|(simp_all;done)
def oY:aX:=⟨o7,[.v (.st .automaton)],λ (a:aj)=>⟨(some (aOk a=true),[⟨.str,atx a⟩])⟩⟩
def Cf(a:aj):Nat->aJ:=cj
def xO:aX.Good oY:=by
 refine⟨aD nM,?_⟩;intro (a:aj) (hp:aOk a=true);refine aY [iX,jA] [] [] [1] ⟨lH,mc,U⟩ nM xB (Cf a) ((((!(aOk a))=true->[]=(atx a))/\((!(aOk a))=false->(aOk a=true/\((atx a).length<=140737488355328->(atx a)=(atx a)))))) ?_;refine⟨λ _=>?_,λ _=>⟨?_,λ _=>rfl⟩⟩;all_goals try and_intros
 all_goals (try simp only[a9t,a9E,a9d,a8Z,aB,ai,bz,dh,a9Q,b0O,b0f,b1Z,a9N,a9J,a9R,a9i,a9f,a9v,J.eta,aF.eta,aj.eta] at *);first|done|contradiction|with_reducible assumption|omega|with_reducible rfl|exact trivial|contradiction|(simp_all;done)
def IC:aX.Good rY:=Hd.plain
def xP:aX.Good iY:=vW.plain
attribute [local irreducible] sasL sasN sasC aoV aoC eG eX eR atx raV raC spV emV okE isE aOk a2v faN auV
def EY:aX:=⟨lW,[.v (.slice (.int .u8)), .v (.slice (.int .u8))],λ (O:List Int) (more:List Int)=>⟨(some (cW O/\cW more),[⟨.bool,true⟩])⟩⟩
def E2(O:List Int)(more:List Int):Nat->aJ:=(eA 100003 (.u (NW O more) [] [] [] [] (eA 100009 (.u (NW O more) [0,6,7,10,12,26,27,28,29,30,31,32,33,34,35,36,37,38,39,40,41,42,43,44,45,46,47,48] [] [5,11] [] (eA 100011 (.u (FW O more) [8] [] [5,11] [] (eA 100013 (.u (FW O more) [] [] [5,11] [] (eA 100017 (.u (FW O more) [1,13,14,81,82,83,84,85,86,87,88,89,90,91,92,93,94] [(15, .aN ⟨(.int .i64),((faN O more:Int):Int)⟩)] [5,11] [] (eA 0 (.mk (Nat) (λ i=>Uj O more i) (λ i=>(aV (eG O)).toNat - i) [] [99,100,101,102,103,104,105] (λ i=>[(16, .aN ⟨(.int .i64),((i:Int):Int)⟩)]) [5,11] (λ i=>[]) [] [] (λ i=>(eA 100025 (.u (QI O more i 0) [17,18,106,107,108,109,110,111,112,113,116,117,118,119,120,121,122,123,124,125] [] [5,11] [] (eA 2 (.a (Nat) (λ c=>QI O more i c) (λ c=>(eG O).au.toNat - c) [] (λ c=>[(19, .aN ⟨(.int .i64),((c:Int):Int)⟩)]) [5,11] (λ c=>[])) cj)) cj))) cj)) cj)) cj)) cj)) cj)) cj)
abbrev eE(O:List Int):Prop:=(let v0:=aoV (eG O) (aU (eX O));((v0.sig.aK=v0.sig.aK/\(v0.sig.au=v0.sig.au/\(v0.accept=v0.accept/\(v0.next=v0.next/\True))))/\(((eG O).aK=(eG O).aK/\((eG O).au=(eG O).au/\True))/\True)))
abbrev B9(O:List Int)(more:List Int):Prop:=(let v0:=aU (eX O);(∃ u2:Unit,(NW O more/\((more=more/\(True/\((sasC (eG O) v0)=(sasC (eG O) v0)/\((sasL (eG O) v0)=(sasL (eG O) v0)/\(True/\True)))))/\(eE O)))))
abbrev fV(O:List Int)(more:List Int):Prop:=(let v0:=sasL (eG O) (aU (eX O));(FW O more/\((more=more/\(True/\(v0=v0/\(True/\True))))/\(eE O))))
abbrev oW(O:List Int)(more:List Int):Prop:=(let v0 := !(aOk (aoV (eG O) (aU (eX O))));((v0=true ->
 false=true)/\(v0=false ->
 (∃ u4:Unit,(fV O more)))))
abbrev Ca(O:List Int)(more:List Int):Prop:=(let v1:=aoV (eG O) (aU (eX O));let v0 := !(decide (v1.sig.aK=(eG O).aK)&&(decide (v1.sig.au=(eG O).au)&&true));((v0=false ->
 (oW O more))/\(v0=(!false) ->
 ((true=true ->
 false=true)/\(true=false ->
 (∃ u4:Unit,(fV O more)))))))
abbrev Cb(O:List Int)(more:List Int):Prop:=((true=false ->
 (oW O more))/\(true=(!false) ->
 ((true=true ->
 false=true)/\(true=false ->
 (∃ u4:Unit,(fV O more))))))
abbrev Cc(O:List Int)(more:List Int)(i6:Nat):Prop:=(let v0:=sasL (eG O) (aU (eX O));(∃ u7:Unit,(QI O more i6 0/\((True/\(v0=v0/\(True/\((faN O more:Int)=(faN O more:Int)/\((i6:Int)=(i6:Int)/\True)))))/\(eE O)))))
abbrev oX(O:List Int)(more:List Int)(i6:Nat)(c8:Nat):Prop:=(let v0:=sasL (eG O) (aU (eX O));(ai ((c8:Int)+(1:Int))/\(∃ c9:Nat,(QI O more i6 c9/\((eG O).au.toNat - c9<(eG O).au.toNat - c8/\((True/\(v0=v0/\(True/\((faN O more:Int)=(faN O more:Int)/\((i6:Int)=(i6:Int)/\(((c8:Int)+(1:Int))=(c9:Int)/\True))))))/\(eE O)))))))
abbrev Cd(O:List Int)(more:List Int)(i6:Nat)(c8:Nat):Prop:=(let v1:=sasL (eG O) (aU (eX O));let v2:=Int.toNat (faN O more:Int);let v0 := !(gu (v1.getD (Int.toNat ((((aoV (eG O) (aU (eX O))).next.getD v2 []).getD i6 []).getD c8 (0:Int))) zE) (aU ((spV (i6:Int) (c8:Int) (v1.getD v2 zE)).1)));((v0=true ->
 false=true)/\(v0=false ->
 (oX O more i6 c8))))
abbrev Ce(O:List Int)(more:List Int):Prop:=(let v4:=(faN O more:Int);let v6:=(0:Int);let v7:=eG O;let v2:=sasL v7 (aU (eX O));let v0:=v2.getD (Int.toNat v4) zE;let v5:=aoV v7 (aU (eX O));let v1:=v5.next.getD (Int.toNat v4) [];let v3:=v5.accept.getD (Int.toNat v4) [];let v8:=eE O;let v9 := !(decide ((v6)=v6));let va:=(v2.length:Int);let vb:=(v3.length:Int);((ai va ->
 ((0<=v6/\cW more/\more.length<=1000000)/\(ai (a2v more v6 va) ->
 (∃ u5:Unit,(FW O more/\((True/\(v2=v2/\(True/\((a2v more v6 va)=v4/\True))))/\v8))))))/\(∀ u5:Unit,(FW O more ->
 (aB v4 v2.length/\(((!(okE v7 v0))=true ->
 true=true)/\((!(okE v7 v0))=false ->
 ((∃ i6:Nat,(Uj O more i6/\((True/\(v2=v2/\(True/\(v4=v4/\(v6=(i6:Int)/\True)))))/\v8)))/\(∀ i6:Nat,let vc:=(i6:Int);let vd:=v1.getD i6 [];let ve := !((emV vc v0) == (v3.getD i6 false));let vf:=Cc O more i6;(Uj O more i6 ->
 (v5.accept.length<=140737488355328 ->
 (aB v4 v5.accept.length/\(v3.length<=140737488355328 ->
 (ai vb ->
 (((decide (vc<vb))=true ->
 (aB v4 v2.length/\((okE v7 v0=true/\0<=vc/\vc<aV v7)/\(ai (v6) ->
 (((v9=false ->
 (v5.accept.length<=140737488355328 ->
 (aB v4 v5.accept.length/\(v3.length<=140737488355328 ->
 (aB vc v3.length/\((ve=true ->
 false=true)/\(ve=false ->
 vf)))))))/\(v9=(!false) ->
 ((true=true ->
 false=true)/\(true=false ->
 vf))))/\(∀ u7:Unit,(QI O more i6 0 ->
 ((∃ c8:Nat,(QI O more i6 c8/\((True/\(v2=v2/\(True/\(v4=v4/\(vc=vc/\(v6=(c8:Int)/\True))))))/\v8)))/\(∀ c8:Nat,let vg:=oX O more i6 c8;let vh:=vd.getD c8 v6;let vk:=(c8:Int);let vi:=spV vc vk v0;let vj := !((decide (vh<v6)) == (decide ((vi.1).ah=(1:Int))));let vl:=decide (v6<=vh);let vm:=Cd O more i6 c8;(QI O more i6 c8 ->
 (ai v7.au ->
 (((decide (vk<v7.au))=true ->
 (v2.length<=140737488355328 ->
 (ai v4 ->
 (aB v4 v2.length/\(ai vc ->
 (ai vk ->
 ((v7.aK=v7.aK/\(v7.au=v7.au/\True))/\(v2=v2/\(v4=v4/\(aB v4 v2.length/\(v0=v0/\(v0=v0/\(vc=vc/\(vk=vk/\((okE v7 v0=true/\(0<=vc/\vc<aV v7)/\(0<=vk/\vk<v7.au)/\vi.2=true)/\(ai (v6) ->
 (v5.next.length<=140737488355328 ->
 (aB v4 v5.next.length/\(v1.length<=140737488355328 ->
 (aB vc v1.length/\(vd.length<=140737488355328 ->
 (aB vk vd.length/\(ai vh ->
 ((v9=false ->
 ((vj=false ->
 ((vl=true ->
 (aB vh v2.length/\(ai (vi.1).ah ->
 vm)))/\(vl=(!true) ->
 (ai (vi.1).ah ->
 ((false=true ->
 false=true)/\(false=false ->
 vg))))))/\(vj=(!false) ->
 (ai (vi.1).ah ->
 ((true=true ->
 false=true)/\(true=false ->
 vg))))))/\(v9=(!false) ->
 ((true=false ->
 ((vl=true ->
 (aB vh v2.length/\vm))/\(vl=(!true) ->
 ((false=true ->
 false=true)/\(false=false ->
 vg)))))/\(true=(!false) ->
 ((true=true ->
 false=true)/\(true=false ->
 vg)))))))))))))))))))))))))))))/\((decide (vk<v7.au))=false ->
 (ai (vc+(1:Int))/\(∃ i9:Nat,(Uj O more i9/\((aV v7).toNat - i9<(aV v7).toNat - i6/\((True/\(v2=v2/\(True/\(v4=v4/\((vc+(1:Int))=(i9:Int)/\True)))))/\v8))))))))))))))))))/\((decide (vc<vb))=false ->
 true=true))))))))))))))))
def Aj:aX.Good EY:=by
 refine⟨aD qw,?_⟩;intro (O:List Int) (more:List Int) (hp:cW O/\cW more);refine Xm [Dh,rY,yW,yU,sO,ot,oY,iY,oZ,I2,wY,Bn,Dd,yV] [] [] [] [] [] [] [] ⟨IB,IC,EP,EM,Ah,vS,xO,xP,xQ,MJ,CU,Gv,Iw,EO,U⟩ trivial trivial trivial qw zP (E2 O more) (let v0:=aU (eX O);let v1:=eG O;let v2:=((sasL v1 v0).length:Int);let v3:=aoV v1 v0;let v4:=sasC v1 v0;let v5:=decide (3000<O.length)||decide (3000<more.length);let v6:=(v3.accept.length:Int);let v7 := !(decide ((raC (atx v3))=(0:Int)));let v8:=B9 O more;let v9:=Ca O more;let va:=Cb O more;let vb:=Ce O more;((((v5=true->true=true)/\(v5=false->(∃ u1:Unit,(NW O more/\((O=O/\(more=more/\True))/\True)))))/\(∀ u1:Unit,(NW O more->((cW O/\O.length<=1000000)/\(okE v1 v0=true/\((sasL v1 v0).length<=140737488355328->(ai v4->(okE v1 v0=true/\((sasL v1 v0).length<=140737488355328->(ai v4->(ai (aoC v1 v0)->((((!(decide (v4=v4)))=false->(((!(decide ((aoC v1 v0)=v4)))=true->false=true)/\((!(decide ((aoC v1 v0)=v4)))=false->v8)))/\((!(decide (v4=v4)))=(!false)->((true=true->false=true)/\(true=false->v8))))/\(∀ u2:Unit,(NW O more->((((!(decide (v4=(0:Int))))=true->true=true)/\((!(decide (v4=(0:Int))))=false->(∃ u3:Unit,(fV O more))))/\(∀ u3:Unit,(FW O more->((ai v2->(((decide (v2<(1:Int)))=false->(v3.accept.length<=140737488355328->(ai v6->(ai v2->(((!(decide (v6=v2)))=false->v9)/\((!(decide (v6=v2)))=(!false)->va))))))/\((decide (v2<(1:Int)))=(!false)->((true=false->v9)/\(true=(!false)->va)))))/\(∀ u4:Unit,(FW O more->(aOk v3=true/\((atx v3).length<=140737488355328->((atx v3).length<=1048576/\(ai (raC (atx v3))->((v7=false->((v3=(raV (atx v3))/\SmA v3)/\((false=true->false=true)/\(false=false->vb))))/\(v7=(!false)->((true=true->false=true)/\(true=false->vb)))))))))))))))))))))))))))))) ?_;refine⟨⟨λ _=>rfl,λ _=>⟨(),?_,⟨rfl,rfl,U⟩,U⟩⟩,λ u1 _=>⟨?_,?_,λ _ _=>⟨?_,λ _ _ _=>⟨⟨λ _=>⟨λ _=>?_,λ _=>⟨(),?_,⟨rfl,U,rfl,rfl,U,U⟩,⟨rfl,rfl,rfl,rfl,U⟩,⟨rfl,rfl,U⟩,U⟩⟩,λ _=>⟨λ _=>?_,λ _=>⟨(),?_,⟨rfl,U,rfl,rfl,U,U⟩,⟨rfl,rfl,rfl,rfl,U⟩,⟨rfl,rfl,U⟩,U⟩⟩⟩,λ u2 _=>⟨⟨λ _=>rfl,λ _=>⟨(),?_,⟨rfl,U,rfl,U,U⟩,⟨rfl,rfl,rfl,rfl,U⟩,⟨rfl,rfl,U⟩,U⟩⟩,λ u3 _=>⟨λ _=>⟨λ _ _ _ _=>⟨λ _=>⟨λ _=>⟨λ _=>?_,λ _=>⟨(),?_,⟨rfl,U,rfl,U,U⟩,⟨rfl,rfl,rfl,rfl,U⟩,⟨rfl,rfl,U⟩,U⟩⟩,λ _=>⟨λ _=>?_,λ _=>⟨(),?_,⟨rfl,U,rfl,U,U⟩,⟨rfl,rfl,rfl,rfl,U⟩,⟨rfl,rfl,U⟩,U⟩⟩⟩,λ _=>⟨λ _=>⟨λ _=>?_,λ _=>⟨(),?_,⟨rfl,U,rfl,U,U⟩,⟨rfl,rfl,rfl,rfl,U⟩,⟨rfl,rfl,U⟩,U⟩⟩,λ _=>⟨λ _=>?_,λ _=>⟨(),?_,⟨rfl,U,rfl,U,U⟩,⟨rfl,rfl,rfl,rfl,U⟩,⟨rfl,rfl,U⟩,U⟩⟩⟩⟩,λ _=>⟨λ _=>⟨λ _=>⟨λ _=>?_,λ _=>⟨(),?_,⟨rfl,U,rfl,U,U⟩,⟨rfl,rfl,rfl,rfl,U⟩,⟨rfl,rfl,U⟩,U⟩⟩,λ _=>⟨λ _=>?_,λ _=>⟨(),?_,⟨rfl,U,rfl,U,U⟩,⟨rfl,rfl,rfl,rfl,U⟩,⟨rfl,rfl,U⟩,U⟩⟩⟩,λ _=>⟨λ _=>⟨λ _=>?_,λ _=>⟨(),?_,⟨rfl,U,rfl,U,U⟩,⟨rfl,rfl,rfl,rfl,U⟩,⟨rfl,rfl,U⟩,U⟩⟩,λ _=>⟨λ _=>?_,λ _=>⟨(),?_,⟨rfl,U,rfl,U,U⟩,⟨rfl,rfl,rfl,rfl,U⟩,⟨rfl,rfl,U⟩,U⟩⟩⟩⟩⟩,λ u4 _=>⟨?_,λ _=>⟨?_,λ _=>⟨λ _=>⟨?_,λ _=>?_,λ _=>⟨λ _=>⟨?_,λ _=>⟨(),?_,⟨U,rfl,U,?_,U⟩,⟨rfl,rfl,rfl,rfl,U⟩,⟨rfl,rfl,U⟩,U⟩⟩,λ u5 _=>⟨?_,λ _=>rfl,λ _=>⟨⟨0,?_,⟨U,rfl,U,rfl,?_,U⟩,⟨rfl,rfl,rfl,rfl,U⟩,⟨rfl,rfl,U⟩,U⟩,λ i6 _ _=>⟨?_,λ _ _=>⟨λ _=>⟨?_,?_,λ _=>⟨⟨λ _ _=>⟨?_,λ _=>⟨?_,λ _=>?_,λ _=>⟨(),?_,⟨U,rfl,U,rfl,rfl,U⟩,⟨rfl,rfl,rfl,rfl,U⟩,⟨rfl,rfl,U⟩,U⟩⟩⟩,λ _=>⟨λ _=>?_,λ _=>⟨(),?_,⟨U,rfl,U,rfl,rfl,U⟩,⟨rfl,rfl,rfl,rfl,U⟩,⟨rfl,rfl,U⟩,U⟩⟩⟩,λ u7 _=>⟨⟨0,?_,⟨U,rfl,U,rfl,rfl,?_,U⟩,⟨rfl,rfl,rfl,rfl,U⟩,⟨rfl,rfl,U⟩,U⟩,λ c8 _ _=>⟨λ _ _ _=>⟨?_,λ _ _=>⟨⟨rfl,rfl,?_⟩,rfl,rfl,?_,rfl,rfl,rfl,rfl,?_,λ _ _=>⟨?_,λ _=>⟨?_,λ _=>⟨?_,λ _=>⟨λ _=>⟨λ _=>⟨λ _=>⟨?_,λ _=>⟨λ _=>?_,λ _=>⟨?_,c8+1,?_,?_,⟨U,rfl,U,rfl,rfl,?_,U⟩,⟨rfl,rfl,rfl,rfl,U⟩,⟨rfl,rfl,U⟩,U⟩⟩⟩,λ _ _=>⟨λ _=>?_,λ _=>⟨?_,c8+1,?_,?_,⟨U,rfl,U,rfl,rfl,?_,U⟩,⟨rfl,rfl,rfl,rfl,U⟩,⟨rfl,rfl,U⟩,U⟩⟩⟩,λ _ _=>⟨λ _=>?_,λ _=>⟨?_,c8+1,?_,?_,⟨U,rfl,U,rfl,rfl,?_,U⟩,⟨rfl,rfl,rfl,rfl,U⟩,⟨rfl,rfl,U⟩,U⟩⟩⟩,λ _=>⟨λ _=>⟨λ _=>⟨?_,λ _=>?_,λ _=>⟨?_,c8+1,?_,?_,⟨U,rfl,U,rfl,rfl,?_,U⟩,⟨rfl,rfl,rfl,rfl,U⟩,⟨rfl,rfl,U⟩,U⟩⟩,λ _=>⟨λ _=>?_,λ _=>⟨?_,c8+1,?_,?_,⟨U,rfl,U,rfl,rfl,?_,U⟩,⟨rfl,rfl,rfl,rfl,U⟩,⟨rfl,rfl,U⟩,U⟩⟩⟩,λ _=>⟨λ _=>?_,λ _=>⟨?_,c8+1,?_,?_,⟨U,rfl,U,rfl,rfl,?_,U⟩,⟨rfl,rfl,rfl,rfl,U⟩,⟨rfl,rfl,U⟩,U⟩⟩⟩⟩⟩⟩⟩⟩⟩,λ _=>⟨?_,i6+1,?_,?_,⟨U,rfl,U,rfl,?_,U⟩,⟨rfl,rfl,rfl,rfl,U⟩,⟨rfl,rfl,U⟩,U⟩⟩⟩⟩⟩,λ _=>rfl⟩⟩⟩⟩⟩⟩,λ _=>⟨λ _=>?_,λ _=>⟨λ _=>⟨?_,λ _=>⟨(),?_,⟨U,rfl,U,?_,U⟩,⟨rfl,rfl,rfl,rfl,U⟩,⟨rfl,rfl,U⟩,U⟩⟩,λ u5 _=>⟨?_,λ _=>rfl,λ _=>⟨⟨0,?_,⟨U,rfl,U,rfl,?_,U⟩,⟨rfl,rfl,rfl,rfl,U⟩,⟨rfl,rfl,U⟩,U⟩,λ i6 _ _=>⟨?_,λ _ _=>⟨λ _=>⟨?_,?_,λ _=>⟨⟨λ _ _=>⟨?_,λ _=>⟨?_,λ _=>?_,λ _=>⟨(),?_,⟨U,rfl,U,rfl,rfl,U⟩,⟨rfl,rfl,rfl,rfl,U⟩,⟨rfl,rfl,U⟩,U⟩⟩⟩,λ _=>⟨λ _=>?_,λ _=>⟨(),?_,⟨U,rfl,U,rfl,rfl,U⟩,⟨rfl,rfl,rfl,rfl,U⟩,⟨rfl,rfl,U⟩,U⟩⟩⟩,λ u7 _=>⟨⟨0,?_,⟨U,rfl,U,rfl,rfl,?_,U⟩,⟨rfl,rfl,rfl,rfl,U⟩,⟨rfl,rfl,U⟩,U⟩,λ c8 _ _=>⟨λ _ _ _=>⟨?_,λ _ _=>⟨⟨rfl,rfl,?_⟩,rfl,rfl,?_,rfl,rfl,rfl,rfl,?_,λ _ _=>⟨?_,λ _=>⟨?_,λ _=>⟨?_,λ _=>⟨λ _=>⟨λ _=>⟨λ _=>⟨?_,λ _=>⟨λ _=>?_,λ _=>⟨?_,c8+1,?_,?_,⟨U,rfl,U,rfl,rfl,?_,U⟩,⟨rfl,rfl,rfl,rfl,U⟩,⟨rfl,rfl,U⟩,U⟩⟩⟩,λ _ _=>⟨λ _=>?_,λ _=>⟨?_,c8+1,?_,?_,⟨U,rfl,U,rfl,rfl,?_,U⟩,⟨rfl,rfl,rfl,rfl,U⟩,⟨rfl,rfl,U⟩,U⟩⟩⟩,λ _ _=>⟨λ _=>?_,λ _=>⟨?_,c8+1,?_,?_,⟨U,rfl,U,rfl,rfl,?_,U⟩,⟨rfl,rfl,rfl,rfl,U⟩,⟨rfl,rfl,U⟩,U⟩⟩⟩,λ _=>⟨λ _=>⟨λ _=>⟨?_,λ _=>?_,λ _=>⟨?_,c8+1,?_,?_,⟨U,rfl,U,rfl,rfl,?_,U⟩,⟨rfl,rfl,rfl,rfl,U⟩,⟨rfl,rfl,U⟩,U⟩⟩,λ _=>⟨λ _=>?_,λ _=>⟨?_,c8+1,?_,?_,⟨U,rfl,U,rfl,rfl,?_,U⟩,⟨rfl,rfl,rfl,rfl,U⟩,⟨rfl,rfl,U⟩,U⟩⟩⟩,λ _=>⟨λ _=>?_,λ _=>⟨?_,c8+1,?_,?_,⟨U,rfl,U,rfl,rfl,?_,U⟩,⟨rfl,rfl,rfl,rfl,U⟩,⟨rfl,rfl,U⟩,U⟩⟩⟩⟩⟩⟩⟩⟩⟩,λ _=>⟨?_,i6+1,?_,?_,⟨U,rfl,U,rfl,?_,U⟩,⟨rfl,rfl,rfl,rfl,U⟩,⟨rfl,rfl,U⟩,U⟩⟩⟩⟩⟩,λ _=>rfl⟩⟩⟩⟩⟩⟩⟩⟩⟩⟩⟩⟩⟩⟩⟩;all_goals try and_intros
 all_goals try (first|with_reducible rfl|with_reducible assumption)
 all_goals try simp only[J.eta,cC] at *
 all_goals (try simp only[a9t,a9E,a9d,a8Z,aB,ai,bz,dh,a9Q,b0O,b0f,b1Z,a9N,a9J,a9R,a9i,a9f,a9v,J.eta,aF.eta,aj.eta] at *);first|done|contradiction|with_reducible assumption|omega|with_reducible rfl|exact trivial|exact hp.1|exact hp.2|exact a6s hp (by simp_all)|(have C:QI O more i6 c8:=(by with_reducible assumption);have Q:=C.p.q;have L:=Q.l;obtain⟨l1,l2,l3,l4,l5,l6,l7,l8⟩:=L;have m1:=C.le;have m2:=C.lt;have m3:=Q.k.lr i6 m2;first|omega|exact QI.mk C.p C.lt (by omega)|exact Uj.mk Q C.p.v (by omega)|exact C.p.v|exact Q.k.tr i6 c8 m2 (by omega)|(have V:=FaV.of (Q.k.en i6 c8 m2 (by omega));have k:=V.k;have r:=V.r;first|omega|exact (r (by omega)).1|(simp_all;done)))|(have I:Uj O more i6:=(by with_reducible assumption);have Q:=I.q;have L:=Q.l;obtain⟨l1,l2,l3,l4,l5,l6,l7,l8⟩:=L;first|omega|exact I.v|exact QI.mk I (by omega) (a9F _)|(have e:=Q.k.ac i6 (by omega);simp_all;done))|(have Q:FW O more:=(by with_reducible assumption);have L:=Q.l;obtain⟨l1,l2,l3,l4,l5,l6,l7,l8⟩:=L;first|omega|exact Q.p.ok|exact Q.s.ok|exact Q.s.sm|exact Q.e.symm|exact Q.p.hm|exact Uj.mk Q (by with_reducible assumption) (a9F _)|(have:=Q.p.le;omega)|(have:=a2G Q.s.ok;omega)|exact (VD Q.s.ok).1.symm|(have e1:=Q.s.sg;have e2:=Q.s.ok;have e3:=Q.al;have e4:=(VD Q.s.ok).2;simp_all;done))|(have F:NW O more:=(by with_reducible assumption);have e:=a6r F;first|omega|exact a6t F (by omega)|exact F.hb|exact F.ok|exact F.hm|(have q:=F.le;omega)|(simp_all;done))
def Qc{w:World}{S:Nat->Prop}:∀ (xs:List Int) (b o:Nat),cF w S (xs.map (Ty.int IntKind.u8).aE) b o->cW xs
 | [],_,_,_=>λ i h=>by simp at h
 | x::xs,b,o,h=>λ i hi=>by
  obtain⟨⟨cs,_,h1,_⟩,h2⟩:=h;cases i with
  | zero =>
   have h3:IntKind.u8.min<=x/\x<=IntKind.u8.max:=h1.2;have e1:IntKind.u8.min=0:=by decide
   have e2:IntKind.u8.max=255:=by decide
   rw[e1,e2] at h3;exact h3
  | succ i=>simpa using Qc xs b _ h2 i (by simpa using hi)
def RC{P:Program}{w:World}{S:Nat->Prop}{O:List Int}{x:Value}(h:tD P w S (.val ⟨.slice (.int .u8),O⟩) x):cW O:=by
 obtain⟨a,cap,_,_,_,_,h5⟩:=(show Rd w S (TV.aE ⟨.slice (.int .u8),O⟩) [x] from h);rcases h5 with h5|⟨b,o,_,_,h5⟩
 .have:O=[]:=b2g.1 h5;subst this;exact λ i h=>by simp at h
 .exact Qc O b o h5
def KW:∀ JR:List TV,JR.map TV.τ=[(.slice (.int .u8)),(.slice (.int .u8))]->fT prog lW (JR.map .val) (·=[⟨.bool,true⟩]):=by
 intro JR h;match JR,h with
 | [⟨t0,a0⟩,⟨t1,a1⟩],h =>
  simp only[a9x,b0y,a9a,a9q] at h;obtain⟨rfl,rfl⟩:=h;intro w S bV hS ha;match bV,ha with
  | [x,y],ha=>exact Aj.2 a0 a1 ⟨RC ha.1,RC ha.2.1⟩ w S [x,y] hS ha
end
end Go.Proofs.YtofnjfpeimhifaaGreatDoor

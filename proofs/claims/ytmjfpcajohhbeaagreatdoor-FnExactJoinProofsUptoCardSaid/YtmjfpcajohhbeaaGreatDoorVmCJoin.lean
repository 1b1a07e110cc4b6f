/- VmPf22, VmCJoin. -/
import Derived.Test.YtmjfpcajohhbeaaGreatDoorVmPf21
set_option linter.all false
set_option maxRecDepth 4000
set_option maxHeartbeats 4000000
namespace Go.Proofs.YtmjfpcajohhbeaaGreatDoor
noncomputable section
def O8(F:Int->Prop×Int)(i:Int):Int:=(F i).2
def Up(F:Int->Prop×Int)(aH ref:Int):Int:=if aH=1 then ref else (F ref).2
def NP(F:Int->Prop×Int)(st:List U)(i:Nat):List U:=half (st.map (oQ (O8 F))) st i
structure RnP(F:Int->Prop×Int)(aH ref:Int)(st:List U):Prop where
 r:¬ aH=1->(F ref).1
 s:∀ i,i<st.length->(st.getD i (U.mk (0:Int) false [] [] [])).use<0 -> -1000<=(st.getD i (U.mk (0:Int) false [] [] [])).use/\(F (-1 - (st.getD i (U.mk (0:Int) false [] [] [])).use)).1
 b:∀ i,(F i).1->0<=(F i).2/\(F i).2<=1000
 n:st.length<=1000
def a7P{F:Int->Prop×Int}{aH ref:Int}(h:aH=1):Up F aH ref=ref:=by unfold Up;rw[if_pos h]
def a7O{F:Int->Prop×Int}{aH ref:Int}(h:¬ aH=1):Up F aH ref=(F ref).2:=by unfold Up;rw[if_neg h]
def Fv(F:Int->Prop×Int)(st:List U):(st.map (oQ (O8 F))).length=st.length:=b3M _
def a7J(F:Int->Prop×Int)(st:List U):NP F st 0=st:=(rW _ st).symm
def a2g(F:Int->Prop×Int)(st:List U)(i:Nat):(NP F st i).length=st.length:=j9 _ _ i (Fv F st)
def a7K(F:Int->Prop×Int)(st:List U)(i:Nat)(h:i<st.length):(NP F st i).getD i (U.mk (0:Int) false [] [] [])=st.getD i (U.mk (0:Int) false [] [] []):=yh _ _ _ i (Fv F st) h
def a2f(F:Int->Prop×Int)(st:List U)(i:Nat)(h:st.length<=i):NP F st i=st.map (oQ (O8 F)):=Df _ _ i (Fv F st) h
def a4U(F:Int->Prop×Int)(st:List U)(i:Nat)(h:i<st.length):(st.map (oQ (O8 F))).getD i (U.mk (0:Int) false [] [] [])=oQ (O8 F) (st.getD i (U.mk (0:Int) false [] [] [])):=by
 simp only[b3N,b5k,b3Z h,b5S,b6e]
def a2h(F:Int->Prop×Int)(st:List U)(i:Nat)(h:i<st.length)(h2:(st.getD i (U.mk (0:Int) false [] [] [])).use<0) :
  (NP F st i).set i (U.mk (-1 - (F (-1 - (st.getD i (U.mk (0:Int) false [] [] [])).use)).2) (st.getD i (U.mk (0:Int) false [] [] [])).back (st.getD i (U.mk (0:Int) false [] [] [])).path (st.getD i (U.mk (0:Int) false [] [] [])).av (st.getD i (U.mk (0:Int) false [] [] [])).bd)=NP F st (i+1):=by
 unfold NP;rw[<-Dg _ _ (U.mk (0:Int) false [] [] []) i (Fv F st) h,a4U F st i h];unfold oQ Uk O8;rw[if_pos h2]
def Zs(F:Int->Prop×Int)(st:List U)(i:Nat)(h:i<st.length)(h2:¬ (st.getD i (U.mk (0:Int) false [] [] [])).use<0):NP F st i=NP F st (i+1):=by
 have e:oQ (O8 F) (st.getD i (U.mk (0:Int) false [] [] []))=st.getD i (U.mk (0:Int) false [] [] []):=by unfold oQ Uk;rw[if_neg h2]
 unfold NP;rw[<-Dg _ _ (U.mk (0:Int) false [] [] []) i (Fv F st) h,a4U F st i h,e];have g:=yh (st.map (oQ (O8 F))) st (U.mk (0:Int) false [] [] []) i (Fv F st) h;have hl:i<(half (st.map (oQ (O8 F))) st i).length:=by rw[j9 _ _ i (Fv F st)];exact h
 rw[<-g,b3N,b3Z hl,b6e,b7h]
def Be:gl:=⟨D3,[[.d (.int .i64), .d (.int .i64), .o (.slice (.st .expr)), .d (.int .i64), .d (.int .i64), .o (.slice (.st .expr)), .d (.int .i64), .d (.int .i64), .o (.slice (.st .proofStep))]],[.b 0, .c [(.int .i64)] (.int .i64)],[[(.int .i64),(.int .i64),(.slice (.st .expr)),(.int .i64),(.int .i64),(.slice (.st .expr)),(.int .i64),(.int .i64),(.slice (.st .proofStep))]],λ (F:Int->Prop×Int) (lk:Int) (ln:Int) (Ya:List J) (rk:Int) (rn:Int) (Yh:List J) (aH:Int) (ref:Int) (steps:List U)=>⟨(some (RnP F aH ref steps),[],[[⟨(.int .i64),lk⟩,⟨(.int .i64),ln⟩,⟨(.slice (.st .expr)),Ya⟩,⟨(.int .i64),rk⟩,⟨(.int .i64),rn⟩,⟨(.slice (.st .expr)),Yh⟩,⟨(.int .i64),aH⟩,⟨(.int .i64),Up F aH ref⟩,⟨(.slice (.st .proofStep)),steps.map (oQ (O8 F))⟩]])⟩⟩
def P9(F:Int->Prop×Int)(lk:Int)(ln:Int)(Ya:List J)(rk:Int)(rn:Int)(Yh:List J)(aH:Int)(ref:Int)(steps:List U):Nat->az:=(cP 100002 (.u (True) [] [] [1000000,1000001,1000002] [(400000, .box [.aF ⟨(.int .i64),(lk:Int)⟩, .aF ⟨(.int .i64),(ln:Int)⟩, .aw 1000000, .aF ⟨(.int .i64),(rk:Int)⟩, .aF ⟨(.int .i64),(rn:Int)⟩, .aw 1000001, .aF ⟨(.int .i64),(aH:Int)⟩, .aF ⟨(.int .i64),((Up F aH ref):Int)⟩, .aw 1000002])] (cP 0 (.a (Nat) (λ i=>i<=steps.length) (λ i=>steps.length - i) [20,21,22] (λ i=>[(25, .aF ⟨(.int .i64),((i:Int):Int)⟩),(23, .aw 1000002)]) [1000000,1000001] (λ i=>[(400000, .box [.aF ⟨(.int .i64),(lk:Int)⟩, .aF ⟨(.int .i64),(ln:Int)⟩, .aw 1000000, .aF ⟨(.int .i64),(rk:Int)⟩, .aF ⟨(.int .i64),(rn:Int)⟩, .aw 1000001, .aF ⟨(.int .i64),(aH:Int)⟩, .aF ⟨(.int .i64),((Up F aH ref):Int)⟩, .aw 1000002]),(1000002, .aw (.st .proofStep) (NP F steps i:List U))])) bI)) bI)
abbrev KY(F:Int->Prop×Int)(lk:Int)(ln:Int)(rk:Int)(rn:Int)(aH:Int)(ref:Int):Prop:=(lk=lk/\(ln=ln/\(True/\(rk=rk/\(rn=rn/\(True/\(aH=aH/\((Up F aH ref)=(Up F aH ref)/\(True/\True)))))))))
def JE:gl.Good Be:=by
 refine⟨ar An,?_⟩;intro (F:Int->Prop×Int) (lk:Int) (ln:Int) (Ya:List J) (rk:Int) (rn:Int) (Yh:List J) (aH:Int) (ref:Int) (steps:List U) (hp:RnP F aH ref steps);refine gK [] [] [] [] [] [] [] [] trivial trivial trivial trivial An Kn (P9 F lk ln Ya rk rn Yh aH ref steps) rfl rfl (let v0:=U.mk (0:Int) false [] [] [];let v1:=(steps.length:Int);let v2:=KY F lk ln rk rn aH ref;let v3:=Ya=Ya/\(Yh=Yh/\True);let v4:=Ya=Ya/\(Yh=Yh/\(steps=steps/\True));let v5:=(-1:Int);let v6:=Up F aH ref;let v7:=(1:Int);(((O aH->(((!(decide (aH=v7)))=true->(O ref->((F ref).1/\(O ((F ref).2)->(∃ u1:Unit,(True/\((True/\(F=F/\True))/\((lk=lk/\(ln=ln/\(True/\(rk=rk/\(rn=rn/\(True/\(aH=aH/\(((F ref).2)=v6/\(True/\True)))))))))/\v4))))))))/\((!(decide (aH=v7)))=false->(∃ u1:Unit,(True/\((True/\(F=F/\True))/\((lk=lk/\(ln=ln/\(True/\(rk=rk/\(rn=rn/\(True/\(aH=aH/\(ref=v6/\(True/\True)))))))))/\v4)))))))/\(∀ u1:Unit,(True->((∃ i2:Nat,(i2<=steps.length/\((True/\(F=F/\(True/\(v1=v1/\((0:Int)=(i2:Int)/\True)))))/\(v2/\(steps=(NP F steps i2)/\v3)))))/\(∀ i2:Nat,let v9:=NP F steps i2;let v8:=v9.getD i2 v0;let va:=(i2:Int);let vb:=F (v5 - v8.use);(i2<=steps.length->(((decide (va<v1))=true->(ak va v9.length/\(O v8.use->(((decide (v8.use<(0:Int)))=true->(O (v5 - v8.use)/\(vb.1/\(O (v5 - (vb.2))/\(O v8.use->(O (vb.2)->(ak va v9.length/\(O (va+v7)/\(∃ i3:Nat,(i3<=steps.length/\(steps.length - i3<steps.length - i2/\((True/\(F=F/\(True/\(v1=v1/\((va+v7)=(i3:Int)/\True)))))/\(v2/\((v9.set i2 (U.mk (v5 - (vb.2)) v8.back v8.path v8.av v8.bd))=(NP F steps i3)/\v3))))))))))))))/\((decide (v8.use<(0:Int)))=false->(O (va+v7)/\(∃ i3:Nat,(i3<=steps.length/\(steps.length - i3<steps.length - i2/\((True/\(F=F/\(True/\(v1=v1/\((va+v7)=(i3:Int)/\True)))))/\(v2/\(v9=(NP F steps i3)/\v3))))))))))))/\((decide (va<v1))=false->(True/\((lk=lk/\(ln=ln/\(Ya=Ya/\(rk=rk/\(rn=rn/\(Yh=Yh/\(aH=aH/\(v6=v6/\v9=(steps.map (oQ (O8 F)))))))))))/\True)))))))))))) ?_;refine⟨λ _=>⟨λ _ _=>⟨?_,λ _=>⟨(),?_,⟨ae,rfl,ae⟩,⟨rfl,rfl,ae,rfl,rfl,ae,rfl,?_,ae,ae⟩,rfl,rfl,rfl,ae⟩⟩,λ _=>⟨(),?_,⟨ae,rfl,ae⟩,⟨rfl,rfl,ae,rfl,rfl,ae,rfl,?_,ae,ae⟩,rfl,rfl,rfl,ae⟩⟩,λ u1 _=>⟨⟨0,?_,⟨ae,rfl,ae,rfl,?_,ae⟩,⟨rfl,rfl,ae,rfl,rfl,ae,rfl,rfl,ae,ae⟩,?_,rfl,rfl,ae⟩,λ i2 _=>⟨λ _=>⟨?_,λ _=>⟨λ _=>⟨?_,?_,?_,λ _ _=>⟨?_,?_,i2+1,?_,?_,⟨ae,rfl,ae,rfl,?_,ae⟩,⟨rfl,rfl,ae,rfl,rfl,ae,rfl,rfl,ae,ae⟩,?_,rfl,rfl,ae⟩⟩,λ _=>⟨?_,i2+1,?_,?_,⟨ae,rfl,ae,rfl,?_,ae⟩,⟨rfl,rfl,ae,rfl,rfl,ae,rfl,rfl,ae,ae⟩,?_,rfl,rfl,ae⟩⟩⟩,λ _=>⟨ae,⟨rfl,rfl,rfl,rfl,rfl,rfl,rfl,rfl,?_⟩,ae⟩⟩⟩⟩;all_goals try and_intros
 all_goals first|with_reducible rfl|with_reducible assumption|exact True.intro|(simp only[b3D,b3C,b3B,b3z] at *;done)|((try simp only[b3Y,J.eta,b3v,b3u,b3B,b3z,b3I,b3Q,ak,O,aY,b3J,b3G,b3T,b3M,b3R] at *);first|exact True.intro|omega|exact hp.r (by with_reducible assumption)|exact (a7O (by with_reducible assumption)).symm|exact (a7P (by with_reducible assumption)).symm|exact (a7J F steps).symm|exact a7J F steps|exact a2f F steps _ (by omega)|exact (a2f F steps _ (by omega)).symm|(have:=a2g F steps i2;omega)|(have:=hp.n;omega)|(simp only[(a7K F steps i2 (by omega))] at *;first|omega|(have h:=hp.s i2 (by omega) (by omega);first|exact h.2|omega|(have h3:=hp.b _ h.2;omega))|exact a2h F steps i2 (by omega) (by omega)|exact (a2h F steps i2 (by omega) (by omega)).symm|exact Zs F steps i2 (by omega) (by omega)|exact (Zs F steps i2 (by omega) (by omega)).symm|(have h:=hp.s i2 (by omega) (by omega);have h3:=hp.b _ h.2;have:=a2g F steps i2;omega))|omega)
def vL(p:aj)(i:Int):Int:=i+(p.af.length:Int)
def uS(p q:aj)(i:Nat):List ag:=p.af++(q.af.take i).map (WV (vL p))
abbrev jnE(p q:aj):Bool:=decide (p.sig.av=q.sig.av)&&(decide (p.sig.bc=q.sig.bc)&&true)
def qI(p q:aj):Int:=if ¬ wO [p,q]=0 then wO [p,q] else bif !jnE p q then 2 else if (40:Int)<(p.af.length:Int)+(q.af.length:Int) then 3 else 0
def jD(p q:aj):aj:=if qI p q=0 then aj.mk p.sig (uS p q q.af.length) else (aj.mk (aU.mk (0:Int) (0:Int)) [])
structure Er(p q:aj):Prop where
 c:wO [p,q]=0
structure N9(p q:aj):Prop where
 a:Er p q
 s:jnE p q=true
 l:¬ (40:Int)<(p.af.length:Int)+(q.af.length:Int)
abbrev jnN(p q:aj)(c:Int):Prop:=jD p q=(aj.mk (aU.mk (0:Int) (0:Int)) [])/\qI p q=c
def jnN.mk{p q:aj}{c:Int}(h:qI p q=c)(h2:¬ c=0):jnN p q c:=⟨by unfold jD;rw[if_neg (by rw[h];exact h2)],h⟩
def a3l{p q:aj}(h:¬ wO [p,q]=0):jnN p q (wO [p,q]) := .mk (by unfold qI;rw[if_pos h]) h
def Er.n2{p q:aj}(h:Er p q)(h2:jnE p q=false):jnN p q 2 := .mk (by unfold qI;rw[if_neg (λ e=>e h.c),h2];rfl) (by decide)
def Er.n3{p q:aj}(h:Er p q)(h2:jnE p q=true)(h3:(40:Int)<(p.af.length:Int)+(q.af.length:Int)):jnN p q 3 := .mk (by unfold qI;rw[if_neg (λ e=>e h.c),h2,if_pos h3];rfl) (by decide)
def N9.c0{p q:aj}(h:N9 p q):qI p q=0:=by unfold qI;rw[if_neg (λ e=>e h.a.c),h.s,if_neg h.l];rfl
def N9.v{p q:aj}(h:N9 p q):jD p q=aj.mk p.sig (uS p q q.af.length):=by unfold jD;rw[if_pos h.c0]
def ZR{p q:aj}(h:wO [p,q]=0):mo p/\mo q/\Ch p=true/\Ch q=true:=by
 unfold wO at h;cases h1:bp dz [p,q]<;>rw[h1] at h
 .cases h
 cases h2:bp Ch [p,q]<;>rw[h2] at h
 .cases h
 simp only[bp,b5f,b3A] at h1 h2;exact⟨⟨h1.1⟩,⟨h1.2⟩,h2.1,h2.2⟩
def mo.cg{p:aj}(h:mo p){i:Nat}(hi:i<p.af.length):mF p.sig (p.af.getD i (ag.mk zE zE (0:Int) (0:Int) []))=true:=by
 have:=h.v;simp only[dz,b3A] at this;exact xl _ _ _ _ this.2 hi
def mo.st{p:aj}(h:mo p){i:Nat}(hi:i<p.af.length):(1<=(p.af.getD i (ag.mk zE zE (0:Int) (0:Int) [])).aH/\(p.af.getD i (ag.mk zE zE (0:Int) (0:Int) [])).aH<=3)/\(0<=(p.af.getD i (ag.mk zE zE (0:Int) (0:Int) [])).ref/\(p.af.getD i (ag.mk zE zE (0:Int) (0:Int) [])).ref<=39)/\(p.af.getD i (ag.mk zE zE (0:Int) (0:Int) [])).steps.length<=60 /\
  ((p.af.getD i (ag.mk zE zE (0:Int) (0:Int) [])).aH=1->(p.af.getD i (ag.mk zE zE (0:Int) (0:Int) [])).ref=0)/\(¬ (p.af.getD i (ag.mk zE zE (0:Int) (0:Int) [])).aH=1->(p.af.getD i (ag.mk zE zE (0:Int) (0:Int) [])).steps.length=0)/\∀ k,k<(p.af.getD i (ag.mk zE zE (0:Int) (0:Int) [])).steps.length -> -40<=((p.af.getD i (ag.mk zE zE (0:Int) (0:Int) [])).steps.getD k (U.mk (0:Int) false [] [] [])).use:=by
 have:=h.cg hi;simp only[mF,b3A,b3v,b3I,b7o,b5K,b3Q,b3u] at this;obtain⟨⟨⟨⟨⟨_,h1⟩,h2⟩,h3⟩,h4,h5⟩,h6⟩:=this;refine⟨h1,h2,h3,λ e=>h4.elim (λ q=>absurd e q) id,λ e=>h5.elim (λ q=>absurd q e) (λ q=>by omega),λ k hk=>?_⟩;have:=xl _ (U.mk (0:Int) false [] [] []) _ k h6 hk;simp only[mi,b3A,b3v] at this;exact this.1.1.1.1.1.1.1.1
def fL(p:aj):Int->Prop×Int:=λ (i:Int)=>((0<=i/\i<=39/\p.af.length<=40),vL p i)
def Jy:Nat×qL:=(mc,⟨[(.int .i64)],(.int .i64),[(true,(.st .proof))]⟩)
def tA:aL:=⟨mc,[.v (.int .i64), .r (.st .proof)],λ (i:Int) (p:aj)=>⟨(some (0<=i/\i<=39/\p.af.length<=40),[⟨(.int .i64),vL p i⟩])⟩⟩
def IP(i:Int)(p:aj):Nat->az:=bI
def C8:aL.Good tA:=by
 refine⟨ar qM,?_⟩;intro (i:Int) (p:aj) (hp:0<=i/\i<=39/\p.af.length<=40);refine aV [] [] [] [] trivial qM CP (IP i p) (let v0:=(p.af.length:Int);((p.af.length<=140737488355328->(O v0->(O (i+v0)/\(i+v0)=(vL p i)))))) ?_;refine λ _ _=>⟨?_,?_⟩;all_goals try and_intros
 all_goals first|rfl|trivial|(simp only[List.nil_append,J.eta,decide_eq_true_eq,decide_eq_false_iff_not,Bool.not_true,Bool.not_false,Bool.not_eq_true',Bool.not_eq_false',ak,O,aY,List.length_append,List.length_cons,List.length_nil,List.length_map,List.length_take] at *;first|rfl|omega|(unfold vL;rfl))
def b0L(p:aj):O8 (fL p)=vL p:=rfl
def b0M{p q:aj}(hp:p.af.length<=40)(h:mo q){i:Nat}(hi:i<q.af.length):RnP (fL p) (q.af.getD i (ag.mk zE zE (0:Int) (0:Int) [])).aH (q.af.getD i (ag.mk zE zE (0:Int) (0:Int) [])).ref (q.af.getD i (ag.mk zE zE (0:Int) (0:Int) [])).steps:=by
 obtain⟨h1,h2,h3,h4,h5,h6⟩:=h.st hi;refine⟨λ _=>⟨h2.1,h2.2,hp⟩,λ k hk hu=>?_,λ k hk=>?_,by omega⟩
 .have:=h6 k hk;exact⟨by omega,by omega,by omega,hp⟩
 .obtain⟨g1,g2,g3⟩:=hk;show 0<=vL p k/\vL p k<=1000;unfold vL;omega
def b0K{p q:aj}(h:mo q){i:Nat}(hi:i<q.af.length):ag.mk (q.af.getD i (ag.mk zE zE (0:Int) (0:Int) [])).left (q.af.getD i (ag.mk zE zE (0:Int) (0:Int) [])).right (q.af.getD i (ag.mk zE zE (0:Int) (0:Int) [])).aH (Up (fL p) (q.af.getD i (ag.mk zE zE (0:Int) (0:Int) [])).aH (q.af.getD i (ag.mk zE zE (0:Int) (0:Int) [])).ref) ((q.af.getD i (ag.mk zE zE (0:Int) (0:Int) [])).steps.map (oQ (O8 (fL p))))=WV (vL p) (q.af.getD i (ag.mk zE zE (0:Int) (0:Int) [])):=by
 obtain⟨h1,h2,h3,h4,h5,h6⟩:=h.st hi;unfold WV;rw[b0L];by_cases hr:(q.af.getD i (ag.mk zE zE (0:Int) (0:Int) [])).aH=1
 .rw[a7P hr,a0t hr,h4 hr]
 .rw[a7O hr,a0s hr];rfl
def a4z(p q:aj):uS p q 0=p.af:=by unfold uS;simp
def a4C{p q:aj}{i:Nat}(hi:i<q.af.length):uS p q i++[WV (vL p) (q.af.getD i (ag.mk zE zE (0:Int) (0:Int) []))]=uS p q (i+1):=by
 unfold uS;rw[cj (ag.mk zE zE (0:Int) (0:Int) []) q.af i hi,List.map_append,List.append_assoc];rfl
def a9S{p q:aj}{i:Nat}(hi:q.af.length<=i):uS p q i=uS p q q.af.length:=by
 unfold uS;rw[List.take_of_length_le hi,List.take_length]
def a4A(p q:aj)(i:Nat):(uS p q i).length<=p.af.length+q.af.length:=by
 unfold uS;rw[List.length_append,List.length_map,List.length_take];omega
def wz:aL:=⟨yU,[.v (.st .proof), .v (.st .proof)],λ (p:aj) (q:aj)=>⟨(some (bN p<=1048576/\bN q<=1048576),[⟨(.st .proof),jD p q⟩,⟨(.int .i64),qI p q⟩])⟩⟩
def K6(p:aj)(q:aj):Nat->az:=(cP 100005 (.u (Er p q) [0,1,5,6,11,12,13,14,15,16] [(23, .aF ⟨.bool,(!jnE p q:Bool)⟩)] [4] [] bI) (cP 0 (.a (Nat) (λ i=>N9 p q/\i<=q.af.length) (λ i=>q.af.length - i) [3,23,25,26,27,28,29,30,31,32,34,35,36] (λ i=>[(39, .aF ⟨(.int .i64),((i:Int):Int)⟩)]) [4] (λ i=>[(7, .box [.aF ⟨(.int .i64),(p.sig.av:Int)⟩, .aF ⟨(.int .i64),(p.sig.bc:Int)⟩, .aw 2200]),(2200, .aw (.st .claim) (uS p q i:List ag))])) bI))
def Fp:aL.cS wz:=by
 refine⟨ar vM,?_⟩;intro (p:aj) (q:aj) (hp:bN p<=1048576/\bN q<=1048576);refine bX [Dv,tA] [yP,oO] [] [Be] [35,44,46,50,51] [] [Jy] [2,3] ⟨KD,C8,ae⟩ ⟨Hz,rl,ae⟩ trivial ⟨JE,ae⟩ vM GW (K6 p q) (let v1:=(q.af.length:Int);let v3:=(0:Int);let v0:=ag.mk zE zE v3 v3 [];let v2:=(v3=v3/\(v3=v3/\(True/\True)))/\True;let v4:=p.sig.av=p.sig.av/\(p.sig.bc=p.sig.bc/\(True/\True));let v5:=fL p;let v6:=(p.af.length:Int);let v7:=aj.mk (aU.mk v3 v3) [];let v8:=wO ([p,q]);let v9:=decide ((40:Int)<(v6+v1));((O v8->(((!(decide (v8=v3)))=true->(v7=(jD p q)/\v8=(qI p q)))/\((!(decide (v8=v3)))=false->((∃ u1:Unit,(Er p q/\((p=p/\(q=q/\(True/\((!(decide (p.sig.av=q.sig.av)&&(decide (p.sig.bc=q.sig.bc)&&true)))=(!jnE p q)/\True))))/\v2)))/\(∀ u1:Unit,(Er p q->(((!jnE p q)=true->(v7=(jD p q)/\(2:Int)=(qI p q)))/\((!jnE p q)=false->(p.af.length<=140737488355328->(O v6->(q.af.length<=140737488355328->(O v1->(O (v6+v1)/\((v9=true->(v7=(jD p q)/\(3:Int)=(qI p q)))/\(v9=false->(bN p<=1048576/\(q.af.length<=140737488355328->(O v1->((∃ i2:Nat,((N9 p q/\i2<=q.af.length)/\((p=p/\(True/\(True/\(q.af=q.af/\(v1=v1/\(v3=(i2:Int)/\True))))))/\(v4/\(p.af=(uS p q i2)/\v2)))))/\(∀ i2:Nat,let va:=q.af.getD i2 v0;let vb:=[(ag.mk (aI va.left) (aI va.right) va.aH (Up v5 va.aH va.ref) (va.steps.map (oQ (O8 v5))))];((N9 p q/\i2<=q.af.length)->(((decide ((i2:Int)<v1))=true->(ak (i2:Int) q.af.length/\(bz (kz va)<=1048576/\(RnP v5 va.aH va.ref va.steps/\(aY ((uS p q i2).length+vb.length) 120/\(O ((i2:Int)+(1:Int))/\(∃ i3:Nat,((N9 p q/\i3<=q.af.length)/\(q.af.length - i3<q.af.length - i2/\((p=p/\(True/\(True/\(q.af=q.af/\(v1=v1/\(((i2:Int)+(1:Int))=(i3:Int)/\True))))))/\(v4/\(((uS p q i2)++vb)=(uS p q i3)/\v2))))))))))))/\((decide ((i2:Int)<v1))=false->((aj.mk (aU.mk p.sig.av p.sig.bc) (uS p q i2))=(jD p q)/\v3=(qI p q))))))))))))))))))))))))))) ?_;have f1:=λ i (h:i<q.af.length)=>dK bz (ag.mk zE zE (0:Int) (0:Int) []) q.af i h;have g1:=fJ q;refine λ _=>⟨λ _=>⟨?_,?_⟩,λ _=>⟨⟨(),?_,⟨rfl,rfl,ae,?_,ae⟩,⟨rfl,rfl,ae,ae⟩,ae⟩,λ u1 _=>⟨λ _=>⟨?_,?_⟩,λ _ _ _ _ _=>⟨?_,λ _=>⟨?_,?_⟩,λ _=>⟨?_,λ _ _=>⟨⟨0,?_,⟨rfl,ae,ae,rfl,rfl,?_,ae⟩,⟨rfl,rfl,ae,ae⟩,?_,⟨rfl,rfl,ae,ae⟩,ae⟩,λ i2 _=>⟨λ _=>⟨?_,?_,?_,?_,?_,i2+1,?_,?_,⟨rfl,ae,ae,rfl,rfl,?_,ae⟩,⟨rfl,rfl,ae,ae⟩,?_,⟨rfl,rfl,ae,ae⟩,ae⟩,λ _=>⟨?_,?_⟩⟩⟩⟩⟩⟩⟩⟩;all_goals try and_intros
 all_goals try (first|with_reducible rfl|with_reducible assumption)
 all_goals try simp only[J.eta,ag.eta,au.eta,aJ,bm,bH] at *
 all_goals first|with_reducible rfl|with_reducible assumption|exact True.intro|(simp only[b3D,b3C,b3B,b3z] at *;done)|((try simp only[b3Y,J.eta,b3v,b3u,b3B,b3z,b3I,b3Q,ak,O,aY,b3J,b3G,b3T,b3M,b3R] at *);first|exact True.intro|omega|exact hp.1|exact hp.2|exact Er.mk (by omega)|((first|have Q:=a3l (p:=p) (q:=q) (by omega)|have Q:=(Er.mk (p:=p) (q:=q) (by omega)).n2 (by with_reducible assumption)|have Q:=(Er.mk (p:=p) (q:=q) (by omega)).n3 (by with_reducible assumption) (by omega));first|exact Q.1|exact Q.2|exact Q.1.symm|exact Q.2.symm)|exact (a4z p q).symm|exact a4z p q|(have B:N9 p q:=(by first|with_reducible assumption|exact⟨⟨by omega⟩,(by with_reducible assumption),by omega⟩);have PV:=ZR B.a.c;first|exact B|((have Q:=And.intro B.v B.c0);first|exact Q.1|exact Q.2|exact Q.1.symm|exact Q.2.symm)|exact B.v|exact B.c0|exact B.v.symm|exact B.c0.symm|(rw[B.v,a9S (by omega)];done)|(have:=a4A p q i2;have:=PV.2.1.ln;have:=PV.1.ln;omega)|(have:=f1 i2 (by omega);omega)|exact b0M PV.1.ln PV.2.1 (by omega)|(rw[b0K PV.2.1 (by omega),a4C (by omega)];done)|exact a4C (by omega)|omega)|omega)
def O6(a:Int):∀ (n:Nat) (i:Int),0<=i->i<(n:Int)->pA (rV a n) i=a+i
 | 0,i,h0,h1=>by omega
 | n+1,i,h0,h1=>by
  have hl:=Ij a n;unfold pA;rw[Z4,List.getD_eq_getElem?_getD];by_cases e:i.toNat<n
  .rw[b5l (show i.toNat<(rV a n).length by rw[hl];exact e),<-b3N];exact O6 a n i h0 (by omega)
  .have e2:i.toNat=n:=by omega
   rw[e2,b4V (by omega),hl,Nat.sub_self];show a+(n:Int)=a+i;omega
def a8y(a:Int)(n:Nat)(i:Int)(h:¬ (0<=i/\i<(n:Int)))(ha:0<=a):0<=pA (rV a n) i/\pA (rV a n) i<=a+n:=by
 by_cases h0:i<0
 .unfold pA;rw[show i.toNat=0 by omega];cases n with
  | zero=>exact⟨Int.le_refl 0,by show (0:Int)<=a+0;omega⟩
  | succ n =>
   have:=O6 a (n+1) 0 (by omega) (by omega);unfold pA at this;rw[show (0:Int).toNat=0 from rfl] at this;rw[this];omega
 .unfold pA;rw[List.getD_eq_getElem?_getD,List.getElem?_eq_none (by rw[Ij];omega)];exact⟨Int.le_refl 0,by show (0:Int)<=a+n;omega⟩
def b0v{a:Int}{n:Nat}(ha:0<=a)(h:a+n<=1000)(i:Int):0<=pA (rV a n) i/\pA (rV a n) i<=1000:=by
 by_cases hi:0<=i/\i<(n:Int)
 .rw[O6 a n i hi.1 hi.2];omega
 .have:=a8y a n i hi ha;omega
def a6L(f:Nat->Bool):∀ n,Tq f n=n->∀ k,k<n->f k=true
 | 0,_,k,hk=>by omega
 | n+1,h,k,hk=>by
  rw[Tq] at h;have h1:=Z5 f n;by_cases e:Tq f n<n
  .rw[b4d e] at h;omega
  .rw[b3H e] at h;by_cases e2:f n=true
   .rcases b4y k n with g|g
    .exact a6L f n (by omega) k g
    .rw[show k=n by omega];exact e2
   .rw[b3H e2] at h;omega
def b2E{q:aj}(h:Ch q=true){k:Nat}(hk:k<q.af.length):ic q (k:Int)=true:=by
 unfold Ch zR at h;simp only[decide_eq_true_eq] at h;have:=Z5 (λ k=>ic q (k:Int)) q.af.length;exact a6L (λ k=>ic q (k:Int)) q.af.length (by omega) k hk
def a7I(p:aj)(k:Int):∀ n,Yi p k n=true->∀ i,i<n->oY k ((c7 p k).steps.getD i (U.mk 0 false [] [] [])).use=true
 | 0,_,i,hi=>by omega
 | n+1,h,i,hi=>by
  rw[Yi,b3A,b3v] at h;rcases b4y i n with g|g
  .exact a7I p k n h.1 i g
  .have e:i=n:=by omega
   subst e;have h2:=h.2;unfold iQ at h2;cases hu:oY k ((c7 p k).steps.getD i (U.mk 0 false [] [] [])).use
   .rw[hu] at h2;simp at h2
   .rfl
def a7R{q:aj}(hv:mo q)(h:Ch q=true){k:Nat}(hk:k<q.af.length) :
  (¬ (q.af.getD k (ag.mk zE zE (0:Int) (0:Int) [])).aH=1->0<=(q.af.getD k (ag.mk zE zE (0:Int) (0:Int) [])).ref/\(q.af.getD k (ag.mk zE zE (0:Int) (0:Int) [])).ref<(k:Int))/\∀ i,i<(q.af.getD k (ag.mk zE zE (0:Int) (0:Int) [])).steps.length -> -40<=((q.af.getD k (ag.mk zE zE (0:Int) (0:Int) [])).steps.getD i (U.mk (0:Int) false [] [] [])).use /\ -1 - ((q.af.getD k (ag.mk zE zE (0:Int) (0:Int) [])).steps.getD i (U.mk (0:Int) false [] [] [])).use<(q.af.length:Int)/\(((q.af.getD k (ag.mk zE zE (0:Int) (0:Int) [])).steps.getD i (U.mk (0:Int) false [] [] [])).use<0 -> -1 - ((q.af.getD k (ag.mk zE zE (0:Int) (0:Int) [])).steps.getD i (U.mk (0:Int) false [] [] [])).use<(k:Int)):=by
 have hs:=b2E h hk;obtain⟨h1,h2,h3,h4,h5,h6⟩:=hv.st hk;unfold ic at hs;rw[show c7 q (k:Int)=q.af.getD k (ag.mk zE zE (0:Int) (0:Int) []) from rfl] at hs;by_cases hr:(q.af.getD k (ag.mk zE zE (0:Int) (0:Int) [])).aH=1
 .rw[if_pos hr,Bool.and_eq_true] at hs;refine⟨λ e=>absurd hr e,λ i hi=>?_⟩;have:=a7I q k _ hs.1 i hi;rw[show c7 q (k:Int)=q.af.getD k (ag.mk zE zE (0:Int) (0:Int) []) from rfl] at this;unfold oY at this;simp only[Bool.or_eq_true,decide_eq_true_eq] at this;refine⟨h6 i hi,?_,λ hu=>?_⟩
  .rcases this with this|this
   .omega
   .exact Int.lt_trans this (by omega)
  .rcases this with this|this
   .exact absurd hu (Int.not_lt.2 this)
   .exact this
 .rw[b3H hr,b3A,b3v] at hs;refine⟨λ _=>⟨h2.1,hs.1⟩,λ i hi=>?_⟩;have:=h5 hr;omega
def a4B{p q:aj}(hp:p.af.length<=40)(hv:mo q)(h:Ch q=true){k:Nat}(hk:k<q.af.length):MvP (rV (p.af.length:Int) q.af.length) (q.af.getD k (ag.mk zE zE (0:Int) (0:Int) [])):=by
 obtain⟨h1,h2⟩:=a7R hv h hk;have hl:=Ij (p.af.length:Int) q.af.length;have hq:=hv.ln;refine⟨λ e=>?_,λ i hi=>?_,λ i=>b0v (by omega) (by omega) i⟩
 .have:=h1 e;rw[hl];omega
 .have:=h2 i hi;rw[hl];exact⟨by omega,this.2.1⟩
def a8K{p q:aj}(hv:mo q)(h:Ch q=true){k:Nat}(hk:k<q.af.length):WV (pA (rV (p.af.length:Int) q.af.length)) (q.af.getD k (ag.mk zE zE (0:Int) (0:Int) []))=WV (vL p) (q.af.getD k (ag.mk zE zE (0:Int) (0:Int) [])):=by
 obtain⟨h1,h2⟩:=a7R hv h hk;have g:∀ i,0<=i->i<(q.af.length:Int)->pA (rV (p.af.length:Int) q.af.length) i=vL p i:=λ i a b=>by
  rw[O6 _ _ i a b];unfold vL;omega
 unfold WV;have e1:Qc (pA (rV (p.af.length:Int) q.af.length)) (q.af.getD k (ag.mk zE zE (0:Int) (0:Int) []))=Qc (vL p) (q.af.getD k (ag.mk zE zE (0:Int) (0:Int) [])):=by
  by_cases hr:(q.af.getD k (ag.mk zE zE (0:Int) (0:Int) [])).aH=1
  .rw[a0t hr,a0t hr]
  .rw[a0s hr,a0s hr];have:=h1 hr;exact g _ this.1 (by omega)
 have e2:(q.af.getD k (ag.mk zE zE (0:Int) (0:Int) [])).steps.map (oQ (pA (rV (p.af.length:Int) q.af.length)))=(q.af.getD k (ag.mk zE zE (0:Int) (0:Int) [])).steps.map (oQ (vL p)):=by
  refine List.map_congr_left λ s hs=>?_;obtain⟨i,hi,rfl⟩:=List.getElem_of_mem hs;have:=h2 i hi;rw[List.getD_eq_getElem?_getD,List.getElem?_eq_getElem hi,Option.getD_some] at this;unfold oQ Uk;by_cases hu:(q.af.getD k (ag.mk zE zE (0:Int) (0:Int) [])).steps[i].use<0
  .rw[b4d hu,b4d hu,g _ (by omega) (by omega)]
  .rw[b3H hu,b3H hu]
 rw[e1,e2]
def a3m(p q:aj):wO [p,q]=if dz p=true/\dz q=true then (if rp p=0/\rp q=0 then 0 else 8) else 1:=by
 unfold wO rp;simp only[bp,Bool.and_true];cases dz p<;>cases dz q<;>cases Ch p<;>cases Ch q<;>rfl
def a7n{p q:aj}(h:dz p=false\/dz q=false):jnN p q 1:=by
 have e:wO [p,q]=1:=by rw[a3m,b3H];rcases h with h|h<;>rw[h]<;>simp
 have:=a3l (p:=p) (q:=q) (by rw[e];decide);rwa [e] at this
def b0J{p q:aj}(h1:dz p=true)(h2:dz q=true)(h:¬ rp p=0\/¬ rp q=0):jnN p q 8:=by
 have e:wO [p,q]=8:=by rw[a3m,b4d ⟨h1,h2⟩,b3H (λ g=>h.elim (λ a=>a g.1) λ a=>a g.2)]
 have:=a3l (p:=p) (q:=q) (by rw[e];decide);rwa [e] at this
def b0I{p q:aj}(h1:dz p=true)(h2:dz q=true)(h3:rp p=0)(h4:rp q=0):Er p q:=⟨by rw[a3m,b4d ⟨h1,h2⟩,b4d ⟨h3,h4⟩]⟩
structure XH(p q:aj):Prop where
 a:dz p=true
 b:dz q=true
def XH.c8{p q:aj}(g:XH p q)(h:¬ rp p=0\/¬ rp q=0):jnN p q 8:=b0J g.a g.b h
def XH.c0{p q:aj}(g:XH p q)(h3:rp p=0)(h4:rp q=0):Er p q:=b0I g.a g.b h3 h4
def nH:aL:=⟨ze,[.v (.st .proof), .v (.st .proof)],λ (p:aj) (q:aj)=>⟨(some (bN p<=1048576/\bN q<=1048576),[⟨(.st .proof),jD p q⟩,⟨(.int .i64),qI p q⟩])⟩⟩
def K7(p:aj)(q:aj):Nat->az:=(cP 100003 (.u (XH p q) [0,1] [] [4] [] (cP 100005 (.u (Er p q) [] [] [4] [] (cP 0 (.a (Nat) (λ i=>N9 p q/\i<=q.af.length) (λ i=>q.af.length - i) [2,23,24,25,26,27,29,30,31,32,33,34,35,36,38,39,40,41,42,43,44,45] (λ i=>[(8, .aF ⟨(.int .i64),((i:Int):Int)⟩),(7, .aw 4500)]) [4] (λ i=>[(6, .box [.aF ⟨(.int .i64),(p.sig.av:Int)⟩, .aF ⟨(.int .i64),(p.sig.bc:Int)⟩, .aw 2200]),(2200, .aw (.st .claim) (uS p q i:List ag)),(4500, .aw (.int .i64) (rV (p.af.length:Int) q.af.length:List Int))])) bI)) bI)) bI)
abbrev qV(p:aj)(q:aj):Prop:=(∃ u1:Unit,(XH p q/\((p=p/\(q=q/\(True/\True)))/\(((0:Int)=(0:Int)/\((0:Int)=(0:Int)/\(True/\True)))/\True))))
abbrev qW(p:aj)(q:aj):Prop:=(∃ u2:Unit,(Er p q/\((p=p/\(q=q/\(True/\True)))/\(((0:Int)=(0:Int)/\((0:Int)=(0:Int)/\(True/\True)))/\True))))
def Fq:aL.cS nH:=by
 refine⟨ar vU,?_⟩;intro (p:aj) (q:aj) (hp:bN p<=1048576/\bN q<=1048576);refine bX [B3,Gj] [Gt,DM,Bd] [] [] [38,45,60,61,62] [] [] [2,3] ⟨Dd,MT,ae⟩ ⟨NG,Le,Jv,ae⟩ trivial trivial vU G9 (K7 p q) (let v0:=(p.af.length:Int);let v1:=(q.af.length:Int);let v2:=(0:Int);let v3:=aj.mk (aU.mk v2 v2) [];let v4:=ag.mk zE zE v2 v2 [];let v5:=rV v0 q.af.length;let v6 := !(decide (p.sig.av=q.sig.av)&&(decide (p.sig.bc=q.sig.bc)&&true));let v7:=p.sig.av=p.sig.av/\(p.sig.bc=p.sig.bc/\(True/\True));let v8:=(6:Nat)=6/\(2:Nat)=2;let v9:=(v2=v2/\(v2=v2/\(True/\True)))/\True;let va:=v3=(jD p q)/\(1:Int)=(qI p q);let vb:=v3=(jD p q)/\(8:Int)=(qI p q);let vc:=decide ((40:Int)<((v0)+v1));(((((!(dz p))=false->(((!(dz q))=true->va)/\((!(dz q))=false->(qV p q))))/\((!(dz p))=(!false)->((true=true->va)/\(true=false->(qV p q)))))/\(∀ u1:Unit,(XH p q->((O (rp p)->(((!(decide ((rp p)=v2)))=false->(O (rp q)->(((!(decide ((rp q)=v2)))=true->vb)/\((!(decide ((rp q)=v2)))=false->(qW p q)))))/\((!(decide ((rp p)=v2)))=(!false)->((true=true->vb)/\(true=false->(qW p q))))))/\(∀ u2:Unit,(Er p q->((v6=true->(v3=(jD p q)/\(2:Int)=(qI p q)))/\(v6=false->(p.af.length<=140737488355328->(O (v0)->(q.af.length<=140737488355328->(O v1->(O ((v0)+v1)/\((vc=true->(v3=(jD p q)/\(3:Int)=(qI p q)))/\(vc=false->(bN p<=1048576/\(p.af.length<=140737488355328->(O (v0)->(q.af.length<=140737488355328->(O v1->((0<=(v0)/\(v0)<=1000/\0<=v1/\v1<=1000)/\((∃ i3:Nat,((N9 p q/\i3<=q.af.length)/\((q=q/\(True/\(True/\(True/\(v2=(i3:Int)/\True)))))/\(v7/\(p.af=(uS p q i3)/\((rV (v0) v1.toNat)=v5/\v9))))))/\(∀ i3:Nat,let vd:=q.af.getD i3 v4;let ve:=(i3:Int);let vf:=[(kz (WV (pA v5) vd))];((N9 p q/\i3<=q.af.length)->(q.af.length<=140737488355328->(O v1->(((decide (ve<v1))=true->(q.af.length<=140737488355328->(O ve->(ak ve q.af.length/\(v8/\((2200:Nat)=2200/\(q.af=q.af/\(q.af=q.af/\(ve=ve/\(ak ve q.af.length/\(vd=vd/\((4500:Nat)=4500/\((bz vd<=1048576/\MvP v5 vd)/\(v8/\((2200:Nat)=2200/\(v8/\((2200:Nat)=2200/\(aY ((uS p q i3).length+vf.length) 120/\(O (ve+(1:Int))/\(∃ i4:Nat,((N9 p q/\i4<=q.af.length)/\(q.af.length - i4<q.af.length - i3/\((q=q/\(True/\(True/\(True/\((ve+(1:Int))=(i4:Int)/\True)))))/\(v7/\(((uS p q i3)++vf)=(uS p q i4)/\(v5=v5/\v9))))))))))))))))))))))))))/\((decide (ve<v1))=false->((aj.mk (aU.mk p.sig.av p.sig.bc) (uS p q i3))=(jD p q)/\v2=(qI p q)))))))))))))))))))))))))))))))) ?_;have f1:=λ i (h:i<q.af.length)=>dK bz (ag.mk zE zE (0:Int) (0:Int) []) q.af i h;have g1:=fJ q;refine⟨⟨λ _=>⟨λ _=>⟨?_,?_⟩,λ _=>⟨(),?_,⟨rfl,rfl,ae,ae⟩,⟨rfl,rfl,ae,ae⟩,ae⟩⟩,λ _=>⟨λ _=>⟨?_,?_⟩,λ _=>⟨(),?_,⟨rfl,rfl,ae,ae⟩,⟨rfl,rfl,ae,ae⟩,ae⟩⟩⟩,λ u1 _=>⟨λ _=>⟨λ _ _=>⟨λ _=>⟨?_,?_⟩,λ _=>⟨(),?_,⟨rfl,rfl,ae,ae⟩,⟨rfl,rfl,ae,ae⟩,ae⟩⟩,λ _=>⟨λ _=>⟨?_,?_⟩,λ _=>⟨(),?_,⟨rfl,rfl,ae,ae⟩,⟨rfl,rfl,ae,ae⟩,ae⟩⟩⟩,λ u2 _=>⟨λ _=>⟨?_,?_⟩,λ _ _ _ _ _=>⟨?_,λ _=>⟨?_,?_⟩,λ _=>⟨?_,λ _ _ _ _=>⟨?_,⟨0,?_,⟨rfl,ae,ae,ae,?_,ae⟩,⟨rfl,rfl,ae,ae⟩,?_,?_,⟨rfl,rfl,ae,ae⟩,ae⟩,λ i3 _ _ _=>⟨λ _ _ _=>⟨?_,⟨?_,?_⟩,?_,rfl,rfl,rfl,?_,rfl,?_,?_,⟨?_,?_⟩,?_,⟨?_,?_⟩,?_,?_,?_,i3+1,?_,?_,⟨rfl,ae,ae,ae,?_,ae⟩,⟨rfl,rfl,ae,ae⟩,?_,rfl,⟨rfl,rfl,ae,ae⟩,ae⟩,λ _=>⟨?_,?_⟩⟩⟩⟩⟩⟩⟩⟩;all_goals try and_intros
 all_goals try (first|with_reducible rfl|with_reducible assumption)
 all_goals try simp only[J.eta,ag.eta,au.eta,aJ,bm,bH] at *
 all_goals first|with_reducible rfl|with_reducible assumption|exact True.intro|(simp only[b3D,b3C,b3B,b3z] at *;done)|((try simp only[b3Y,J.eta,b3v,b3u,b3B,b3z,b3I,b3Q,ak,O,aY,b3J,b3G,b3T,b3M,b3R] at *);first|exact True.intro|omega|exact hp.1|exact hp.2|exact⟨(by with_reducible assumption)⟩|exact⟨(by with_reducible assumption),(by with_reducible assumption)⟩|((first|have Q:=a7n (p:=p) (q:=q) (.inl (by with_reducible assumption))|have Q:=a7n (p:=p) (q:=q) (.inr (by with_reducible assumption))|have Q:=XH.c8 (p:=p) (q:=q) (by with_reducible assumption) (.inl (by with_reducible assumption))|have Q:=XH.c8 (p:=p) (q:=q) (by with_reducible assumption) (.inr (by with_reducible assumption))|have Q:=Er.n2 (p:=p) (q:=q) (by with_reducible assumption) (by with_reducible assumption)|have Q:=Er.n3 (p:=p) (q:=q) (by with_reducible assumption) (by with_reducible assumption) (by omega));first|exact Q.1|exact Q.2|exact Q.1.symm|exact Q.2.symm)|exact XH.c0 (by with_reducible assumption) (by with_reducible assumption) (by with_reducible assumption)|(rw[b3O];done)|(simp only[b3O];done)|exact (a4z p q).symm|exact a4z p q|(have A:Er p q:=(by with_reducible assumption);have PV:=ZR A.c;first|exact PV.1|exact PV.2.1|exact PV.2.2.1|(have:=PV.2.1.ln;have:=PV.1.ln;omega)|(have:=PV.2.1.ln;have:=PV.1.ln;simp only[b3O];omega))|(have B:N9 p q:=(by first|with_reducible assumption|exact⟨(by with_reducible assumption),(by with_reducible assumption),by omega⟩);have PV:=ZR B.a.c;first|exact B|((have Q:=And.intro B.v B.c0);first|exact Q.1|exact Q.2|exact Q.1.symm|exact Q.2.symm)|exact B.v|exact B.c0|exact B.v.symm|exact B.c0.symm|(rw[B.v,a9S (by omega)];done)|(have:=a4A p q i3;have:=PV.2.1.ln;have:=PV.1.ln;omega)|(have:=PV.2.1.ln;have:=PV.1.ln;omega)|(have:=f1 i3 (by omega);omega)|exact⟨by have:=f1 i3 (by omega);omega,a4B PV.1.ln PV.2.1 PV.2.2.2 (by omega)⟩|exact a4B PV.1.ln PV.2.1 PV.2.2.2 (by omega)|(rw[a8K PV.2.1 PV.2.2.2 (by omega),a4C (by omega)];done)|exact a4C (by omega))|omega)
def Hi:aL.Good nH:=Fq.plain
end
end Go.Proofs.YtmjfpcajohhbeaaGreatDoor

set_option maxRecDepth 4000
set_option maxHeartbeats 4000000
namespace Go.Proofs.YtmjfpcajohhbeaaGreatDoor
noncomputable section
mutual
def a5j:∀ x:J,bh x=2+2 * aB x
 | ⟨k,n,ks⟩=>by
  have:=Ms ks;simp only[bh,aB,this,Fw]
def Ms:∀ xs:List J,BJ xs=2 * (xs.length+aG aB xs)
 | []=>by simp[BJ,aG]
 | x::xs=>by
  have h1:=a5j x;have h2:=Ms xs;simp only[BJ,aG,b3G,h1,h2];omega
end
def Q0(xs:List J):aG bh xs=2 * (xs.length+aG aB xs):=by
 have:=Ms xs;rwa [C0] at this
def a1d(x:J):aG bh x.M=2 * aB x:=by rw[Q0,jO]
def ZT(x:U):aD x<=2+2 * aX x:=by
 rw[ll,gL,Q0,Q0];omega
def Lp:∀ xs:List U,aG aD xs<=2 * (xs.length+aG aX xs)
 | []=>by simp[aG]
 | x::xs=>by
  have h1:=ZT x;have h2:=Lp xs;simp only[aG,b3G];omega
def XL(x:ag):aE x<=6+2 * bz x:=by
 have:=Lp x.steps;rw[sJ,gB,a1d,a1d];omega
def H7:∀ xs:List ag,aG aE xs<=6 * (xs.length+aG bz xs)
 | []=>by simp[aG]
 | x::xs=>by
  have h1:=XL x;have h2:=H7 xs;simp only[aG,b3G];omega
def BK(p:aj):aG aE p.af<=6 * bN p:=by
 have:=H7 p.af;rw[fJ];omega
def a4H(F:Int->Int):∀ xs:List U,aG aX (xs.map (oQ F))=aG aX xs
 | []=>rfl
 | x::xs=>by rw[b4o,aG,aG,a4H F xs];rfl
def a4G(F:Int->Int):∀ xs:List ag,aG bz (xs.map (WV F))=aG bz xs
 | []=>rfl
 | x::xs=>by
  rw[b4o,aG,aG,a4G F xs,gB,gB];show _+_+((x.steps.map (oQ F)).length+aG aX (x.steps.map (oQ F)))+_=_;rw[a4H,b3M];rfl
def a8J(p q:aj)(h1:bN p<=1048576)(h2:bN q<=1048576):bN (jD p q)<=8388608:=by
 unfold jD;split
 .rw[fJ] at h1 h2 ⊢;simp only[uS,b5N,a2q,a4G,b3J,b3M];omega
 .rw[fJ];simp[aG]
def zV:aL:=⟨ij,[.v (.st .proof), .v (.st .proof)],λ (p:aj) (q:aj)=>⟨(none,[⟨.bool,true⟩])⟩⟩
def zW(p:aj)(q:aj):Nat->az:=bI
abbrev lr(p:aj)(q:aj):Prop:=((decide ((nC aE bG (1:Int) (aj.mk (jD p q).sig ((aj.mk (jD p q).sig (iJ aE bG (1:Int) (jD p q).af))).af).af)<(0:Int)))=true ->
 false=true)
abbrev lu(p:aj)(q:aj):Prop:=((!(decide ((nC aE bG (1:Int) (aj.mk (jD p q).sig ((aj.mk (jD p q).sig (iJ aE bG (1:Int) (jD p q).af))).af).af)=((1:Int)+(aG aE (jD p q).af:Int)))))=true ->
 false=true)
abbrev wT(p:aj)(q:aj):Prop:=(let v0:=aj.mk (jD p q).sig ((aj.mk (jD p q).sig (iJ aE bG (1:Int) (jD p q).af))).af;let v1:=nC aE bG (1:Int) v0.af;((0<=(1:Int)/\(1:Int)+(aG aE v0.af:Int)<=4611686018427387904)/\(O v1 ->
 ((lr p q)/\((decide (v1<(0:Int)))=false ->
 ((lu p q)/\((!(decide (v1=((1:Int)+(aG aE (jD p q).af:Int)))))=false ->
 true=true)))))))
abbrev lv(p:aj)(q:aj):Prop:=(let v2:=jD p q;let v3:=(1:Int);let v0:=aj.mk v2.sig ((aj.mk v2.sig (iJ aE bG v3 v2.af))).af;let v1:=nC aE bG v3 v0.af;let v4 := !(decide ((qI p q)=(qI p q)));let v5:=wT p q;let v6:=(aG aE v2.af:Int);((0<=v3/\v3+v6<=4611686018427387904)/\((0<=v3/\v3+(aG aE v0.af:Int)<=4611686018427387904)/\(O v1 ->
 ((lr p q)/\((decide (v1<(0:Int)))=false ->
 ((lu p q)/\((!(decide (v1=(v3+v6))))=false ->
 (p=p/\(q=q/\(bN p<=1048576/\(q=q/\(bN q<=1048576/\((bN p<=1048576/\bN q<=1048576)/\(O (qI p q) ->
 (((!(bF v2 v2))=false ->
 ((v4=true ->
 false=true)/\(v4=false ->
 v5)))/\((!(bF v2 v2))=(!false) ->
 ((true=true ->
 false=true)/\(true=false ->
 v5)))))))))))))))))))
abbrev wU(p:aj)(q:aj):Prop:=(let v0 := !(decide ((qI p q)=(qI p q)));((v0=true ->
 false=true)/\(v0=false ->
 (lv p q))))
abbrev wV(p:aj)(q:aj):Prop:=(let v0:=(1:Int)+(aG aE p.af:Int);let v1:=decide ((v0+(aG aE q.af:Int))<(0:Int));let v2:=wU p q;let v3:=lv p q;(bN p<=1048576/\(((!(bF p p))=true ->
 false=true)/\((!(bF p p))=false ->
 (bN q<=1048576/\(((!(bF q q))=true ->
 false=true)/\((!(bF q q))=false ->
 ((0<=(1:Int)/\(1:Int)+(aG aE p.af:Int)<=4611686018427387904)/\((0<=v0/\v0+(aG aE q.af:Int)<=4611686018427387904)/\((v1=false ->
 (((!(bF (jD p q) (jD p q)))=false ->
 v2)/\((!(bF (jD p q) (jD p q)))=(!false) ->
 ((true=true ->
 false=true)/\(true=false ->
 v3)))))/\(v1=(!false) ->
 ((true=false ->
 v2)/\(true=(!false) ->
 ((true=true ->
 false=true)/\(true=false ->
 v3)))))))))))))))
def uM:aL.Good zV:=by
 refine⟨ar lK,?_⟩;intro (p:aj) (q:aj) _;refine W9 [Gb,Ge,F8,A5,nH] [DL,wz] [yT] [] [42,66,69,85,99,36,38] [] [] [2,3] ⟨MJ,MN,MG,Ip,Hi,ae⟩ ⟨Ld,Fp,ae⟩ ⟨Hw,ae⟩ trivial lK uc (zW p q) (let v0:=fk (bN p) (1048576:Int);let v1:=bN p<=1048576/\bN q<=1048576;let v2:=decide ((fk (bN q) v0)<(0:Int));let v3 := !(decide ((qI p q)=(qI p q)));let v4:=wV p q;(((0<=(1048576:Int)/\(1048576:Int)<=1048576)/\(O v0->(((decide (v0<(0:Int)))=true->true=true)/\((decide (v0<(0:Int)))=false->((0<=v0/\v0<=1048576)/\(O (fk (bN q) v0)->((v2=true->true=true)/\(v2=false->(p=p/\(q=q/\(bN p<=1048576/\(q=q/\(bN q<=1048576/\(v1/\(O (qI p q)->(bN p<=1048576/\(bN q<=1048576/\(v1/\(O (qI p q)->(((!(bF (jD p q) (jD p q)))=false->((v3=true->false=true)/\(v3=false->v4)))/\((!(bF (jD p q) (jD p q)))=(!false)->((true=true->false=true)/\(true=false->v4))))))))))))))))))))))))) ?_;have f0:=dX (bN p) 1048576;have f1:=dX (bN q) (fk (bN p) 1048576);have f3:=BK p;have f4:=BK q;have f6:=BK (jD p q);have f7:=a8J p q;have f8:=a3e 1 (jD p q).af;have f9:=(UG aE bG a4F a1a 1 (jD p q).af).2;refine⟨?_,λ _=>⟨λ _=>rfl,λ _=>⟨?_,λ _=>⟨λ _=>rfl,λ _=>⟨rfl,rfl,?_,rfl,?_,?_,λ _=>⟨?_,?_,?_,λ _=>⟨λ _=>⟨λ _=>?_,λ _=>⟨?_,λ _=>?_,λ _=>⟨?_,λ _=>?_,λ _=>⟨?_,?_,λ _=>⟨λ _=>⟨λ _=>?_,λ _=>⟨?_,?_,λ _=>⟨λ _=>?_,λ _=>⟨λ _=>?_,λ _=>⟨rfl,rfl,?_,rfl,?_,?_,λ _=>⟨λ _=>⟨λ _=>?_,λ _=>⟨?_,λ _=>⟨λ _=>?_,λ _=>⟨λ _=>?_,λ _=>rfl⟩⟩⟩⟩,λ _=>⟨λ _=>?_,λ _=>⟨?_,λ _=>⟨λ _=>?_,λ _=>⟨λ _=>?_,λ _=>rfl⟩⟩⟩⟩⟩⟩⟩⟩⟩⟩,λ _=>⟨λ _=>?_,λ _=>⟨?_,?_,λ _=>⟨λ _=>?_,λ _=>⟨λ _=>?_,λ _=>⟨rfl,rfl,?_,rfl,?_,?_,λ _=>⟨λ _=>⟨λ _=>?_,λ _=>⟨?_,λ _=>⟨λ _=>?_,λ _=>⟨λ _=>?_,λ _=>rfl⟩⟩⟩⟩,λ _=>⟨λ _=>?_,λ _=>⟨?_,λ _=>⟨λ _=>?_,λ _=>⟨λ _=>?_,λ _=>rfl⟩⟩⟩⟩⟩⟩⟩⟩⟩⟩⟩,λ _=>⟨λ _=>⟨λ _=>?_,λ _=>⟨?_,?_,λ _=>⟨λ _=>?_,λ _=>⟨λ _=>?_,λ _=>⟨rfl,rfl,?_,rfl,?_,?_,λ _=>⟨λ _=>⟨λ _=>?_,λ _=>⟨?_,λ _=>⟨λ _=>?_,λ _=>⟨λ _=>?_,λ _=>rfl⟩⟩⟩⟩,λ _=>⟨λ _=>?_,λ _=>⟨?_,λ _=>⟨λ _=>?_,λ _=>⟨λ _=>?_,λ _=>rfl⟩⟩⟩⟩⟩⟩⟩⟩⟩⟩,λ _=>⟨λ _=>?_,λ _=>⟨?_,?_,λ _=>⟨λ _=>?_,λ _=>⟨λ _=>?_,λ _=>⟨rfl,rfl,?_,rfl,?_,?_,λ _=>⟨λ _=>⟨λ _=>?_,λ _=>⟨?_,λ _=>⟨λ _=>?_,λ _=>⟨λ _=>?_,λ _=>rfl⟩⟩⟩⟩,λ _=>⟨λ _=>?_,λ _=>⟨?_,λ _=>⟨λ _=>?_,λ _=>⟨λ _=>?_,λ _=>rfl⟩⟩⟩⟩⟩⟩⟩⟩⟩⟩⟩⟩⟩⟩⟩,λ _=>⟨λ _=>?_,λ _=>⟨?_,λ _=>?_,λ _=>⟨?_,λ _=>?_,λ _=>⟨?_,?_,λ _=>⟨λ _=>⟨λ _=>?_,λ _=>⟨?_,?_,λ _=>⟨λ _=>?_,λ _=>⟨λ _=>?_,λ _=>⟨rfl,rfl,?_,rfl,?_,?_,λ _=>⟨λ _=>⟨λ _=>?_,λ _=>⟨?_,λ _=>⟨λ _=>?_,λ _=>⟨λ _=>?_,λ _=>rfl⟩⟩⟩⟩,λ _=>⟨λ _=>?_,λ _=>⟨?_,λ _=>⟨λ _=>?_,λ _=>⟨λ _=>?_,λ _=>rfl⟩⟩⟩⟩⟩⟩⟩⟩⟩⟩,λ _=>⟨λ _=>?_,λ _=>⟨?_,?_,λ _=>⟨λ _=>?_,λ _=>⟨λ _=>?_,λ _=>⟨rfl,rfl,?_,rfl,?_,?_,λ _=>⟨λ _=>⟨λ _=>?_,λ _=>⟨?_,λ _=>⟨λ _=>?_,λ _=>⟨λ _=>?_,λ _=>rfl⟩⟩⟩⟩,λ _=>⟨λ _=>?_,λ _=>⟨?_,λ _=>⟨λ _=>?_,λ _=>⟨λ _=>?_,λ _=>rfl⟩⟩⟩⟩⟩⟩⟩⟩⟩⟩⟩,λ _=>⟨λ _=>⟨λ _=>?_,λ _=>⟨?_,?_,λ _=>⟨λ _=>?_,λ _=>⟨λ _=>?_,λ _=>⟨rfl,rfl,?_,rfl,?_,?_,λ _=>⟨λ _=>⟨λ _=>?_,λ _=>⟨?_,λ _=>⟨λ _=>?_,λ _=>⟨λ _=>?_,λ _=>rfl⟩⟩⟩⟩,λ _=>⟨λ _=>?_,λ _=>⟨?_,λ _=>⟨λ _=>?_,λ _=>⟨λ _=>?_,λ _=>rfl⟩⟩⟩⟩⟩⟩⟩⟩⟩⟩,λ _=>⟨λ _=>?_,λ _=>⟨?_,?_,λ _=>⟨λ _=>?_,λ _=>⟨λ _=>?_,λ _=>⟨rfl,rfl,?_,rfl,?_,?_,λ _=>⟨λ _=>⟨λ _=>?_,λ _=>⟨?_,λ _=>⟨λ _=>?_,λ _=>⟨λ _=>?_,λ _=>rfl⟩⟩⟩⟩,λ _=>⟨λ _=>?_,λ _=>⟨?_,λ _=>⟨λ _=>?_,λ _=>⟨λ _=>?_,λ _=>rfl⟩⟩⟩⟩⟩⟩⟩⟩⟩⟩⟩⟩⟩⟩⟩⟩⟩⟩⟩⟩⟩⟩;all_goals try and_intros
 all_goals first|rfl|trivial|omega|(simp only[b3v,b3u,ak,O,bS,cB,bJ,aY] at *;omega)|(simp[ak,O] at *;omega)|grind|(simp_all;done)|(simp_all;omega)
def Fc:∀ QK:List TV,QK.map TV.τ=[(.st .proof),(.st .proof)]->gp prog ij (QK.map .val) (·=[⟨.bool,true⟩]):=by
 intro QK h;match QK,h with
 | [⟨t0,a0⟩,⟨t1,a1⟩],h =>
  simp only[b4o,b5q,b3F,b3L] at h;obtain⟨rfl,rfl⟩:=h;exact uM.2 a0 a1 trivial
end
end Go.Proofs.YtmjfpcajohhbeaaGreatDoor

/- VmPf20, VmCAddinst. -/
import Derived.Test.YtmjfpcajohhbeaaGreatDoorVmPf19
set_option linter.all false
set_option maxRecDepth 4000
set_option maxHeartbeats 4000000
namespace Go.Proofs.YtmjfpcajohhbeaaGreatDoor
noncomputable section
def C9(p:aj)(ts as_:List J):Bool := !(ec p&&(bg (bW p.sig) ts&&bg (bW p.sig) as_))
def Ii(p:aj)(k:Int)(ts as_:List J):Bool := !(decide ((bM [(bJ p k).left,(bJ p k).right]).1=(ts.length:Int))&&decide ((bM [(bJ p k).left,(bJ p k).right]).2=(as_.length:Int)))
def vC(p:aj)(k:Int)(ts as_:List J):Bool := !(bW p.sig (cQ ts as_ (bJ p k).left)&&(bW p.sig (cQ ts as_ (bJ p k).right)&&decide (p.ai.length<40)))
def yW(p:aj)(k:Int)(ts as_:List J):Int:=bif C9 p ts as_ then 1 else if ¬ BL p=0 then 8 else if ¬ (0<=k/\k<=(p.ai.length:Int) - 1) then 2 else bif Ii p k ts as_ then 2 else bif !bg bh ts then 4 else bif vC p k ts as_ then 3 else 0
def aiX(p:aj)(k:Int)(ts as_:List J):ag:=ag.mk (cQ ts as_ (bJ p k).left) (cQ ts as_ (bJ p k).right) 1 0 [ae.mk (-1 - k) false [] ts as_]
def vD(p:aj)(k:Int)(ts as_:List J):aj:=if yW p k ts as_=0 then aj.mk p.sig (p.ai++[aiX p k ts as_]) else (aj.mk (aT.mk (0:Int) (0:Int)) [])
abbrev aiN(p:aj)(k:Int)(ts as_:List J)(c:Int):Prop:=vD p k ts as_=(aj.mk (aT.mk (0:Int) (0:Int)) [])/\yW p k ts as_=c
def aiN.mk{p:aj}{k:Int}{ts as_:List J}{c:Int}(h:yW p k ts as_=c)(h2:¬ c=0):aiN p k ts as_ c:=⟨by unfold vD;rw[if_neg (by rw[h];exact h2)],h⟩
structure YJ(p:aj)(ts as_:List J):Prop where
 v:ec p=true
 t:bg (bW p.sig) ts=true
 a:bg (bW p.sig) as_=true
def Rx{p:aj}{ts as_:List J}(h:ec p=false\/bg (bW p.sig) ts=false\/bg (bW p.sig) as_=false):C9 p ts as_=true:=by
 unfold C9;rcases h with h|h|h<;>rw[h]<;>simp
def YJ.b{p:aj}{ts as_:List J}(h:YJ p ts as_):C9 p ts as_=false:=by unfold C9;rw[h.v,h.t,h.a];rfl
def a0z{p:aj}{ts as_:List J}(h:C9 p ts as_=false):YJ p ts as_:=by
 unfold C9 at h;simp only[Bool.not_eq_false',Bool.and_eq_true] at h;exact⟨h.1,h.2.1,h.2.2⟩
def a9y{p:aj}{k:Int}{ts as_:List J}(h:C9 p ts as_=true):aiN p k ts as_ 1 := .mk (by unfold yW;rw[h];rfl) (by decide)
def YJ.n8{p:aj}{k:Int}{ts as_:List J}(h:YJ p ts as_)(h2:¬ BL p=0):aiN p k ts as_ 8 := .mk (by unfold yW;rw[h.b,cond_false,if_pos h2]) (by decide)
def YJ.c8{p:aj}{ts as_:List J}(h:YJ p ts as_)(h2:¬ BL p=0):BL p=8:=by
 unfold BL at h2 ⊢;rw[h.v] at h2 ⊢;cases hs:Vw p<;>rw[hs] at h2
 .rfl
 .exact absurd rfl h2
structure AiB(p:aj)(k:Int)(ts as_:List J):Prop where
 x:YJ p ts as_
 c:BL p=0
def AiB.n2{p:aj}{k:Int}{ts as_:List J}(h:AiB p k ts as_)(h2:¬ (0<=k/\k<=(p.ai.length:Int) - 1)):aiN p k ts as_ 2 := .mk (by unfold yW;rw[h.x.b,cond_false,if_neg (by rw[h.c];exact λ q=>q rfl),if_pos h2]) (by decide)
structure wE(p:aj)(k:Int)(ts as_:List J):Prop where
 x:AiB p k ts as_
 k0:0<=k
 k1:k<=(p.ai.length:Int) - 1
def wE.c{p:aj}{k:Int}{ts as_:List J}(h:wE p k ts as_):yW p k ts as_=bif Ii p k ts as_ then 2 else bif !bg bh ts then 4 else bif vC p k ts as_ then 3 else 0:=by
 unfold yW;rw[h.x.x.b,cond_false,if_neg (by rw[h.x.c];exact λ q=>q rfl),if_neg (λ q=>q ⟨h.k0,h.k1⟩)]
def wE.n2{p:aj}{k:Int}{ts as_:List J}(h:wE p k ts as_)(h2:Ii p k ts as_=true):aiN p k ts as_ 2 := .mk (by rw[h.c,h2];rfl) (by decide)
def wE.pv{p:aj}{k:Int}{ts as_:List J}(h:wE p k ts as_):sB p:=⟨h.x.x.v⟩
def wE.t{p:aj}{k:Int}{ts as_:List J}(h:wE p k ts as_):bc 62 62 (bJ p k).left=true/\bc 62 62 (bJ p k).right=true:=h.pv.t h.k0 (by have:=h.k1;omega)
def wE.b0h{p:aj}{k:Int}{ts as_:List J}(h:wE p k ts as_):aL (bJ p k).left<=500/\aL (bJ p k).right<=500:=by
 have e:=h.pv.e h.k0 (by have:=h.k1;omega);have h1:=(rk p.sig _).1 e.1;have h2:=(rk p.sig _).1 e.2.1;exact⟨by have:=h1.2.1;omega,by have:=h2.2.1;omega⟩
def wE.top{p:aj}{k:Int}{ts as_:List J}(h:wE p k ts as_):(bM [(bJ p k).left,(bJ p k).right]).1<=63/\(bM [(bJ p k).left,(bJ p k).right]).2<=63:=by
 have h1:=Fm _ h.t.1;have h2:=Fm _ h.t.2;simp only[bM];omega
def Ry{p:aj}{k:Int}{ts as_:List J}(h:¬ (bM [(bJ p k).left,(bJ p k).right]).1=(ts.length:Int)\/¬ (bM [(bJ p k).left,(bJ p k).right]).2=(as_.length:Int)):Ii p k ts as_=true:=by
 unfold Ii;rcases h with h|h<;>rw[decide_eq_false h]<;>simp
structure AiD(p:aj)(k:Int)(ts as_:List J):Prop where
 x:wE p k ts as_
 t:(bM [(bJ p k).left,(bJ p k).right]).1=(ts.length:Int)
 a:(bM [(bJ p k).left,(bJ p k).right]).2=(as_.length:Int)
def a6K{p:aj}{k:Int}{ts as_:List J}(t:(bM [(bJ p k).left,(bJ p k).right]).1=(ts.length:Int))(a:(bM [(bJ p k).left,(bJ p k).right]).2=(as_.length:Int)):Ii p k ts as_=false:=by unfold Ii;rw[decide_eq_true t,decide_eq_true a];rfl
def wE.d{p:aj}{k:Int}{ts as_:List J}(h:wE p k ts as_)(h2:Ii p k ts as_=false):AiD p k ts as_:=by
 unfold Ii at h2;simp only[Bool.not_eq_false',Bool.and_eq_true,decide_eq_true_eq] at h2;exact⟨h,h2.1,h2.2⟩
def AiD.n4{p:aj}{k:Int}{ts as_:List J}(h:AiD p k ts as_)(h2:bg bh ts=false):aiN p k ts as_ 4 := .mk (by rw[h.x.c,a6K h.t h.a,h2];rfl) (by decide)
structure sP(p:aj)(k:Int)(ts as_:List J):Prop where
 x:AiD p k ts as_
 c:bg bh ts=true
def sP.cc{p:aj}{k:Int}{ts as_:List J}(h:sP p k ts as_):yW p k ts as_=bif vC p k ts as_ then 3 else 0:=by rw[h.x.x.c,a6K h.x.t h.x.a,h.c];rfl
def sP.n3{p:aj}{k:Int}{ts as_:List J}(h:sP p k ts as_)(h2:vC p k ts as_=true):aiN p k ts as_ 3 := .mk (by rw[h.cc,h2];rfl) (by decide)
def sP.fl{p:aj}{k:Int}{ts as_:List J}(h:sP p k ts as_):Ig ts as_ :=
 ⟨λ y hy=>rl p.sig y (qh _ _ h.x.x.x.x.t y hy),λ y hy=>rl p.sig y (qh _ _ h.x.x.x.x.a y hy)⟩
def sP.len{p:aj}{k:Int}{ts as_:List J}(h:sP p k ts as_):ts.length<=1000/\as_.length<=1000:=by
 have h1:=h.x.x.top;have h2:=h.x.t;have h3:=h.x.a;omega
def sP.fits{p:aj}{k:Int}{ts as_:List J}(h:sP p k ts as_):eV ts as_ (bJ p k).left/\eV ts as_ (bJ p k).right :=
 EB (q:=ar.mk (bJ p k).left (bJ p k).right) (s:=ae.mk 0 false [] ts as_) h.x.t h.x.a
def sP.su{p:aj}{k:Int}{ts as_:List J}(h:sP p k ts as_):Zi p.sig (bJ p k).left ts as_/\Zi p.sig (bJ p k).right ts as_ :=
 have f:=DW.of h.x.x.x.x.t h.x.x.x.x.a
 ⟨⟨h.x.x.pv.sg,h.fits.1,h.x.x.t.1,f,h.x.x.b0h.1⟩,h.x.x.pv.sg,h.fits.2,h.x.x.t.2,f,h.x.x.b0h.2⟩
def a0A{p:aj}{k:Int}{ts as_:List J}(h:bW p.sig (cQ ts as_ (bJ p k).left)=false\/bW p.sig (cQ ts as_ (bJ p k).right)=false\/¬ p.ai.length<40):vC p k ts as_=true:=by
 unfold vC;rcases h with h|h|h
 .rw[h];rfl
 .rw[h];simp
 .rw[b3Q h];simp
def b0s{p:aj}{k:Int}{ts as_:List J}(h1:bW p.sig (cQ ts as_ (bJ p k).left)=true)(h2:bW p.sig (cQ ts as_ (bJ p k).right)=true)(h3:p.ai.length<40):vC p k ts as_=false:=by
 unfold vC;rw[h1,h2,decide_eq_true h3];rfl
structure AiF(p:aj)(k:Int)(ts as_:List J):Prop where
 x:sP p k ts as_
 l:bW p.sig (cQ ts as_ (bJ p k).left)=true
 r:bW p.sig (cQ ts as_ (bJ p k).right)=true
 n:p.ai.length<40
def sP.f{p:aj}{k:Int}{ts as_:List J}(h:sP p k ts as_)(h2:vC p k ts as_=false):AiF p k ts as_:=by
 unfold vC at h2;simp only[Bool.not_eq_false',Bool.and_eq_true,decide_eq_true_eq] at h2;exact⟨h,h2.1,h2.2.1,h2.2.2⟩
def AiF.go{p:aj}{k:Int}{ts as_:List J}(h:AiF p k ts as_):vD p k ts as_=aj.mk p.sig (p.ai++[aiX p k ts as_])/\yW p k ts as_=0:=by
 have e:yW p k ts as_=0:=by rw[h.x.cc,b0s h.l h.r h.n];rfl
 exact⟨by unfold vD;rw[if_pos e],e⟩
def a3g{p:aj}{k:Int}{ts as_:List J}(t:(bM [(bJ p k).left,(bJ p k).right]).1=(ts.length:Int)):Ii p k ts as_ = !decide ((bM [(bJ p k).left,(bJ p k).right]).2=(as_.length:Int)):=by unfold Ii;rw[decide_eq_true t,Bool.true_and]
def a6J{p:aj}{k:Int}{ts as_:List J}(t:(ts.length:Int)=(bM [(bJ p k).left,(bJ p k).right]).1):Ii p k ts as_ = !decide ((as_.length:Int)=(bM [(bJ p k).left,(bJ p k).right]).2):=by
 rw[a3g t.symm];by_cases e:(as_.length:Int)=(bM [(bJ p k).left,(bJ p k).right]).2
 .rw[b4l e,b4l e.symm]
 .rw[b3Q e,b3Q (λ q=>e q.symm)]
def sP.d40{p:aj}{k:Int}{ts as_:List J}(h:sP p k ts as_)(h1:bW p.sig (cQ ts as_ (bJ p k).left)=true)(h2:bW p.sig (cQ ts as_ (bJ p k).right)=true):vC p k ts as_=decide ((p.ai.length:Int)=40)/\vC p k ts as_=decide ((40:Int)<=(p.ai.length:Int)):=by
 have:=h.x.x.pv.ln;unfold vC;rw[h1,h2];by_cases e:p.ai.length<40
 .rw[b4l e,b3Q (by omega),b3Q (by omega)];exact⟨rfl,rfl⟩
 .rw[b3Q e,b4l (by omega),b4l (by omega)];exact⟨rfl,rfl⟩
def AiF.gi{p:aj}{k:Int}{ts as_:List J}(h:AiF p k ts as_):gn p.sig (bJ p k).left ts as_=cQ ts as_ (bJ p k).left/\gn p.sig (bJ p k).right ts as_=cQ ts as_ (bJ p k).right:=⟨(R8 h.l).1,(R8 h.r).1⟩
def AiF.gs{p:aj}{k:Int}{ts as_:List J}(h:AiF p k ts as_):zk (bJ p k).left ts as_=cQ ts as_ (bJ p k).left/\zk (bJ p k).right ts as_=cQ ts as_ (bJ p k).right:=⟨Kt h.l,Kt h.r⟩
def mM:aH:=⟨ot,[.v (.st .proof), .v (.int .i64), .v (.slice (.st .expr)), .v (.slice (.st .expr))],λ (p:aj) (k:Int) (ts:List J) (as_:List J)=>⟨(some (cB p<=1048576/\ts.length+aF av ts<=1048576/\as_.length+aF av as_<=1048576),[⟨(.st .proof),vD p k ts as_⟩,⟨(.int .i64),yW p k ts as_⟩])⟩⟩
def Jn(p:aj)(k:Int)(ts:List J)(as_:List J):Nat->aE:=(λ zb=>if Nat.beq zb 100002 then .mk (Unit) (λ u=>True) (λ u=>0) [] [0,9] (λ u=>[(35, .aI ⟨.bool,(C9 p ts as_:Bool)⟩)]) [8] (λ u=>[]) [] [] (λ u=>λ _ => .none) else if Nat.beq zb 100011 then .mk (Unit) (λ u=>wE p k ts as_) (λ u=>0) [] [10,12,13,35,37,38,39,40,41,44,45,46,47,48,49,50,52,53,54,55,56,57,58,59,60,61,62,63,64,65] (λ u=>[(75, .aI ⟨.bool,(Ii p k ts as_:Bool)⟩)]) [8,11] (λ u=>[]) [] [] (λ u=>λ _ => .none) else if Nat.beq zb 100017 then .mk (Unit) (λ u=>sP p k ts as_) (λ u=>0) [] [11,15,17,75,77,78,79,81,82,83,84,85,86,87,88,89,90,91,92,93,94,95,96,97,98,99,100] (λ u=>[(112, .aI ⟨.bool,(vC p k ts as_:Bool)⟩)]) [8] (λ u=>[(14, .box [.aI ⟨(.int .i64),((gn p.sig (bJ p k).left ts as_).aq:Int)⟩, .aI ⟨(.int .i64),((gn p.sig (bJ p k).left ts as_).aM:Int)⟩, .aw 900]),(900, .aw (.st .expr) ((gn p.sig (bJ p k).left ts as_).M:List J)),(16, .box [.aI ⟨(.int .i64),((gn p.sig (bJ p k).right ts as_).aq:Int)⟩, .aI ⟨(.int .i64),((gn p.sig (bJ p k).right ts as_).aM:Int)⟩, .aw 1300]),(1300, .aw (.st .expr) ((gn p.sig (bJ p k).right ts as_).M:List J))]) [] [] (λ u=>λ _ => .none) else .none)
abbrev Gd(p:aj)(k:Int)(ts:List J)(as_:List J):Prop:=(∃ u1:Unit,(True/\((k=k/\(ts=ts/\(as_=as_/\(p=p/\(True/\((!(bg (bW p.sig) as_&&bK p.sig))=(C9 p ts as_)/\True))))))/\(((0:Int)=(0:Int)/\((0:Int)=(0:Int)/\(True/\True)))/\True))))
abbrev Ge(p:aj)(k:Int)(ts:List J)(as_:List J):Prop:=(∃ u1:Unit,(True/\((k=k/\(ts=ts/\(as_=as_/\(p=p/\(True/\(true=(C9 p ts as_)/\True))))))/\(((0:Int)=(0:Int)/\((0:Int)=(0:Int)/\(True/\True)))/\True))))
abbrev rA(p:aj)(k:Int):Prop:=(let v1:=(0:Int);let v0:=p.ai.getD (Int.toNat k) (ag.mk zE zE v1 v1 []);((v0.left.aq=v0.left.aq/\(v0.left.aM=v0.left.aM/\(v0.left.M=v0.left.M/\(v0.right.aq=v0.right.aq/\(v0.right.aM=v0.right.aM/\(v0.right.M=v0.right.M/\(v0.bp=v0.bp/\(v0.ref=v0.ref/\(v0.steps=v0.steps/\True)))))))))/\((v1=v1/\(v1=v1/\(True/\True)))/\True)))
abbrev rB(p:aj)(k:Int)(ts:List J)(as_:List J):Prop:=(let v3:=gn p.sig (bJ p k).right ts as_;let v4:=gn p.sig (bJ p k).left ts as_;let v5:=(0:Int);let v0:=p.ai.getD (Int.toNat k) (ag.mk zE zE v5 v5 []);let v1:=gn p.sig (aJ v0.right) ts as_;let v2:=gn p.sig (aJ v0.left) ts as_;((v2.aq=(v4.aq)/\(v2.aM=(v4.aM)/\(True/\True)))/\(v2.M=(v4.M)/\((v1.aq=(v3.aq)/\(v1.aM=(v3.aM)/\(True/\True)))/\(v1.M=(v3.M)/\((v5=v5/\(v5=v5/\(True/\True)))/\True))))))
abbrev Gf(p:aj)(k:Int)(ts:List J)(as_:List J):Prop:=(p.ai.length<=140737488355328 ->
 (O ((p.ai.length:Int)) ->
 (∃ u3:Unit,(sP p k ts as_/\((k=k/\(ts=ts/\(as_=as_/\(p=p/\(True/\(True/\(True/\((decide (((p.ai.length:Int))=(40:Int)))=(vC p k ts as_)/\True))))))))/\(rB p k ts as_))))))
abbrev Gg(p:aj)(k:Int)(ts:List J)(as_:List J):Prop:=(∃ u3:Unit,(sP p k ts as_/\((k=k/\(ts=ts/\(as_=as_/\(p=p/\(True/\(True/\(True/\(true=(vC p k ts as_)/\True))))))))/\(rB p k ts as_))))
abbrev kx(p:aj)(k:Int)(ts:List J)(as_:List J):Prop:=(let v0:=gn p.sig (bJ p k).left ts as_;((v0.aq)=(v0.aq)/\((v0.aM)=(v0.aM)/\((900:Nat)=900/\True))))
abbrev ky(p:aj)(k:Int)(ts:List J)(as_:List J):Prop:=(let v0:=gn p.sig (bJ p k).right ts as_;((v0.aq)=(v0.aq)/\((v0.aM)=(v0.aM)/\((1300:Nat)=1300/\True))))
abbrev rC(p:aj)(k:Int)(ts:List J)(as_:List J):Prop:=(let v1:=(18:Nat)=18/\(2:Nat)=2;let v2:=gn p.sig (bJ p k).right ts as_;let v3:=kx p k ts as_;let v4:=ky p k ts as_;let v5:=gn p.sig (bJ p k).left ts as_;let v0:=[(ag.mk (J.mk (v5.aq) (v5.aM) (v5.M)) (J.mk (v2.aq) (v2.aM) (v2.M)) (1:Int) (0:Int) ([(ae.mk ((-1:Int) - k) false [] ts as_)]))];let v6:=(11602:Nat);(v1/\(v6=11602/\(v3/\(v4/\(v1/\(v6=11602/\(v3/\(v4/\(v1/\(v6=11602/\(v3/\(v4/\(v1/\(v6=11602/\(v1/\(v6=11602/\(aY (p.ai.length+v0.length) 120/\((aj.mk p.sig (p.ai++v0))=(vD p k ts as_)/\(0:Int)=(yW p k ts as_))))))))))))))))))))
abbrev Gi(p:aj)(k:Int)(ts:List J)(as_:List J):Prop:=(((18:Nat)=18/\(2:Nat)=2)/\((11602:Nat)=11602/\((kx p k ts as_)/\((ky p k ts as_)/\(as_=as_/\(as_.length+aF av as_<=1048576/\(rC p k ts as_)))))))
def H8(hE:aC [kz,gU,tA,fb,rG,hU])(hO:cO [iG,pO,kF])(hM:cT [])(hS:cR []):aH.bX mM:=by
 refine⟨au vE rfl (by decide),?_⟩;show ∀ (p:aj) (k:Int) (ts:List J) (as_:List J),(cB p<=1048576/\ts.length+aF av ts<=1048576/\as_.length+aF av as_<=1048576)->cY prog ot [.val ⟨(.st .proof),p⟩, .val ⟨(.int .i64),k⟩, .val ⟨(.slice (.st .expr)),ts⟩, .val ⟨(.slice (.st .expr)),as_⟩] [⟨(.st .proof),vD p k ts as_⟩,⟨(.int .i64),yW p k ts as_⟩];intro p k ts as_ hp;refine cj (own:=[88,98,115,123,125,127,129,130]) (wr:=[]) (cl:=[]) (ro:=[4]) hE hO hM hS vE FB (Jn p k ts as_) (let v3:=(18:Nat)=18/\(2:Nat)=2;let v5:=kx p k ts as_;let v6:=ky p k ts as_;let va:=vD p k ts as_;let vb:=yW p k ts as_;let vc:=(0:Int);let v0:=p.ai.getD (Int.toNat k) (ag.mk zE zE vc vc []);let v2:=aj.mk (aT.mk vc vc) [];let v8:=aJ v0.right;let vd:=(p.ai.length:Int);let v7 := !(decide (vc<=k/\k<=(vd - (1:Int))));let vf:=Ii p k ts as_;let vg:=aJ v0.left;let v1:=ar.mk vg v8;let v4:=bM [v1.left,v1.right];let v9:=mA p.sig vg ts as_;let ve := !(decide ((v4.1)=((ts.length:Int))));let vh := !(decide ((mA p.sig v8 ts as_)=vc));let vi := !(bg (bW p.sig) ts&&bK p.sig);let vj:=Gd p k ts as_;let vk:=Ge p k ts as_;let vl:=Gf p k ts as_;let vm:=Gg p k ts as_;let vn:=Gi p k ts as_;let vo:=(11602:Nat);let vp := !false;(((((!(ec p))=false->((vi=false->vj)/\(vi=vp->vk)))/\((!(ec p))=vp->((true=false->vj)/\(true=vp->vk))))/\(∀ u1:Unit,(True->(((C9 p ts as_)=true->(v2=va/\(1:Int)=vb))/\((C9 p ts as_)=false->(O (FJ ([p]))->(((!(decide ((FJ ([p]))=vc)))=true->(v2=va/\(FJ ([p]))=vb))/\((!(decide ((FJ ([p]))=vc)))=false->(p.ai.length<=140737488355328->(O vd->(O (vd - (1:Int))/\(((v7=true)->(v2=va/\(2:Int)=vb))/\((v7=false)->(p.ai.length<=140737488355328->(ak k p.ai.length/\((bc 62 62 v1.left=true/\bc 62 62 v1.right=true)/\(O (v4.1)->(O (v4.2)->((O ((ts.length:Int))->((ve=false->(O ((as_.length:Int))->(∃ u2:Unit,(wE p k ts as_/\((k=k/\(ts=ts/\(as_=as_/\(p=p/\(True/\(True/\((!(decide ((v4.2)=((as_.length:Int)))))=vf/\True)))))))/\(rA p k))))))/\(ve=vp->(∃ u2:Unit,(wE p k ts as_/\((k=k/\(ts=ts/\(as_=as_/\(p=p/\(True/\(True/\(true=vf/\True)))))))/\(rA p k)))))))/\(∀ u2:Unit,(wE p k ts as_->((vf=true->(v2=va/\(2:Int)=vb))/\(vf=false->(((!(bg bh ts))=true->(v2=va/\(4:Int)=vb))/\((!(bg bh ts))=false->((eV ts as_ vg/\bc 62 62 vg=true/\Ig ts as_/\ts.length<=1000/\as_.length<=1000)/\(O v9->((eV ts as_ v8/\bc 62 62 v8=true/\Ig ts as_/\ts.length<=1000/\as_.length<=1000)/\(O (mA p.sig v8 ts as_)->((((!(decide (v9=vc)))=false->((vh=false->vl)/\(vh=vp->vm)))/\((!(decide (v9=vc)))=vp->((true=false->vl)/\(true=vp->vm))))/\(∀ u3:Unit,(sP p k ts as_->(((vC p k ts as_)=true->(v2=va/\(3:Int)=vb))/\((vC p k ts as_)=false->(cB p<=1048576/\(O k->(ts.length<=140737488355328->(as_.length<=140737488355328->(v3/\(vo=11602/\(v5/\(v6/\(k=k/\(ts=ts/\(as_=as_/\((O ((-1:Int) - k)/\(v3/\(vo=11602/\(v5/\(v6/\(ts=ts/\(as_=as_/\(ts.length+aF av ts<=1048576/\vn))))))))/\((ts.length+aF av ts<=1048576/\(v3/\(vo=11602/\(v5/\(v6/\(k=k/\(as_=as_/\((O ((-1:Int) - k)/\vn)/\((as_.length+aF av as_<=1048576/\(v3/\(vo=11602/\(v5/\(v6/\(k=k/\(O ((-1:Int) - k)/\(rC p k ts as_))))))))/\True)))))))))/\True))))))))))))))))))))))))))))))))))))))))))))))))) (by kernel_rfl) ?_;refine⟨⟨λ _=>⟨λ _=>⟨(),?_,⟨rfl,rfl,rfl,rfl,U,?_,U⟩,⟨rfl,rfl,U,U⟩,U⟩,λ _=>⟨(),?_,⟨rfl,rfl,rfl,rfl,U,?_,U⟩,⟨rfl,rfl,U,U⟩,U⟩⟩,λ _=>⟨λ _=>⟨(),?_,⟨rfl,rfl,rfl,rfl,U,?_,U⟩,⟨rfl,rfl,U,U⟩,U⟩,λ _=>⟨(),?_,⟨rfl,rfl,rfl,rfl,U,?_,U⟩,⟨rfl,rfl,U,U⟩,U⟩⟩⟩,λ u1 _=>⟨λ _=>⟨?_,?_⟩,λ _ _=>⟨λ _=>⟨?_,?_⟩,λ _ _ _=>⟨?_,λ _=>⟨?_,?_⟩,λ _ _=>⟨?_,?_,λ _ _=>⟨λ _=>⟨λ _ _=>⟨(),?_,⟨rfl,rfl,rfl,rfl,U,U,?_,U⟩,⟨rfl,rfl,rfl,rfl,rfl,rfl,rfl,rfl,rfl,U⟩,⟨rfl,rfl,U,U⟩,U⟩,λ _=>⟨(),?_,⟨rfl,rfl,rfl,rfl,U,U,?_,U⟩,⟨rfl,rfl,rfl,rfl,rfl,rfl,rfl,rfl,rfl,U⟩,⟨rfl,rfl,U,U⟩,U⟩⟩,λ u2 _=>⟨λ _=>⟨?_,?_⟩,λ _=>⟨λ _=>⟨?_,?_⟩,λ _=>⟨?_,λ _=>⟨?_,λ _=>⟨⟨λ _=>⟨λ _ _ _=>⟨(),?_,⟨rfl,rfl,rfl,rfl,U,U,U,?_,U⟩,⟨?_,?_,U,U⟩,?_,⟨?_,?_,U,U⟩,?_,⟨rfl,rfl,U,U⟩,U⟩,λ _=>⟨(),?_,⟨rfl,rfl,rfl,rfl,U,U,U,?_,U⟩,⟨?_,?_,U,U⟩,?_,⟨?_,?_,U,U⟩,?_,⟨rfl,rfl,U,U⟩,U⟩⟩,λ _=>⟨λ _ _ _=>⟨(),?_,⟨rfl,rfl,rfl,rfl,U,U,U,?_,U⟩,⟨?_,?_,U,U⟩,?_,⟨?_,?_,U,U⟩,?_,⟨rfl,rfl,U,U⟩,U⟩,λ _=>⟨(),?_,⟨rfl,rfl,rfl,rfl,U,U,U,?_,U⟩,⟨?_,?_,U,U⟩,?_,⟨?_,?_,U,U⟩,?_,⟨rfl,rfl,U,U⟩,U⟩⟩⟩,λ u3 _=>⟨λ _=>⟨?_,?_⟩,λ _=>⟨?_,λ _ _ _=>⟨⟨?_,?_⟩,?_,⟨rfl,rfl,?_,?_⟩,⟨rfl,rfl,?_,?_⟩,rfl,rfl,rfl,⟨?_,⟨?_,?_⟩,?_,⟨rfl,rfl,?_,?_⟩,⟨rfl,rfl,?_,?_⟩,rfl,rfl,?_,⟨?_,?_⟩,?_,⟨rfl,rfl,?_,?_⟩,⟨rfl,rfl,?_,?_⟩,rfl,?_,⟨?_,?_⟩,?_,⟨rfl,rfl,?_,?_⟩,⟨rfl,rfl,?_,?_⟩,⟨?_,?_⟩,?_,⟨rfl,rfl,?_,?_⟩,⟨rfl,rfl,?_,?_⟩,⟨?_,?_⟩,?_,⟨rfl,rfl,?_,?_⟩,⟨rfl,rfl,?_,?_⟩,⟨?_,?_⟩,?_,⟨?_,?_⟩,?_,?_,?_,?_⟩,⟨?_,⟨?_,?_⟩,?_,⟨rfl,rfl,?_,?_⟩,⟨rfl,rfl,?_,?_⟩,rfl,rfl,⟨?_,⟨?_,?_⟩,?_,⟨rfl,rfl,?_,?_⟩,⟨rfl,rfl,?_,?_⟩,rfl,?_,⟨?_,?_⟩,?_,⟨rfl,rfl,?_,?_⟩,⟨rfl,rfl,?_,?_⟩,⟨?_,?_⟩,?_,⟨rfl,rfl,?_,?_⟩,⟨rfl,rfl,?_,?_⟩,⟨?_,?_⟩,?_,⟨rfl,rfl,?_,?_⟩,⟨rfl,rfl,?_,?_⟩,⟨?_,?_⟩,?_,⟨?_,?_⟩,?_,?_,?_,?_⟩,⟨?_,⟨?_,?_⟩,?_,⟨rfl,rfl,?_,?_⟩,⟨rfl,rfl,?_,?_⟩,rfl,?_,⟨?_,?_⟩,?_,⟨rfl,rfl,?_,?_⟩,⟨rfl,rfl,?_,?_⟩,⟨?_,?_⟩,?_,⟨rfl,rfl,?_,?_⟩,⟨rfl,rfl,?_,?_⟩,⟨?_,?_⟩,?_,⟨rfl,rfl,?_,?_⟩,⟨rfl,rfl,?_,?_⟩,⟨?_,?_⟩,?_,⟨?_,?_⟩,?_,?_,?_,?_⟩,U⟩,U⟩⟩⟩⟩⟩⟩⟩⟩⟩⟩⟩⟩⟩⟩;all_goals try and_intros
 all_goals try (first|with_reducible rfl|with_reducible assumption)
 all_goals try simp only[J.eta,ag.eta,ar.eta,aK,br,bG] at *
 all_goals first|with_reducible rfl|with_reducible assumption|exact True.intro|(simp only[Bool.true_eq_false,Bool.false_eq_true,Bool.not_true,Bool.not_false] at *;done)|((try simp only[List.nil_append,J.eta,decide_eq_true_eq,decide_eq_false_iff_not,Bool.not_true,Bool.not_false,Bool.not_eq_true',Bool.not_eq_false',ak,O,aY,List.length_append,List.length_cons,List.length_nil,List.length_map,List.length_take] at *)<;>(try simp only[Pr,a4M] at *)<;>first|with_reducible exact True.intro|omega|exact (sB.mk (by with_reducible assumption)).sg|exact hp.2.1|exact hp.2.2|exact hp.1|exact (Rx (.inl (by with_reducible assumption))).symm|(have sg:=(sB.mk (by with_reducible assumption)).sg;simp only[sg,Bool.and_true] at *;first|exact (Rx (.inr (.inl (by with_reducible assumption)))).symm|exact (Rx (.inr (.inr (by with_reducible assumption)))).symm|(unfold C9;simp only[*,Bool.and_true,Bool.true_and,Bool.not_true,Bool.not_false];done))|((have Q:=a9y (p:=p) (k:=k) (ts:=ts) (as_:=as_) (by with_reducible assumption));first|exact Q.1|exact Q.2|exact Q.1.symm|exact Q.2.symm)|(have A:YJ p ts as_:=a0z (by with_reducible assumption);first|exact (A.c8 (by with_reducible assumption)).trans (A.n8 (p:=p) (k:=k) (ts:=ts) (as_:=as_) (by with_reducible assumption)).2.symm|((first|have Q:=A.n8 (p:=p) (k:=k) (ts:=ts) (as_:=as_) (by with_reducible assumption)|have Q:=(AiB.mk A (by omega)).n2 (p:=p) (k:=k) (ts:=ts) (as_:=as_) (by with_reducible assumption));first|exact Q.1|exact Q.2|exact Q.1.symm|exact Q.2.symm)|exact⟨⟨A,by omega⟩,by omega,by omega⟩|exact⟨A.v⟩|(have C:wE p k ts as_:=(by first|with_reducible assumption|exact⟨(⟨a0z (by with_reducible assumption),by omega⟩:AiB p k ts as_),by omega,by omega⟩);first|exact C.t.1|exact C.t.2|(have:=C.k0;have:=C.k1;have:=C.pv.ln;omega)|exact (Ry (p:=p) (k:=k) (ts:=ts) (as_:=as_) (.inl (by with_reducible assumption))).symm|exact (Ry (p:=p) (k:=k) (ts:=ts) (as_:=as_) (.inr (by with_reducible assumption))).symm|exact (a3g (p:=p) (k:=k) (ts:=ts) (as_:=as_) (by with_reducible assumption)).symm|exact (a6J (p:=p) (k:=k) (ts:=ts) (as_:=as_) (by with_reducible assumption)).symm|exact (Ry (p:=p) (k:=k) (ts:=ts) (as_:=as_) (.inl (by omega))).symm|((first|have Q:=C.n2 (by with_reducible assumption)|have Q:=(C.d (by with_reducible assumption)).n4 (by with_reducible assumption));first|exact Q.1|exact Q.2|exact Q.1.symm|exact Q.2.symm)|exact⟨C.d (by with_reducible assumption),(by with_reducible assumption)⟩|(have E:sP p k ts as_:=(by first|with_reducible assumption|exact⟨C.d (by with_reducible assumption),(by with_reducible assumption)⟩);first|exact E.fits.1|exact E.fits.2|exact E.fl|exact E.len.1|exact E.len.2|((have Q:=E.n3 (by with_reducible assumption));first|exact Q.1|exact Q.2|exact Q.1.symm|exact Q.2.symm)|exact (E.d40 (Cs (by with_reducible assumption)).1 (Cs (by with_reducible assumption)).1).1.symm|exact (a0A (p:=p) (k:=k) (ts:=ts) (as_:=as_) (.inl (Xi (by with_reducible assumption)))).symm|exact (a0A (p:=p) (k:=k) (ts:=ts) (as_:=as_) (.inr (.inl (Xi (by with_reducible assumption))))).symm|(have F:=E.f (by with_reducible assumption);first|omega|(rw[F.gi.1,F.gi.2,F.go.1];rfl)|exact F.go.2.symm))))|omega)
def Fc:aH.bX mM:=H8 ⟨sL,ly,KX,eW,Ck,oH,U⟩ ⟨wu,H0,sO,U⟩ trivial trivial
def iH:aH:=⟨oC,[.v (.st .proof), .v (.int .i64), .v (.slice (.st .expr)), .v (.slice (.st .expr))],λ (p:aj) (k:Int) (ts:List J) (as_:List J)=>⟨(some (cB p<=1048576/\ts.length+aF av ts<=1048576/\as_.length+aF av as_<=1048576),[⟨(.st .proof),vD p k ts as_⟩,⟨(.int .i64),yW p k ts as_⟩])⟩⟩
def Jp(p:aj)(k:Int)(ts:List J)(as_:List J):Nat->aE:=(λ zb=>if Nat.beq zb 100002 then .mk (Unit) (λ u=>True) (λ u=>0) [] [0,9] (λ u=>[(34, .aI ⟨.bool,(C9 p ts as_:Bool)⟩)]) [8] (λ u=>[]) [] [] (λ u=>λ _ => .none) else if Nat.beq zb 100010 then .mk (Unit) (λ u=>wE p k ts as_) (λ u=>0) [] [11,12,34,36,37,39,40,41,42,43,44,45,47,48,49,50,51,52,53,54,55] (λ u=>[(65, .aI ⟨.bool,(Ii p k ts as_:Bool)⟩)]) [8,10] (λ u=>[]) [] [] (λ u=>λ _ => .none) else if Nat.beq zb 100016 then .mk (Unit) (λ u=>sP p k ts as_) (λ u=>0) [] [10,14,16,65,67,68,69,71,72,73,74,75,76,77,78,79,80,81,82,83,84,85,86,87,88] (λ u=>[(100, .aI ⟨.bool,(vC p k ts as_:Bool)⟩)]) [8] (λ u=>[(13, .box [.aI ⟨(.int .i64),((zk (bJ p k).left ts as_).aq:Int)⟩, .aI ⟨(.int .i64),((zk (bJ p k).left ts as_).aM:Int)⟩, .aw 900]),(900, .aw (.st .expr) ((zk (bJ p k).left ts as_).M:List J)),(15, .box [.aI ⟨(.int .i64),((zk (bJ p k).right ts as_).aq:Int)⟩, .aI ⟨(.int .i64),((zk (bJ p k).right ts as_).aM:Int)⟩, .aw 1300]),(1300, .aw (.st .expr) ((zk (bJ p k).right ts as_).M:List J))]) [] [] (λ u=>λ _ => .none) else .none)
abbrev Gj(p:aj)(k:Int)(ts:List J)(as_:List J):Prop:=(bK p.sig=true/\(∃ u1:Unit,(True/\((k=k/\(ts=ts/\(as_=as_/\(p=p/\(True/\((!(bg (bW p.sig) as_))=(C9 p ts as_)/\True))))))/\(((0:Int)=(0:Int)/\((0:Int)=(0:Int)/\(True/\True)))/\True)))))
abbrev Gk(p:aj)(k:Int)(ts:List J)(as_:List J):Prop:=(∃ u1:Unit,(True/\((k=k/\(ts=ts/\(as_=as_/\(p=p/\(True/\(true=(C9 p ts as_)/\True))))))/\(((0:Int)=(0:Int)/\((0:Int)=(0:Int)/\(True/\True)))/\True))))
abbrev rD(p:aj)(k:Int):Prop:=(let v2:=(0:Int);let v1:=p.ai.getD (Int.toNat k) (ag.mk zE zE v2 v2 []);let v0:=ar.mk v1.left v1.right;((v0.left.aq=v0.left.aq/\(v0.left.aM=v0.left.aM/\(v0.left.M=v0.left.M/\(v0.right.aq=v0.right.aq/\(v0.right.aM=v0.right.aM/\(v0.right.M=v0.right.M/\True))))))/\((v2=v2/\(v2=v2/\(True/\True)))/\True)))
abbrev rF(p:aj)(k:Int)(ts:List J)(as_:List J):Prop:=(let v4:=zk (bJ p k).right ts as_;let v5:=zk (bJ p k).left ts as_;let v6:=(0:Int);let v1:=p.ai.getD (Int.toNat k) (ag.mk zE zE v6 v6 []);let v0:=ar.mk v1.left v1.right;let v2:=zk (aJ v0.right) ts as_;let v3:=zk (aJ v0.left) ts as_;((v3.aq=(v5.aq)/\(v3.aM=(v5.aM)/\(True/\True)))/\(v3.M=(v5.M)/\((v2.aq=(v4.aq)/\(v2.aM=(v4.aM)/\(True/\True)))/\(v2.M=(v4.M)/\((v6=v6/\(v6=v6/\(True/\True)))/\True))))))
abbrev Gl(p:aj)(k:Int)(ts:List J)(as_:List J):Prop:=(p.ai.length<=140737488355328 ->
 (O ((p.ai.length:Int)) ->
 (∃ u3:Unit,(sP p k ts as_/\((k=k/\(ts=ts/\(as_=as_/\(p=p/\(True/\(True/\(True/\((decide ((40:Int)<=((p.ai.length:Int))))=(vC p k ts as_)/\True))))))))/\(rF p k ts as_))))))
abbrev Gm(p:aj)(k:Int)(ts:List J)(as_:List J):Prop:=(∃ u3:Unit,(sP p k ts as_/\((k=k/\(ts=ts/\(as_=as_/\(p=p/\(True/\(True/\(True/\(true=(vC p k ts as_)/\True))))))))/\(rF p k ts as_))))
def Ia(hE:aC [uN,nB,xM,gG,pK,o7,ib])(hO:cO [pb,xW,jj])(hM:cT [])(hS:cR []):aH.bX iH:=by
 refine⟨au vI rfl (by decide),?_⟩;show ∀ (p:aj) (k:Int) (ts:List J) (as_:List J),(cB p<=1048576/\ts.length+aF av ts<=1048576/\as_.length+aF av as_<=1048576)->cY prog oC [.val ⟨(.st .proof),p⟩, .val ⟨(.int .i64),k⟩, .val ⟨(.slice (.st .expr)),ts⟩, .val ⟨(.slice (.st .expr)),as_⟩] [⟨(.st .proof),vD p k ts as_⟩,⟨(.int .i64),yW p k ts as_⟩];intro p k ts as_ hp;refine cj (own:=[77,86,102,105,107,109,116,118,119]) (wr:=[]) (cl:=[]) (ro:=[4]) hE hO hM hS vI FI (Jp p k ts as_) (let v4:=vD p k ts as_;let v5:=yW p k ts as_;let v8:=zk (bJ p k).right ts as_;let v9:=zk (bJ p k).left ts as_;let va:=(0:Int);let v1:=[(ag.mk (J.mk (v9.aq) (v9.aM) (v9.M)) (J.mk (v8.aq) (v8.aM) (v8.M)) (1:Int) va ([(ae.mk ((-1:Int) - k) false [] ts as_)]))];let v2:=aj.mk (aT.mk va va) [];let v7:=p.ai.getD (Int.toNat k) (ag.mk zE zE va va []);let v0:=ar.mk v7.left v7.right;let vb:=(p.ai.length:Int);let v6 := !(decide (va<=k/\k<=(vb - (1:Int))));let vc := !(bW p.sig (cQ ts as_ (aJ v0.right)));let vd := !(bW p.sig (cQ ts as_ (aJ v0.left)));let vf:=Ii p k ts as_;let vg:=jU v0;let v3:=bM [vg.left,vg.right];let ve := !(decide (((ts.length:Int))=(v3.1)));let vh:=Gj p k ts as_;let vi:=Gk p k ts as_;let vj:=Gl p k ts as_;let vk:=Gm p k ts as_;let vl := !false;(((((!(ec p))=false->(bK p.sig=true/\(((!(bg (bW p.sig) ts))=false->vh)/\((!(bg (bW p.sig) ts))=vl->vi))))/\((!(ec p))=vl->((true=false->vh)/\(true=vl->vi))))/\(∀ u1:Unit,(True->(((C9 p ts as_)=true->(v2=v4/\(1:Int)=v5))/\((C9 p ts as_)=false->(O (BL p)->(((!(decide ((BL p)=va)))=true->(v2=v4/\(8:Int)=v5))/\((!(decide ((BL p)=va)))=false->(p.ai.length<=140737488355328->(O vb->(O (vb - (1:Int))/\(((v6=true)->(v2=v4/\(2:Int)=v5))/\((v6=false)->(p.ai.length<=140737488355328->(ak k p.ai.length/\((bc 62 62 vg.left=true/\bc 62 62 vg.right=true)/\(O (v3.1)->(O (v3.2)->((O ((ts.length:Int))->((ve=false->(O ((as_.length:Int))->(∃ u2:Unit,(wE p k ts as_/\((k=k/\(ts=ts/\(as_=as_/\(p=p/\(True/\(True/\((!(decide (((as_.length:Int))=(v3.2))))=vf/\True)))))))/\(rD p k))))))/\(ve=vl->(∃ u2:Unit,(wE p k ts as_/\((k=k/\(ts=ts/\(as_=as_/\(p=p/\(True/\(True/\(true=vf/\True)))))))/\(rD p k)))))))/\(∀ u2:Unit,(wE p k ts as_->((vf=true->(v2=v4/\(2:Int)=v5))/\(vf=false->(((!(bg bh ts))=true->(v2=v4/\(4:Int)=v5))/\((!(bg bh ts))=false->(Zi p.sig (aJ v0.left) ts as_/\(Zi p.sig (aJ v0.right) ts as_/\(((vd=false->((vc=false->vj)/\(vc=vl->vk)))/\(vd=vl->((true=false->vj)/\(true=vl->vk))))/\(∀ u3:Unit,(sP p k ts as_->(((vC p k ts as_)=true->(v2=v4/\(3:Int)=v5))/\((vC p k ts as_)=false->(cB p<=1048576/\(O ((-1:Int) - k)/\(ts.length+aF av ts<=1048576/\(as_.length+aF av as_<=1048576/\(aY (p.ai.length+v1.length) 120/\((aj.mk p.sig (p.ai++v1))=v4/\va=v5)))))))))))))))))))))))))))))))))))))))) (by kernel_rfl) ?_;refine⟨⟨λ _=>⟨?_,λ _=>⟨?_,(),?_,⟨rfl,rfl,rfl,rfl,U,?_,U⟩,⟨rfl,rfl,U,U⟩,U⟩,λ _=>⟨(),?_,⟨rfl,rfl,rfl,rfl,U,?_,U⟩,⟨rfl,rfl,U,U⟩,U⟩⟩,λ _=>⟨λ _=>⟨?_,(),?_,⟨rfl,rfl,rfl,rfl,U,?_,U⟩,⟨rfl,rfl,U,U⟩,U⟩,λ _=>⟨(),?_,⟨rfl,rfl,rfl,rfl,U,?_,U⟩,⟨rfl,rfl,U,U⟩,U⟩⟩⟩,λ u1 _=>⟨λ _=>⟨?_,?_⟩,λ _ _=>⟨λ _=>⟨?_,?_⟩,λ _ _ _=>⟨?_,λ _=>⟨?_,?_⟩,λ _ _=>⟨?_,?_,λ _ _=>⟨λ _=>⟨λ _ _=>⟨(),?_,⟨rfl,rfl,rfl,rfl,U,U,?_,U⟩,⟨rfl,rfl,rfl,rfl,rfl,rfl,U⟩,⟨rfl,rfl,U,U⟩,U⟩,λ _=>⟨(),?_,⟨rfl,rfl,rfl,rfl,U,U,?_,U⟩,⟨rfl,rfl,rfl,rfl,rfl,rfl,U⟩,⟨rfl,rfl,U,U⟩,U⟩⟩,λ u2 _=>⟨λ _=>⟨?_,?_⟩,λ _=>⟨λ _=>⟨?_,?_⟩,λ _=>⟨?_,?_,⟨λ _=>⟨λ _ _ _=>⟨(),?_,⟨rfl,rfl,rfl,rfl,U,U,U,?_,U⟩,⟨?_,?_,U,U⟩,?_,⟨?_,?_,U,U⟩,?_,⟨rfl,rfl,U,U⟩,U⟩,λ _=>⟨(),?_,⟨rfl,rfl,rfl,rfl,U,U,U,?_,U⟩,⟨?_,?_,U,U⟩,?_,⟨?_,?_,U,U⟩,?_,⟨rfl,rfl,U,U⟩,U⟩⟩,λ _=>⟨λ _ _ _=>⟨(),?_,⟨rfl,rfl,rfl,rfl,U,U,U,?_,U⟩,⟨?_,?_,U,U⟩,?_,⟨?_,?_,U,U⟩,?_,⟨rfl,rfl,U,U⟩,U⟩,λ _=>⟨(),?_,⟨rfl,rfl,rfl,rfl,U,U,U,?_,U⟩,⟨?_,?_,U,U⟩,?_,⟨?_,?_,U,U⟩,?_,⟨rfl,rfl,U,U⟩,U⟩⟩⟩,λ u3 _=>⟨λ _=>⟨?_,?_⟩,λ _=>⟨?_,?_,?_,?_,?_,?_,?_⟩⟩⟩⟩⟩⟩⟩⟩⟩⟩⟩;all_goals try and_intros
 all_goals try (first|with_reducible rfl|with_reducible assumption)
 all_goals try simp only[J.eta,ag.eta,ar.eta,aK,br,bG] at *
 all_goals first|with_reducible rfl|with_reducible assumption|exact True.intro|(simp only[Bool.true_eq_false,Bool.false_eq_true,Bool.not_true,Bool.not_false] at *;done)|((try simp only[List.nil_append,J.eta,decide_eq_true_eq,decide_eq_false_iff_not,Bool.not_true,Bool.not_false,Bool.not_eq_true',Bool.not_eq_false',ak,O,aY,List.length_append,List.length_cons,List.length_nil,List.length_map,List.length_take] at *)<;>(try simp only[Pr,a4M] at *)<;>first|with_reducible exact True.intro|omega|exact (sB.mk (by with_reducible assumption)).sg|exact hp.2.1|exact hp.2.2|exact hp.1|exact (Rx (.inl (by with_reducible assumption))).symm|(have sg:=(sB.mk (by with_reducible assumption)).sg;simp only[sg,Bool.and_true] at *;first|exact (Rx (.inr (.inl (by with_reducible assumption)))).symm|exact (Rx (.inr (.inr (by with_reducible assumption)))).symm|(unfold C9;simp only[*,Bool.and_true,Bool.true_and,Bool.not_true,Bool.not_false];done))|((have Q:=a9y (p:=p) (k:=k) (ts:=ts) (as_:=as_) (by with_reducible assumption));first|exact Q.1|exact Q.2|exact Q.1.symm|exact Q.2.symm)|(have A:YJ p ts as_:=a0z (by with_reducible assumption);first|exact (A.c8 (by with_reducible assumption)).trans (A.n8 (p:=p) (k:=k) (ts:=ts) (as_:=as_) (by with_reducible assumption)).2.symm|((first|have Q:=A.n8 (p:=p) (k:=k) (ts:=ts) (as_:=as_) (by with_reducible assumption)|have Q:=(AiB.mk A (by omega)).n2 (p:=p) (k:=k) (ts:=ts) (as_:=as_) (by with_reducible assumption));first|exact Q.1|exact Q.2|exact Q.1.symm|exact Q.2.symm)|exact⟨⟨A,by omega⟩,by omega,by omega⟩|exact⟨A.v⟩|(have C:wE p k ts as_:=(by first|with_reducible assumption|exact⟨(⟨a0z (by with_reducible assumption),by omega⟩:AiB p k ts as_),by omega,by omega⟩);first|exact C.t.1|exact C.t.2|(have:=C.k0;have:=C.k1;have:=C.pv.ln;omega)|exact (Ry (p:=p) (k:=k) (ts:=ts) (as_:=as_) (.inl (by with_reducible assumption))).symm|exact (Ry (p:=p) (k:=k) (ts:=ts) (as_:=as_) (.inr (by with_reducible assumption))).symm|exact (a3g (p:=p) (k:=k) (ts:=ts) (as_:=as_) (by with_reducible assumption)).symm|exact (a6J (p:=p) (k:=k) (ts:=ts) (as_:=as_) (by with_reducible assumption)).symm|exact (Ry (p:=p) (k:=k) (ts:=ts) (as_:=as_) (.inl (by omega))).symm|((first|have Q:=C.n2 (by with_reducible assumption)|have Q:=(C.d (by with_reducible assumption)).n4 (by with_reducible assumption));first|exact Q.1|exact Q.2|exact Q.1.symm|exact Q.2.symm)|exact⟨C.d (by with_reducible assumption),(by with_reducible assumption)⟩|(have E:sP p k ts as_:=(by first|with_reducible assumption|exact⟨C.d (by with_reducible assumption),(by with_reducible assumption)⟩);first|exact E.fits.1|exact E.fits.2|exact E.fl|exact E.len.1|exact E.len.2|((have Q:=E.n3 (by with_reducible assumption));first|exact Q.1|exact Q.2|exact Q.1.symm|exact Q.2.symm)|exact (E.d40 (by with_reducible assumption) (by with_reducible assumption)).2.symm|exact (a0A (p:=p) (k:=k) (ts:=ts) (as_:=as_) (.inl (by with_reducible assumption))).symm|exact (a0A (p:=p) (k:=k) (ts:=ts) (as_:=as_) (.inr (.inl (by with_reducible assumption)))).symm|exact E.su.1|exact E.su.2|(have F:=E.f (by with_reducible assumption);first|omega|(rw[F.gs.1,F.gs.2,F.go.1];rfl)|exact F.go.2.symm))))|omega)
def Fg:aH.bX iH:=Ia ⟨EI,yK,Np,gL,HI,Aw,oJ,U⟩ ⟨Bk,N8,sq,U⟩ trivial trivial
def F2:aH.Good iH:=Fg.plain
end
end Go.Proofs.YtmjfpcajohhbeaaGreatDoor

set_option maxRecDepth 4000
set_option maxHeartbeats 4000000
namespace Go.Proofs.YtmjfpcajohhbeaaGreatDoor
noncomputable section
mutual
def a5I:∀ x:J,bm x=2+2 * av x
 | ⟨k,n,ks⟩=>by
  have:=MX ks;simp only[bm,av,this,GI]
def MX:∀ xs:List J,Dg xs=2 * (xs.length+aF av xs)
 | []=>by simp[Dg,aF]
 | x::xs=>by
  have h1:=a5I x;have h2:=MX xs;simp only[Dg,aF,b3P,h1,h2];omega
end
def Ew(xs:List J):aF bm xs=2 * (xs.length+aF av xs):=by
 have:=MX xs;rwa [Ex] at this
def a1Q(x:J):aF bm x.M=2 * av x:=by rw[Ew,j8]
def a0I(x:ae):aA x<=2+2 * aZ x:=by
 rw[lY,fG,Ew,Ew];omega
def LX:∀ xs:List ae,aF aA xs<=2 * (xs.length+aF aZ xs)
 | []=>by simp[aF]
 | x::xs=>by
  have h1:=a0I x;have h2:=LX xs;simp only[aF,b3P];omega
def YN(x:ag):aG x<=6+2 * bL x:=by
 have:=LX x.steps;rw[uL,kR,a1Q,a1Q];omega
def IJ:∀ xs:List ag,aF aG xs<=6 * (xs.length+aF bL xs)
 | []=>by simp[aF]
 | x::xs=>by
  have h1:=YN x;have h2:=IJ xs;simp only[aF,b3P];omega
def LW(p:aj):aF aG p.ai<=6 * cB p:=by
 have:=IJ p.ai;rw[iQ];omega
def a9x{p:aj}{k:Int}{ts as_:List J}(h:yW p k ts as_=0):bW p.sig (cQ ts as_ (bJ p k).left)=true/\bW p.sig (cQ ts as_ (bJ p k).right)=true:=by
 have e:vC p k ts as_=false:=by
  unfold yW at h;cases h1:C9 p ts as_<;>rw[h1] at h
  .rw[b6w] at h;split at h
   .cases h
   .split at h
    .cases h
    .cases h2:Ii p k ts as_<;>rw[h2] at h
     .rw[b6w] at h;cases h3:bg bh ts<;>rw[h3] at h
      .cases h
      .cases h4:vC p k ts as_ with
       | false=>rfl
       | true=>rw[h4] at h;cases h
     .cases h
  .cases h
 unfold vC at e;simp only[Bool.not_eq_false',Bool.and_eq_true] at e;exact⟨e.1,e.2.1⟩
def a8J(p:aj)(k:Int)(ts as_:List J)(h1:cB p<=1048576)(h2:ts.length+aF av ts<=1048576)(h3:as_.length+aF av as_<=1048576):cB (vD p k ts as_)<=8388608:=by
 unfold vD;split
 .rename_i h;have a:=rl _ _ (a9x h).1;have b:=rl _ _ (a9x h).2;rw[iQ] at h1 ⊢;simp only[aiX,a2Z,b3U,b3P,b4b,aF,kR,fG];omega
 .rw[iQ];simp[aF]
def mD:aH:=⟨fe,[.v (.st .proof), .v (.int .i64), .v (.slice (.st .expr)), .v (.slice (.st .expr))],λ (p:aj) (k:Int) (ts:List J) (as_:List J)=>⟨(none,[⟨.bool,true⟩])⟩⟩
def AY(p:aj)(k:Int)(ts:List J)(as_:List J):Nat->aE:=λ _ => .none
abbrev kY(p:aj)(k:Int)(ts:List J)(as_:List J):Prop:=((decide ((kt aG bF (1:Int) (aj.mk (vD p k ts as_).sig ((aj.mk (vD p k ts as_).sig (iL aG bF (1:Int) (vD p k ts as_).ai))).ai).ai)<(0:Int)))=true ->
 false=true)
abbrev kZ(p:aj)(k:Int)(ts:List J)(as_:List J):Prop:=(let v0:=vD p k ts as_;((!(decide ((kt aG bF (1:Int) (aj.mk v0.sig ((aj.mk v0.sig (iL aG bF (1:Int) v0.ai))).ai).ai)=((1:Int)+(aF aG v0.ai:Int)))))=true ->
 false=true))
abbrev xq(p:aj)(k:Int)(ts:List J)(as_:List J):Prop:=(let v2:=vD p k ts as_;let v0:=aj.mk v2.sig ((aj.mk v2.sig (iL aG bF (1:Int) v2.ai))).ai;let v1:=kt aG bF (1:Int) v0.ai;((0<=(1:Int)/\(1:Int)+(aF aG v0.ai:Int)<=4611686018427387904)/\(O v1 ->
 ((kY p k ts as_)/\((decide (v1<(0:Int)))=false ->
 ((kZ p k ts as_)/\((!(decide (v1=((1:Int)+(aF aG v2.ai:Int)))))=false ->
 true=true)))))))
abbrev k9(p:aj)(k:Int)(ts:List J)(as_:List J):Prop:=(let v1:=vD p k ts as_;let v3:=yW p k ts as_;let v4:=xq p k ts as_;let v5:=(1:Int);let v0:=aj.mk v1.sig ((aj.mk v1.sig (iL aG bF v5 v1.ai))).ai;let v2:=kt aG bF v5 v0.ai;let v6:=(aF aG v1.ai:Int);((0<=v5/\v5+v6<=4611686018427387904)/\((0<=v5/\v5+(aF aG v0.ai:Int)<=4611686018427387904)/\(O v2 ->
 ((kY p k ts as_)/\((decide (v2<(0:Int)))=false ->
 ((kZ p k ts as_)/\((!(decide (v2=(v5+v6))))=false ->
 (cB p<=1048576/\(ts.length+aF av ts<=1048576/\(ts.length<=140737488355328 ->
 (as_.length+aF av as_<=1048576/\(as_.length<=140737488355328 ->
 ((cB p<=1048576/\ts.length+aF av ts<=1048576/\as_.length+aF av as_<=1048576)/\(O v3 ->
 (((!(bC v1 v1))=false ->
 (((!(decide (v3=v3)))=true ->
 false=true)/\((!(decide (v3=v3)))=false ->
 v4)))/\((!(bC v1 v1))=(!false) ->
 ((true=true ->
 false=true)/\(true=false ->
 v4)))))))))))))))))))
abbrev xr(p:aj)(k:Int)(ts:List J)(as_:List J):Prop:=(let v0 := !(decide ((yW p k ts as_)=(yW p k ts as_)));((v0=true ->
 false=true)/\(v0=false ->
 (k9 p k ts as_))))
abbrev xu(p:aj)(k:Int)(ts:List J)(as_:List J):Prop:=(let v0:=(1:Int)+(aF aG p.ai:Int);let v2:=(aF bm ts:Int);let v1:=decide (((v0+v2)+(aF bm as_:Int))<(0:Int));let v3 := !(bC (vD p k ts as_) (vD p k ts as_));let v4:=xr p k ts as_;let v5:=k9 p k ts as_;(cB p<=1048576/\(((!(bC p p))=true ->
 false=true)/\((!(bC p p))=false ->
 (ts.length+aF av ts<=1048576/\(ts.length<=140737488355328 ->
 (((!(bC ts ts))=true ->
 false=true)/\((!(bC ts ts))=false ->
 (as_.length+aF av as_<=1048576/\(as_.length<=140737488355328 ->
 (((!(bC as_ as_))=true ->
 false=true)/\((!(bC as_ as_))=false ->
 ((0<=(1:Int)/\(1:Int)+(aF aG p.ai:Int)<=4611686018427387904)/\((0<=v0/\v0+v2<=4611686018427387904)/\((0<=(v0+v2)/\(v0+v2)+(aF bm as_:Int)<=4611686018427387904)/\((v1=false ->
 ((v3=false ->
 v4)/\(v3=(!false) ->
 ((true=true ->
 false=true)/\(true=false ->
 v5)))))/\(v1=(!false) ->
 ((true=false ->
 v4)/\(true=(!false) ->
 ((true=true ->
 false=true)/\(true=false ->
 v5)))))))))))))))))))))
def zh(hE:aC [xG,xF,xJ,xI,xC,xB,rJ,iH])(hO:cO [tV,tU,mM])(hM:cT [pS,kI])(hS:cR []):aH.Good mD:=by
 refine⟨au lU rfl (by decide),?_⟩;show ∀ (p:aj) (k:Int) (ts:List J) (as_:List J),True->bd prog fe [.val ⟨(.st .proof),p⟩, .val ⟨(.int .i64),k⟩, .val ⟨(.slice (.st .expr)),ts⟩, .val ⟨(.slice (.st .expr)),as_⟩] (·=[⟨.bool,true⟩]);intro p k ts as_ _;refine X8 (own:=[59,88,91,94,110,127,49,51,53]) (wr:=[]) (cl:=[]) (ro:=[4]) hE hO hM hS lU vL (AY p k ts as_) (let v1:=dX (cB p) (1048576:Int);let v0:=dX (ts.length+aF av ts) v1;let v2:=cB p<=1048576/\ts.length+aF av ts<=1048576/\as_.length+aF av as_<=1048576;let v3:=dX (as_.length+aF av as_) v0;let v4:=yW p k ts as_;let v5 := !(bC (vD p k ts as_) (vD p k ts as_));let v6:=xu p k ts as_;let v7:=(0:Int);(((0<=(1048576:Int)/\(1048576:Int)<=1048576)/\(O v1->(((decide (v1<v7))=true->true=true)/\((decide (v1<v7))=false->((0<=v1/\v1<=1048576)/\(O v0->(((decide (v0<v7))=true->true=true)/\((decide (v0<v7))=false->((0<=v0/\v0<=1048576)/\(O v3->(((decide (v3<v7))=true->true=true)/\((decide (v3<v7))=false->(cB p<=1048576/\(ts.length+aF av ts<=1048576/\(ts.length<=140737488355328->(as_.length+aF av as_<=1048576/\(as_.length<=140737488355328->(v2/\(O v4->(cB p<=1048576/\(ts.length+aF av ts<=1048576/\(as_.length+aF av as_<=1048576/\(v2/\(O v4->((v5=false->(((!(decide (v4=v4)))=true->false=true)/\((!(decide (v4=v4)))=false->v6)))/\(v5=(!false)->((true=true->false=true)/\(true=false->v6)))))))))))))))))))))))))))))) (by kernel_rfl) ?_;have f0:=dK (cB p) 1048576;have f1:=dK (ts.length+aF av ts) (dX (cB p) 1048576);have f2:=dK (as_.length+aF av as_) (dX (ts.length+aF av ts) (dX (cB p) 1048576));have f3:=LW p;have f4:=Ew ts;have f5:=Ew as_;have f6:=LW (vD p k ts as_);have f7:=a8J p k ts as_;have f8:=a3N 1 (vD p k ts as_).ai;have f9:=(VK aG bF a5g a1N 1 (vD p k ts as_).ai).2;refine⟨?_,λ _=>⟨λ _=>rfl,λ _=>⟨?_,λ _=>⟨λ _=>rfl,λ _=>⟨?_,λ _=>⟨λ _=>rfl,λ _=>⟨?_,?_,λ _=>⟨?_,λ _=>⟨?_,λ _=>⟨?_,?_,?_,?_,λ _=>⟨λ _=>⟨λ _=>?_,λ _=>⟨?_,λ _=>?_,λ _=>⟨?_,λ _=>⟨λ _=>?_,λ _=>⟨?_,λ _=>⟨λ _=>?_,λ _=>⟨?_,?_,?_,λ _=>⟨λ _=>⟨λ _=>?_,λ _=>⟨?_,?_,λ _=>⟨λ _=>?_,λ _=>⟨λ _=>?_,λ _=>⟨?_,?_,λ _=>⟨?_,λ _=>⟨?_,λ _=>⟨λ _=>⟨λ _=>?_,λ _=>⟨?_,λ _=>⟨λ _=>?_,λ _=>⟨λ _=>?_,λ _=>rfl⟩⟩⟩⟩,λ _=>⟨λ _=>?_,λ _=>⟨?_,λ _=>⟨λ _=>?_,λ _=>⟨λ _=>?_,λ _=>rfl⟩⟩⟩⟩⟩⟩⟩⟩⟩⟩⟩⟩,λ _=>⟨λ _=>?_,λ _=>⟨?_,?_,λ _=>⟨λ _=>?_,λ _=>⟨λ _=>?_,λ _=>⟨?_,?_,λ _=>⟨?_,λ _=>⟨?_,λ _=>⟨λ _=>⟨λ _=>?_,λ _=>⟨?_,λ _=>⟨λ _=>?_,λ _=>⟨λ _=>?_,λ _=>rfl⟩⟩⟩⟩,λ _=>⟨λ _=>?_,λ _=>⟨?_,λ _=>⟨λ _=>?_,λ _=>⟨λ _=>?_,λ _=>rfl⟩⟩⟩⟩⟩⟩⟩⟩⟩⟩⟩⟩⟩,λ _=>⟨λ _=>⟨λ _=>?_,λ _=>⟨?_,?_,λ _=>⟨λ _=>?_,λ _=>⟨λ _=>?_,λ _=>⟨?_,?_,λ _=>⟨?_,λ _=>⟨?_,λ _=>⟨λ _=>⟨λ _=>?_,λ _=>⟨?_,λ _=>⟨λ _=>?_,λ _=>⟨λ _=>?_,λ _=>rfl⟩⟩⟩⟩,λ _=>⟨λ _=>?_,λ _=>⟨?_,λ _=>⟨λ _=>?_,λ _=>⟨λ _=>?_,λ _=>rfl⟩⟩⟩⟩⟩⟩⟩⟩⟩⟩⟩⟩,λ _=>⟨λ _=>?_,λ _=>⟨?_,?_,λ _=>⟨λ _=>?_,λ _=>⟨λ _=>?_,λ _=>⟨?_,?_,λ _=>⟨?_,λ _=>⟨?_,λ _=>⟨λ _=>⟨λ _=>?_,λ _=>⟨?_,λ _=>⟨λ _=>?_,λ _=>⟨λ _=>?_,λ _=>rfl⟩⟩⟩⟩,λ _=>⟨λ _=>?_,λ _=>⟨?_,λ _=>⟨λ _=>?_,λ _=>⟨λ _=>?_,λ _=>rfl⟩⟩⟩⟩⟩⟩⟩⟩⟩⟩⟩⟩⟩⟩⟩⟩⟩⟩⟩⟩,λ _=>⟨λ _=>?_,λ _=>⟨?_,λ _=>?_,λ _=>⟨?_,λ _=>⟨λ _=>?_,λ _=>⟨?_,λ _=>⟨λ _=>?_,λ _=>⟨?_,?_,?_,λ _=>⟨λ _=>⟨λ _=>?_,λ _=>⟨?_,?_,λ _=>⟨λ _=>?_,λ _=>⟨λ _=>?_,λ _=>⟨?_,?_,λ _=>⟨?_,λ _=>⟨?_,λ _=>⟨λ _=>⟨λ _=>?_,λ _=>⟨?_,λ _=>⟨λ _=>?_,λ _=>⟨λ _=>?_,λ _=>rfl⟩⟩⟩⟩,λ _=>⟨λ _=>?_,λ _=>⟨?_,λ _=>⟨λ _=>?_,λ _=>⟨λ _=>?_,λ _=>rfl⟩⟩⟩⟩⟩⟩⟩⟩⟩⟩⟩⟩,λ _=>⟨λ _=>?_,λ _=>⟨?_,?_,λ _=>⟨λ _=>?_,λ _=>⟨λ _=>?_,λ _=>⟨?_,?_,λ _=>⟨?_,λ _=>⟨?_,λ _=>⟨λ _=>⟨λ _=>?_,λ _=>⟨?_,λ _=>⟨λ _=>?_,λ _=>⟨λ _=>?_,λ _=>rfl⟩⟩⟩⟩,λ _=>⟨λ _=>?_,λ _=>⟨?_,λ _=>⟨λ _=>?_,λ _=>⟨λ _=>?_,λ _=>rfl⟩⟩⟩⟩⟩⟩⟩⟩⟩⟩⟩⟩⟩,λ _=>⟨λ _=>⟨λ _=>?_,λ _=>⟨?_,?_,λ _=>⟨λ _=>?_,λ _=>⟨λ _=>?_,λ _=>⟨?_,?_,λ _=>⟨?_,λ _=>⟨?_,λ _=>⟨λ _=>⟨λ _=>?_,λ _=>⟨?_,λ _=>⟨λ _=>?_,λ _=>⟨λ _=>?_,λ _=>rfl⟩⟩⟩⟩,λ _=>⟨λ _=>?_,λ _=>⟨?_,λ _=>⟨λ _=>?_,λ _=>⟨λ _=>?_,λ _=>rfl⟩⟩⟩⟩⟩⟩⟩⟩⟩⟩⟩⟩,λ _=>⟨λ _=>?_,λ _=>⟨?_,?_,λ _=>⟨λ _=>?_,λ _=>⟨λ _=>?_,λ _=>⟨?_,?_,λ _=>⟨?_,λ _=>⟨?_,λ _=>⟨λ _=>⟨λ _=>?_,λ _=>⟨?_,λ _=>⟨λ _=>?_,λ _=>⟨λ _=>?_,λ _=>rfl⟩⟩⟩⟩,λ _=>⟨λ _=>?_,λ _=>⟨?_,λ _=>⟨λ _=>?_,λ _=>⟨λ _=>?_,λ _=>rfl⟩⟩⟩⟩⟩⟩⟩⟩⟩⟩⟩⟩⟩⟩⟩⟩⟩⟩⟩⟩⟩⟩⟩⟩⟩⟩⟩⟩⟩⟩⟩;all_goals try and_intros
 all_goals first|rfl|trivial|omega|(simp only[b3E,b3D,ak,O,bQ,cw,bI,aY] at *;omega)|(simp[ak,O] at *;omega)|grind|(simp_all;done)|(simp_all;omega)
def vN:aH.Good mD:=zh ⟨Ng,Au,Ni,Av,Nc,At,IW,F2,U⟩ ⟨Lt,yP,Fc,U⟩ ⟨HW,lI,U⟩ trivial
def EZ:∀ Rp:List TV,Rp.map TV.τ=[(.st .proof),(.int .i64),(.slice (.st .expr)),(.slice (.st .expr))]->bd prog fe (Rp.map .val) (·=[⟨.bool,true⟩]):=by
 intro Rp h;match Rp,h with
 | [⟨t0,a0⟩,⟨t1,a1⟩,⟨t2,a2⟩,⟨t3,a3⟩],h =>
  simp only[b4A,b5u,b3O,b3T] at h;obtain⟨rfl,rfl,rfl,rfl⟩:=h;exact vN.2 a0 a1 a2 a3 trivial
end
end Go.Proofs.YtmjfpcajohhbeaaGreatDoor

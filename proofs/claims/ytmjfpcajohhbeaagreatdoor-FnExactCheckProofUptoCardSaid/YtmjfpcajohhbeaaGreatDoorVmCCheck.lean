/- VmPf3, VmPf4, VmPf5, VmPf6, VmPf7, VmLnx, VmPf8, VmPf9, VmPf10, VmPf11, VmPf12, VmPf13, VmPf14, VmCCheck. -/
import Derived.Test.YtmjfpcajohhbeaaGreatDoorVmPf2
import Derived.WalkKit
import Derived.Deep.QuietTactic
import Derived.BigQuiet
import Derived.LoopTactic
import Derived.Deep.RegionWith
set_option linter.all false
set_option maxRecDepth 4000
set_option maxHeartbeats 4000000
namespace Go.Proofs.YtmjfpcajohhbeaaGreatDoor
def b1t:=@List.getElem?_take_of_lt
def a9z:=@Array.getElem?_push
def b0i:=@Array.size_push
def b1R:=@Go.heap_setCell_same
def b1J:=@Go.heap_setCell_other
noncomputable section
structure Yu(c f:ae):Prop where
 c1:aZ 62 62 c.left=true
 f1:aZ 62 62 f.left=true
 f2:aZ 62 62 f.right=true
abbrev fQ(f:ae):aj:=aj.mk f.left f.right
theorem Yu.x{c f:ae}(h:Yu c f)(h2:qF (aj.mk f.left f.right)=true)(h3:(mR (aj.mk f.left f.right)).ak=7):(mR (aj.mk f.left f.right)).M.length=2:=by
 have e:=(uP h2).2.1
 rw[e] at h3 ⊢
 unfold qF at h2
 simp only[a8r,a8p] at h2
 exact HL ((TQ (q:=fQ f) h.f1 h2.1.1).2.2 h2.1.2).2 (.inr h3)
theorem in_1{c f:ae}(h:qF (aj.mk f.left f.right)=false):tO c f=false:=by unfold tO;rw[h];rfl
theorem a4S{c f:ae}(h:¬ (mR (aj.mk f.left f.right)).ak=7):tO c f=false:=by unfold tO;rw[decide_eq_false h,Bool.and_false];rfl
theorem a7p{c f:ae}(h:qF (aj.mk f.left f.right)=true)(h3:(mR (aj.mk f.left f.right)).ak=7)(h2:c.bO=2):tO c f=(bw ((mR (aj.mk f.left f.right)).M.getD 1 zE) (vB (aj.mk f.left f.right))&&(bw c.left (J.mk 6 0 [J.mk 7 0 [J.mk 8 0 [(mR (aj.mk f.left f.right)).M.getD 0 zE],IL (aj.mk f.left f.right)],vB (aj.mk f.left f.right)])&&bw c.right (vB (aj.mk f.left f.right)))):=by
 have e:=(uP h).2.2
 unfold tO a0i inW
 rw[h,a8W h3,a8O h2,a8O h2,e]
 simp only[a9B,b0Y]
theorem a7q{c f:ae}(h:qF (aj.mk f.left f.right)=true)(h3:(mR (aj.mk f.left f.right)).ak=7)(h2:¬ c.bO=2):tO c f=(bw ((mR (aj.mk f.left f.right)).M.getD 0 zE) (vB (aj.mk f.left f.right))&&(bw c.left (J.mk 6 0 [J.mk 7 0 [IL (aj.mk f.left f.right),J.mk 8 0 [(mR (aj.mk f.left f.right)).M.getD 1 zE]],vB (aj.mk f.left f.right)])&&bw c.right (vB (aj.mk f.left f.right)))):=by
 have e:=(uP h).2.2
 unfold tO a0i inW
 rw[h,a8W h3,a8y h2,a8y h2,e]
 simp only[a9B,b0Y]
def l9:aJ:=⟨tY,[.v (.st .claim), .v (.st .claim)],λ (c:ae) (f:ae)=>⟨(some (Yu c f),[⟨.bool,tO c f⟩])⟩⟩
def Cs(c:ae)(f:ae):Nat->aH:=λ _ => .none
abbrev xV(c:ae)(f:ae):Prop:=((false=true ->
 (bw c.right (ag (vB (aj.mk (ag f.left) (ag f.right)))))=(tO c f))/\(false=(!true) ->
 false=(tO c f)))
abbrev xW(c:ae)(f:ae):Prop:=(O c.bO ->
 (((decide (c.bO=(2:Int)))=true ->
 (aw (1:Int) (mR (aj.mk (ag f.left) (ag f.right))).M.length/\((mR (aj.mk (ag f.left) (ag f.right))).M.length<=140737488355328 ->
 (aw (0:Int) (mR (aj.mk (ag f.left) (ag f.right))).M.length/\((mR (aj.mk (ag f.left) (ag f.right))).M.length<=140737488355328 ->
 (((bw ((mR (aj.mk (ag f.left) (ag f.right))).M.getD 1 zE) (ag (vB (aj.mk (ag f.left) (ag f.right)))))=true ->
 (((bw c.left (J.mk (6:Int) 0 ([(ag (J.mk (7:Int) 0 ([(J.mk (8:Int) 0 ([((mR (aj.mk (ag f.left) (ag f.right))).M.getD 0 zE)])),(ag (IL (aj.mk (ag f.left) (ag f.right))))]))),(ag (vB (aj.mk (ag f.left) (ag f.right))))])))=true ->
 (bw c.right (ag (vB (aj.mk (ag f.left) (ag f.right)))))=(tO c f))/\((bw c.left (J.mk (6:Int) 0 ([(ag (J.mk (7:Int) 0 ([(J.mk (8:Int) 0 ([((mR (aj.mk (ag f.left) (ag f.right))).M.getD 0 zE)])),(ag (IL (aj.mk (ag f.left) (ag f.right))))]))),(ag (vB (aj.mk (ag f.left) (ag f.right))))])))=(!true) ->
 false=(tO c f))))/\((bw ((mR (aj.mk (ag f.left) (ag f.right))).M.getD 1 zE) (ag (vB (aj.mk (ag f.left) (ag f.right)))))=(!true) ->
 (xV c f))))))))/\((decide (c.bO=(2:Int)))=false ->
 (aw (0:Int) (mR (aj.mk (ag f.left) (ag f.right))).M.length/\((mR (aj.mk (ag f.left) (ag f.right))).M.length<=140737488355328 ->
 (aw (1:Int) (mR (aj.mk (ag f.left) (ag f.right))).M.length/\((mR (aj.mk (ag f.left) (ag f.right))).M.length<=140737488355328 ->
 (((bw ((mR (aj.mk (ag f.left) (ag f.right))).M.getD 0 zE) (ag (vB (aj.mk (ag f.left) (ag f.right)))))=true ->
 (((bw c.left (J.mk (6:Int) 0 ([(ag (J.mk (7:Int) 0 ([(ag (IL (aj.mk (ag f.left) (ag f.right)))),(J.mk (8:Int) 0 ([((mR (aj.mk (ag f.left) (ag f.right))).M.getD 1 zE)]))]))),(ag (vB (aj.mk (ag f.left) (ag f.right))))])))=true ->
 (bw c.right (ag (vB (aj.mk (ag f.left) (ag f.right)))))=(tO c f))/\((bw c.left (J.mk (6:Int) 0 ([(ag (J.mk (7:Int) 0 ([(ag (IL (aj.mk (ag f.left) (ag f.right)))),(J.mk (8:Int) 0 ([((mR (aj.mk (ag f.left) (ag f.right))).M.getD 1 zE)]))]))),(ag (vB (aj.mk (ag f.left) (ag f.right))))])))=(!true) ->
 false=(tO c f))))/\((bw ((mR (aj.mk (ag f.left) (ag f.right))).M.getD 0 zE) (ag (vB (aj.mk (ag f.left) (ag f.right)))))=(!true) ->
 (xV c f))))))))))
theorem Nz(c:ae)(f:ae):ck (aL [nI,kL,cX] [] [] [2,3,42,45,58,60,68]) (au jb) (Cs c f) 0 (bg (aL [nI,kL,cX] [] [] [2,3,42,45,58,60,68]) jb λ r=>bp r [⟨.bool,tO c f⟩]) (aD jb [.val ⟨(.st .claim),c⟩, .val ⟨(.st .claim),f⟩]) =
 ((aZ 62 62 (aj.mk (ag f.left) (ag f.right)).left=true/\(((!(qF (aj.mk (ag f.left) (ag f.right))))=false ->
 (O (mR (aj.mk (ag f.left) (ag f.right))).ak ->
 (((!(decide ((mR (aj.mk (ag f.left) (ag f.right))).ak=(7:Int))))=true ->
 false=(tO c f))/\((!(decide ((mR (aj.mk (ag f.left) (ag f.right))).ak=(7:Int))))=false ->
 (xW c f)))))/\((!(qF (aj.mk (ag f.left) (ag f.right))))=(!false) ->
 ((true=true ->
 false=(tO c f))/\(true=false ->
 (xW c f))))))):=by kernel_rfl
theorem MQ(hE:aG [nI,kL,cX]):aJ.Good l9:=by
 refine⟨aA zu rfl (by decide),?_⟩
 show ∀ (c:ae) (f:ae),(Yu c f)->bh prog tY [.val ⟨(.st .claim),c⟩, .val ⟨(.st .claim),f⟩] (·=[⟨.bool,tO c f⟩])
 intro c f hp
 refine aM (wr:=[]) (cl:=[]) (ro:=[2,3,42,45,58,60,68]) hE zu HT (Cs c f) ?_
 rewrite [Nz c f]
 refine⟨?_,λ _ _=>⟨λ _=>?_,λ _ _=>⟨λ _=>⟨?_,λ _=>⟨?_,λ _=>⟨λ _=>⟨λ _=>?_,λ _=>?_⟩,λ _=>⟨λ _=>?_,λ _=>?_⟩⟩⟩⟩,λ _=>⟨?_,λ _=>⟨?_,λ _=>⟨λ _=>⟨λ _=>?_,λ _=>?_⟩,λ _=>⟨λ _=>?_,λ _=>?_⟩⟩⟩⟩⟩⟩,λ _=>⟨λ _=>?_,λ _ _=>⟨λ _=>⟨?_,λ _=>⟨?_,λ _=>⟨λ _=>⟨λ _=>?_,λ _=>?_⟩,λ _=>⟨λ _=>?_,λ _=>?_⟩⟩⟩⟩,λ _=>⟨?_,λ _=>⟨?_,λ _=>⟨λ _=>⟨λ _=>?_,λ _=>?_⟩,λ _=>⟨λ _=>?_,λ _=>?_⟩⟩⟩⟩⟩⟩⟩
 all_goals try and_intros
 all_goals try (first|with_reducible rfl|with_reducible assumption)
 all_goals try simp only[J.eta,ae.eta,aj.eta,aP,bM,cn] at *
 all_goals first|with_reducible rfl|with_reducible assumption|exact True.intro|(simp only[a8B,a8w,a8x,a8v] at *;done)|((try simp only[a8T,J.eta,a8p,a8q,a8x,a8v,a8J,a8X,aw,O,br,a8K,a8C,a8N,a8R,a8U] at *);first|exact True.intro|omega|exact hp.f1|(have:=hp.x (by with_reducible assumption) (by with_reducible assumption);omega)|exact in_1 (by with_reducible assumption)|exact (in_1 (by with_reducible assumption)).symm|exact a4S (by with_reducible assumption)|exact (a4S (by with_reducible assumption)).symm|(rw[a7p (by with_reducible assumption) (by with_reducible assumption) (by with_reducible assumption)];simp only[*,b0f,a9B,a9P,a9L];done)|(rw[a7q (by with_reducible assumption) (by with_reducible assumption) (by with_reducible assumption)];simp only[*,b0f,a9B,a9P,a9L];done))
theorem Ie:aJ.Good l9:=MQ ⟨Kf,Ed,lp,trivial⟩
theorem a1M{p:av}{k:Int}{e:J}{s:ai}(h:fY p k e s=0):cg p.sig (iu p k e s)=true:=by
 unfold iu
 rw[a8O h]
 unfold fY at h
 cases h1 : !(qo k s.use&&eH e s.path)<;>rw[h1] at h
 .cases h2 : !VP (bZ p k s.use) s<;>rw[h2] at h
  .cases h3 : !RL p.sig (bZ p k s.use) s<;>rw[h3] at h
   .cases h4 : !bw (dd e s.path) (W4 (bZ p k s.use) s)<;>rw[h4] at h
    .simp only[b1D] at h
     unfold qn at h
     cases h5:eH e s.path<;>rw[h5] at h
     .cases h
     .cases h6:qm e s.path && !bj (RM (bZ p k s.use) s)<;>rw[h6] at h
      .cases h7:cg p.sig (gv (RM (bZ p k s.use) s) e s.path)<;>rw[h7] at h
       cases h
      .cases h
    .cases h
   .cases h
  .cases h
 .cases h
structure EU(p:av)(k:Int):Prop where
 v:yW p
 k0:0<=k
 k1:k<(p.U.length:Int)
theorem EU.b{p:av}{k:Int}(h:EU p k):cg p.sig (dv p k).left=true/\cg p.sig (dv p k).right=true/\(1<=(dv p k).bO/\(dv p k).bO<=3)/\(0<=(dv p k).ref/\(dv p k).ref<=39)/\(dv p k).steps.length<=60/\bq (mQ p.sig) (dv p k).steps=true:=h.v.e h.k0 h.k1
theorem Xf(p:av)(i:Int):p.U.getD i.toNat (ae.mk zE zE (0:Int) (0:Int) [])=dv p i:=rfl
structure Bu(p:av)(k:Int)(j:Nat):Prop where
 h:EU p k
 r:(dv p k).bO=1
 jl:j<=(dv p k).steps.length
 o:Yf p k j=true
 e:cg p.sig (dH p k j)=true
theorem G9{p:av}{k:Int}(h:¬ (dv p k).bO=1):jT p k=(decide ((dv p k).ref<k)&&tO (dv p k) (dv p (dv p k).ref)):=by unfold jT;rw[if_neg h]
theorem EU.i{p:av}{k:Int}(h:EU p k)(h2:(dv p k).ref<k):Yu (dv p k) (dv p (dv p k).ref)/\0<=(dv p k).ref/\(dv p k).ref<(p.U.length:Int):=by
 have b:=h.b.2.2.2.1
 have:=h.k1
 exact⟨⟨(h.v.t h.k0 h.k1).1,(h.v.t (i:=(dv p k).ref) b.1 (by omega)).1,(h.v.t (i:=(dv p k).ref) b.1 (by omega)).2⟩,b.1,by omega⟩
theorem EU.z{p:av}{k:Int}(h:EU p k)(h2:(dv p k).bO=1):Bu p k 0:=⟨h,h2,a9J _,rfl,h.b.1⟩
theorem Yg{p:av}{k:Int}{j:Nat}(h:Yf p k (j+1)=false):∀ n,j<n->Yf p k n=false
 | 0,hn=>by omega
 | n+1,hn=>by
  rcases a9t j n with g|g
  .rw[Yf,Yg h n g];rfl
  .have:j=n:=by omega
   subst this;exact h
theorem Bu.ap{p:av}{k:Int}{j:Nat}(h:Bu p k j)(hj:j<(dv p k).steps.length):NS p k (dH p k j) ((dv p k).steps.getD j (ai.mk (0:Int) false [] [] [])) :=
 ⟨h.h.v,h.h.k0,by have:=h.h.k1;omega,h.e,RC _ _ _ _ h.h.b.2.2.2.2.2 hj⟩
theorem Bu.no{p:av}{k:Int}{j:Nat}(h:Bu p k j)(hj:j<(dv p k).steps.length)(hc:¬ fY p k (dH p k j) ((dv p k).steps.getD j (ai.mk (0:Int) false [] [] []))=0):jT p k=false:=by
 unfold jT
 rw[a8O h.r,Yg (j:=j) (by rw[Yf,a8D hc,a9P]) _ hj];rfl
theorem Bu.next{p:av}{k:Int}{j:Nat}(h:Bu p k j)(hj:j<(dv p k).steps.length)(hc:fY p k (dH p k j) ((dv p k).steps.getD j (ai.mk (0:Int) false [] [] []))=0):Bu p k (j+1) :=
 ⟨h.h,h.r,hj,by rw[Yf,h.o,a8W hc];rfl,by rw[dH];exact a1M hc⟩
theorem Bu.end{p:av}{k:Int}{j:Nat}(h:Bu p k j)(hj:(dv p k).steps.length<=j):jT p k=bw (dH p k j) (dv p k).right:=by
 have:(dv p k).steps.length=j:=by have:=h.jl;omega
 unfold jT
 rw[a8O h.r,this,h.o];rfl
theorem a4U(p:av)(k:Int):dH p k 0=(dv p k).left:=rfl
theorem a0v(p:av)(k:Int)(j:Nat):dH p k (j+1)=iu p k (dH p k j) ((dv p k).steps.getD j (ai.mk (0:Int) false [] [] [])):=rfl
structure xr(p:av)(k:Nat):Prop where
 v:yW p
 kl:k<=p.U.length
 a:UI (λ k=>jT p (k:Int)) k=true
theorem xr.zero{p:av}(h:yW p):xr p 0:=⟨h,a9J _,rfl⟩
theorem xr.sh{p:av}{k:Nat}(h:xr p k)(hk:k<p.U.length):EU p (k:Int):=⟨h.v,by omega,by omega⟩
theorem xr.next{p:av}{k:Nat}(h:xr p k)(hk:k<p.U.length)(hb:jT p (k:Int)=true):xr p (k+1):=⟨h.v,hk,by rw[UI,h.a,hb];rfl⟩
theorem xr.no{p:av}{k:Nat}(h:xr p k)(hk:k<p.U.length)(hb:jT p (k:Int)=false):(ss p:Int)=(k:Int):=by
 unfold ss;rw[Z7 (λ k=>jT p (k:Int)) k h.a hb _ hk]
theorem xr.end{p:av}{k:Nat}(h:xr p k)(hk:p.U.length<=k):(ss p:Int)=(p.U.length:Int):=by
 have:k=p.U.length:=by have:=h.kl;omega
 subst this
 unfold ss;rw[Sq (λ k=>jT p (k:Int)) _ h.a]
theorem FU{p:av}(h:gY p=false):wV p=0/\wU p=1:=by unfold wV wU;rw[h];exact⟨rfl,rfl⟩
theorem FT{p:av}(h:gY p=true)(h2:(ss p:Int)<(p.U.length:Int)):wV p=(ss p:Int)/\wU p=8:=by unfold wV wU;rw[h,decide_eq_true h2];exact⟨rfl,rfl⟩
theorem FR{p:av}(h:gY p=true)(h2:¬ (ss p:Int)<(p.U.length:Int)):wV p=(ss p:Int)/\wU p=0:=by unfold wV wU;rw[h,decide_eq_false h2];exact⟨rfl,rfl⟩
theorem F8:aJ.Good gI:=Fe.plain
def nH:aJ:=⟨vX,[.v (.st .proof), .v (.int .i64)],λ (p:av) (k:Int)=>⟨(some (EU p k),[⟨.bool,jT p k⟩])⟩⟩
def El(p:av)(k:Int):Nat->aH:=(λ zb=>if Nat.beq zb 0 then .mk (Nat) (λ j=>Bu p k j) (λ j=>(dv p k).steps.length - j) [] [0,3,7,11,12,13,14,15,16,17,18,19,20,21,22,23,24,25,26,27,28,29,30,31,32,33,34,35] (λ j=>[(38, .aW ⟨(.int .i64),((j:Int):Int)⟩)]) [1,2,4,5,8,9,10,36,37,38,39,40,41,42,43,44,45,46,47,48,49,50,51,52,53,54,55,56,57] (λ j=>[(6, .box [.aW ⟨(.int .i64),((dH p k j).ak:Int)⟩, .aW ⟨(.int .i64),((dH p k j).aI:Int)⟩, .aW ⟨(.slice (.st .expr)),((dH p k j).M:List J)⟩])]) [] [] (λ j=>λ _ => .none) else .none)
abbrev zY(p:av)(k:Int):Prop:=(((p.U.getD (Int.toNat k) (ae.mk zE zE (0:Int) (0:Int) [])).left.ak=(p.U.getD (Int.toNat k) (ae.mk zE zE (0:Int) (0:Int) [])).left.ak/\((p.U.getD (Int.toNat k) (ae.mk zE zE (0:Int) (0:Int) [])).left.aI=(p.U.getD (Int.toNat k) (ae.mk zE zE (0:Int) (0:Int) [])).left.aI/\((p.U.getD (Int.toNat k) (ae.mk zE zE (0:Int) (0:Int) [])).left.M=(p.U.getD (Int.toNat k) (ae.mk zE zE (0:Int) (0:Int) [])).left.M/\((p.U.getD (Int.toNat k) (ae.mk zE zE (0:Int) (0:Int) [])).right.ak=(p.U.getD (Int.toNat k) (ae.mk zE zE (0:Int) (0:Int) [])).right.ak/\((p.U.getD (Int.toNat k) (ae.mk zE zE (0:Int) (0:Int) [])).right.aI=(p.U.getD (Int.toNat k) (ae.mk zE zE (0:Int) (0:Int) [])).right.aI/\((p.U.getD (Int.toNat k) (ae.mk zE zE (0:Int) (0:Int) [])).right.M=(p.U.getD (Int.toNat k) (ae.mk zE zE (0:Int) (0:Int) [])).right.M/\((p.U.getD (Int.toNat k) (ae.mk zE zE (0:Int) (0:Int) [])).bO=(p.U.getD (Int.toNat k) (ae.mk zE zE (0:Int) (0:Int) [])).bO/\((p.U.getD (Int.toNat k) (ae.mk zE zE (0:Int) (0:Int) [])).ref=(p.U.getD (Int.toNat k) (ae.mk zE zE (0:Int) (0:Int) [])).ref/\((p.U.getD (Int.toNat k) (ae.mk zE zE (0:Int) (0:Int) [])).steps=(p.U.getD (Int.toNat k) (ae.mk zE zE (0:Int) (0:Int) [])).steps/\True)))))))))/\True)
theorem Pc(p:av)(k:Int):ck (aL [l9,gI,cX] [] [] [2]) (au jW) (El p k) 0 (bg (aL [l9,gI,cX] [] [] [2]) jW λ r=>bp r [⟨.bool,jT p k⟩]) (aD jW [.val ⟨(.st .proof),p⟩, .val ⟨(.int .i64),k⟩]) =
 ((p.U.length<=140737488355328 ->
 (aw k p.U.length/\(O (p.U.getD (Int.toNat k) (ae.mk zE zE (0:Int) (0:Int) [])).bO ->
 (((!(decide ((p.U.getD (Int.toNat k) (ae.mk zE zE (0:Int) (0:Int) [])).bO=(1:Int))))=true ->
 (((decide ((p.U.getD (Int.toNat k) (ae.mk zE zE (0:Int) (0:Int) [])).ref<k))=true ->
 (aw (p.U.getD (Int.toNat k) (ae.mk zE zE (0:Int) (0:Int) [])).ref p.U.length/\(O (p.U.getD (Int.toNat k) (ae.mk zE zE (0:Int) (0:Int) [])).ref ->
 (p.U.length<=140737488355328 ->
 (O (p.U.getD (Int.toNat k) (ae.mk zE zE (0:Int) (0:Int) [])).ref ->
 (Yu (FZ (p.U.getD (Int.toNat k) (ae.mk zE zE (0:Int) (0:Int) []))) (p.U.getD (Int.toNat (p.U.getD (Int.toNat k) (ae.mk zE zE (0:Int) (0:Int) [])).ref) (ae.mk zE zE (0:Int) (0:Int) []))/\(tO (FZ (p.U.getD (Int.toNat k) (ae.mk zE zE (0:Int) (0:Int) []))) (p.U.getD (Int.toNat (p.U.getD (Int.toNat k) (ae.mk zE zE (0:Int) (0:Int) [])).ref) (ae.mk zE zE (0:Int) (0:Int) [])))=(jT p k)))))))/\((decide ((p.U.getD (Int.toNat k) (ae.mk zE zE (0:Int) (0:Int) [])).ref<k))=(!true) ->
 (O (p.U.getD (Int.toNat k) (ae.mk zE zE (0:Int) (0:Int) [])).ref ->
 false=(jT p k)))))/\((!(decide ((p.U.getD (Int.toNat k) (ae.mk zE zE (0:Int) (0:Int) [])).bO=(1:Int))))=false ->
 ((p.U.getD (Int.toNat k) (ae.mk zE zE (0:Int) (0:Int) [])).steps.length<=140737488355328 ->
 (O (((p.U.getD (Int.toNat k) (ae.mk zE zE (0:Int) (0:Int) [])).steps.length:Int)) ->
 ((∃ j1:Nat,(Bu p k j1/\((k=k/\(p=p/\(True/\(True/\((p.U.getD (Int.toNat k) (ae.mk zE zE (0:Int) (0:Int) [])).steps=(p.U.getD (Int.toNat k) (ae.mk zE zE (0:Int) (0:Int) [])).steps/\((((p.U.getD (Int.toNat k) (ae.mk zE zE (0:Int) (0:Int) [])).steps.length:Int))=(((p.U.getD (Int.toNat k) (ae.mk zE zE (0:Int) (0:Int) [])).steps.length:Int))/\((0:Int)=(j1:Int)/\True)))))))/\(((p.U.getD (Int.toNat k) (ae.mk zE zE (0:Int) (0:Int) [])).left.ak=((dH p k j1).ak)/\((p.U.getD (Int.toNat k) (ae.mk zE zE (0:Int) (0:Int) [])).left.aI=((dH p k j1).aI)/\((p.U.getD (Int.toNat k) (ae.mk zE zE (0:Int) (0:Int) [])).left.M=((dH p k j1).M)/\True)))/\(zY p k)))))/\(∀ j1:Nat,(Bu p k j1 ->
 (((decide ((j1:Int)<(((p.U.getD (Int.toNat k) (ae.mk zE zE (0:Int) (0:Int) [])).steps.length:Int))))=true ->
 (aw (j1:Int) (p.U.getD (Int.toNat k) (ae.mk zE zE (0:Int) (0:Int) [])).steps.length/\(NS p k (J.mk ((dH p k j1).ak) ((dH p k j1).aI) ((dH p k j1).M)) ((p.U.getD (Int.toNat k) (ae.mk zE zE (0:Int) (0:Int) [])).steps.getD j1 (ai.mk (0:Int) false [] [] []))/\(O (fY p k (J.mk ((dH p k j1).ak) ((dH p k j1).aI) ((dH p k j1).M)) ((p.U.getD (Int.toNat k) (ae.mk zE zE (0:Int) (0:Int) [])).steps.getD j1 (ai.mk (0:Int) false [] [] []))) ->
 (((!(decide ((fY p k (J.mk ((dH p k j1).ak) ((dH p k j1).aI) ((dH p k j1).M)) ((p.U.getD (Int.toNat k) (ae.mk zE zE (0:Int) (0:Int) [])).steps.getD j1 (ai.mk (0:Int) false [] [] [])))=(0:Int))))=true ->
 false=(jT p k))/\((!(decide ((fY p k (J.mk ((dH p k j1).ak) ((dH p k j1).aI) ((dH p k j1).M)) ((p.U.getD (Int.toNat k) (ae.mk zE zE (0:Int) (0:Int) [])).steps.getD j1 (ai.mk (0:Int) false [] [] [])))=(0:Int))))=false ->
 (O ((j1:Int)+(1:Int))/\(∃ j2:Nat,(Bu p k j2/\((dv p k).steps.length - j2<(dv p k).steps.length - j1/\((k=k/\(p=p/\(True/\(True/\((p.U.getD (Int.toNat k) (ae.mk zE zE (0:Int) (0:Int) [])).steps=(p.U.getD (Int.toNat k) (ae.mk zE zE (0:Int) (0:Int) [])).steps/\((((p.U.getD (Int.toNat k) (ae.mk zE zE (0:Int) (0:Int) [])).steps.length:Int))=(((p.U.getD (Int.toNat k) (ae.mk zE zE (0:Int) (0:Int) [])).steps.length:Int))/\(((j1:Int)+(1:Int))=(j2:Int)/\True)))))))/\(((iu p k (J.mk ((dH p k j1).ak) ((dH p k j1).aI) ((dH p k j1).M)) ((p.U.getD (Int.toNat k) (ae.mk zE zE (0:Int) (0:Int) [])).steps.getD j1 (ai.mk (0:Int) false [] [] []))).ak=((dH p k j2).ak)/\((iu p k (J.mk ((dH p k j1).ak) ((dH p k j1).aI) ((dH p k j1).M)) ((p.U.getD (Int.toNat k) (ae.mk zE zE (0:Int) (0:Int) [])).steps.getD j1 (ai.mk (0:Int) false [] [] []))).aI=((dH p k j2).aI)/\((iu p k (J.mk ((dH p k j1).ak) ((dH p k j1).aI) ((dH p k j1).M)) ((p.U.getD (Int.toNat k) (ae.mk zE zE (0:Int) (0:Int) [])).steps.getD j1 (ai.mk (0:Int) false [] [] []))).M=((dH p k j2).M)/\True)))/\(zY p k)))))))))))))/\((decide ((j1:Int)<(((p.U.getD (Int.toNat k) (ae.mk zE zE (0:Int) (0:Int) [])).steps.length:Int))))=false ->
 (bw (J.mk ((dH p k j1).ak) ((dH p k j1).aI) ((dH p k j1).M)) (ag (p.U.getD (Int.toNat k) (ae.mk zE zE (0:Int) (0:Int) [])).right))=(jT p k)))))))))))))):=by kernel_rfl
theorem OE(hE:aG [l9,gI,cX]):aJ.Good nH:=by
 refine⟨aA BA rfl (by decide),?_⟩
 show ∀ (p:av) (k:Int),(EU p k)->bh prog vX [.val ⟨(.st .proof),p⟩, .val ⟨(.int .i64),k⟩] (·=[⟨.bool,jT p k⟩])
 intro p k hp
 refine aM (wr:=[]) (cl:=[]) (ro:=[2]) hE BA JH (El p k) ?_
 rewrite [Pc p k]
 refine λ _=>⟨?_,λ _=>⟨λ _=>⟨λ _=>⟨?_,λ _ _ _=>⟨?_,?_⟩⟩,λ _ _=>?_⟩,λ _ _ _=>⟨⟨0,?_,⟨rfl,rfl,trivial,trivial,rfl,rfl,?_,trivial⟩,⟨?_,?_,?_,trivial⟩,⟨rfl,rfl,rfl,rfl,rfl,rfl,rfl,rfl,rfl,trivial⟩,trivial⟩,λ j1 _=>⟨λ _=>⟨?_,?_,λ _=>⟨λ _=>?_,λ _=>⟨?_,j1+1,?_,?_,⟨rfl,rfl,trivial,trivial,rfl,rfl,?_,trivial⟩,⟨?_,?_,?_,trivial⟩,⟨rfl,rfl,rfl,rfl,rfl,rfl,rfl,rfl,rfl,trivial⟩,trivial⟩⟩⟩,λ _=>?_⟩⟩⟩⟩
 all_goals try and_intros
 all_goals try (first|with_reducible rfl|with_reducible assumption)
 all_goals try simp only[J.eta,ae.eta,aj.eta,aP,bM,cn] at *
 all_goals first|with_reducible rfl|with_reducible assumption|exact True.intro|(simp only[a8B,a8w,a8x,a8v] at *;done)|((try simp only[a8T,J.eta,a8p,a8q,a8x,a8v,a8J,a8X,aw,O,br,a8K,a8C,a8N,a8R,a8U] at *);(try simp only[Xf] at *);first|with_reducible exact True.intro|omega|(rw[a4U];done)|exact hp.k0|exact hp.k1|(have:=hp.k1;have:=hp.k0;omega)|exact (hp.i (by omega)).1|(have:=(hp.i (by omega)).2;omega)|exact hp.z (by with_reducible assumption)|exact hp.z (by omega)|(rw[G9 (by with_reducible assumption)];simp only[*,b0f,a9B,a9P,a9L];done)|(rw[G9 (by with_reducible assumption),a8W (by omega),a9B];done)|(rw[G9 (by with_reducible assumption),a8D (by omega),a9L];done)|(have h:Bu p k j1:=(by with_reducible assumption);first|exact h.ap (by omega)|exact h.no (by omega) (by with_reducible assumption)|exact (h.no (by omega) (by with_reducible assumption)).symm|exact h.end (by omega)|exact (h.end (by omega)).symm|exact h.next (by omega) (by with_reducible assumption)|(rw[a0v];done)|exact congrArg _ (a0v _ _ _).symm|(have:=h.jl;omega)))
theorem Ke:aJ.Good nH:=OE ⟨Ie,F8,lp,trivial⟩
def nF:aJ:=⟨vV,[.v (.st .proof)],λ (p:av)=>⟨(some (yW p),[⟨(.int .i64),(ss p:Int)⟩])⟩⟩
def Ej(p:av):Nat->aH:=(λ zb=>if Nat.beq zb 0 then .mk (Nat) (λ k=>xr p k) (λ k=>p.U.length - k) [] [0,4,5] (λ k=>[(7, .aW ⟨(.int .i64),((k:Int):Int)⟩)]) [1,2,3,6,7,8,9,10,11,12,13,14,15,16,17,18] (λ k=>[]) [] [] (λ k=>λ _ => .none) else .none)
theorem Pa(p:av):ck (aL [nH] [] [] [1]) (au jU) (Ej p) 0 (bg (aL [nH] [] [] [1]) jU λ r=>bp r [⟨(.int .i64),(ss p:Int)⟩]) (aD jU [.val ⟨(.st .proof),p⟩]) =
 ((p.U.length<=140737488355328 ->
 (O ((p.U.length:Int)) ->
 ((∃ k1:Nat,(xr p k1/\((p=p/\(((p.U.length:Int))=((p.U.length:Int))/\((0:Int)=(k1:Int)/\True)))/\True)))/\(∀ k1:Nat,(xr p k1 ->
 (((decide ((k1:Int)<((p.U.length:Int))))=true ->
 (EU p (k1:Int)/\(((!(jT p (k1:Int)))=true ->
 (k1:Int)=(ss p:Int))/\((!(jT p (k1:Int)))=false ->
 (O ((k1:Int)+(1:Int))/\(∃ k2:Nat,(xr p k2/\(p.U.length - k2<p.U.length - k1/\((p=p/\(((p.U.length:Int))=((p.U.length:Int))/\(((k1:Int)+(1:Int))=(k2:Int)/\True)))/\True)))))))))/\((decide ((k1:Int)<((p.U.length:Int))))=false ->
 (p.U.length<=140737488355328 ->
 (O ((p.U.length:Int)) ->
 ((p.U.length:Int))=(ss p:Int))))))))))):=by kernel_rfl
theorem OC(hE:aG [nH]):aJ.Good nF:=by
 refine⟨aA By rfl (by decide),?_⟩
 show ∀ (p:av),(yW p)->bh prog vV [.val ⟨(.st .proof),p⟩] (·=[⟨(.int .i64),(ss p:Int)⟩])
 intro p hp
 refine aM (wr:=[]) (cl:=[]) (ro:=[1]) hE By JF (Ej p) ?_
 rewrite [Pa p]
 refine λ _ _=>⟨⟨0,?_,⟨rfl,rfl,?_,trivial⟩,trivial⟩,λ k1 _=>⟨λ _=>⟨?_,λ _=>?_,λ _=>⟨?_,k1+1,?_,?_,⟨rfl,rfl,?_,trivial⟩,trivial⟩⟩,λ _ _ _=>?_⟩⟩
 all_goals try and_intros
 all_goals first|with_reducible rfl|with_reducible assumption|exact True.intro|(simp only[a8B,a8w,a8x,a8v] at *;done)|((try simp only[a8T,J.eta,a8p,a8q,a8x,a8v,a8J,a8X,aw,O,br,a8K,a8C,a8N,a8R,a8U] at *);first|exact True.intro|omega|exact xr.zero (by with_reducible assumption)|(have h:xr p k1:=(by with_reducible assumption);first|exact h.sh (by omega)|exact h.no (by omega) (by with_reducible assumption)|exact (h.no (by omega) (by with_reducible assumption)).symm|exact h.end (by omega)|exact (h.end (by omega)).symm|exact h.next (by omega) (by with_reducible assumption)|(have:=h.kl;omega)))
theorem Kc:aJ.Good nF:=OC ⟨Ke,trivial⟩
def jC:aJ:=⟨rz,[.v (.st .proof)],λ (p:av)=>⟨(none,[⟨(.int .i64),wV p⟩,⟨(.int .i64),wU p⟩])⟩⟩
def yd(p:av):Nat->aH:=λ _ => .none
theorem IM(p:av):ck (aL [jD,nF] [] [] [1]) (au gB) (yd p) 0 (bg (aL [jD,nF] [] [] [1]) gB λ r=>bp r [⟨(.int .i64),wV p⟩,⟨(.int .i64),wU p⟩]) (aD gB [.val ⟨(.st .proof),p⟩]) =
 ((((!(gY p))=true ->
 ((0:Int)=(wV p)/\(1:Int)=(wU p)))/\((!(gY p))=false ->
 (yW p/\(O ((ss p:Int)) ->
 (p.U.length<=140737488355328 ->
 (O ((p.U.length:Int)) ->
 (((decide (((ss p:Int))<((p.U.length:Int))))=true ->
 (((ss p:Int))=(wV p)/\(8:Int)=(wU p)))/\((decide (((ss p:Int))<((p.U.length:Int))))=false ->
 (((ss p:Int))=(wV p)/\(0:Int)=(wU p))))))))))):=by kernel_rfl
theorem IC(hE:aG [jD,nF]):aJ.Good jC:=by
 refine⟨aA wA rfl (by decide),?_⟩
 show ∀ (p:av),True->bh prog rz [.val ⟨(.st .proof),p⟩] (·=[⟨(.int .i64),wV p⟩,⟨(.int .i64),wU p⟩])
 intro p _
 refine aM (wr:=[]) (cl:=[]) (ro:=[1]) hE wA EW (yd p) ?_
 rewrite [IM p]
 refine⟨λ _=>⟨?_,?_⟩,λ _=>⟨?_,λ _ _ _=>⟨λ _=>⟨?_,?_⟩,λ _=>⟨?_,?_⟩⟩⟩⟩
 all_goals try and_intros
 all_goals first|with_reducible rfl|with_reducible assumption|exact True.intro|(simp only[a8B,a8w,a8x,a8v] at *;done)|((try simp only[a8T,J.eta,a8p,a8q,a8x,a8v,a8J,a8X,aw,O,br,a8K,a8C,a8N,a8R,a8U] at *);first|exact True.intro|exact⟨(by with_reducible assumption)⟩|exact (FU (by with_reducible assumption)).1|exact ((FU (by with_reducible assumption)).1).symm|exact (FU (by with_reducible assumption)).2|exact ((FU (by with_reducible assumption)).2).symm|exact (FT (by with_reducible assumption) (by omega)).1|exact ((FT (by with_reducible assumption) (by omega)).1).symm|exact (FT (by with_reducible assumption) (by omega)).2|exact ((FT (by with_reducible assumption) (by omega)).2).symm|exact (FR (by with_reducible assumption) (by omega)).1|exact ((FR (by with_reducible assumption) (by omega)).1).symm|exact (FR (by with_reducible assumption) (by omega)).2|exact ((FR (by with_reducible assumption) (by omega)).2).symm|omega)
theorem E3:aJ.Good jC:=IC ⟨E4,Kc,trivial⟩
end
end Go.Proofs.YtmjfpcajohhbeaaGreatDoor

set_option maxRecDepth 4000
set_option maxHeartbeats 4000000
namespace Go.Proofs.YtmjfpcajohhbeaaGreatDoor
noncomputable section
theorem MR{gg:aO}(h:bK gg=true)(x:J):uu gg x=cg gg x:=by unfold uu;rw[h];rfl
theorem a7o(x:Int):decide (0<=x/\x<=1)=pZ 2 x:=rfl
theorem Zs(n m:Int):decide (n<=m) = !decide (m<n):=by
 by_cases h:n<=m
 .rw[a8W h,a8D (by omega)];rfl
 .rw[a8D h,a8W (by omega)];rfl
def stG(s:ai):Bool:=decide (-40<=s.use/\s.use<=23)&&(!decide (40<(s.path.length:Int))&&(!decide (3<(s.aq.length:Int)) && !decide (4<(s.bm.length:Int))))
theorem WR(gg:aO)(s:ai):mQ gg s=(stG s&&(bq (pZ 2) s.path&&(bq (cg gg) s.aq&&(bq bj s.aq&&bq (cg gg) s.bm)))):=by
 unfold mQ stG
 rw[Zs (s.path.length:Int) 40,Zs (s.aq.length:Int) 3,Zs (s.bm.length:Int) 4]
 cases decide (-40<=s.use/\s.use<=23)<;>cases decide (40<(s.path.length:Int))<;>cases decide (3<(s.aq.length:Int))<;>cases decide (4<(s.bm.length:Int))<;>cases bq (pZ 2) s.path<;>cases bq (cg gg) s.aq<;>cases bq bj s.aq<;>cases bq (cg gg) s.bm<;>rfl
structure tK{α:Type}(f:α->Bool)(xs:List α)(k:Nat):Prop where
 le:k<=xs.length
 al:bq f (xs.take k)=true
theorem tK.zero{α:Type}(f:α->Bool)(xs:List α):tK f xs 0:=⟨a9J _,all_zero f xs⟩
theorem tK.next{α:Type}{f:α->Bool}{xs:List α}{k:Nat}(h:tK f xs k)(z:α)(hk:k<xs.length)(hb:f (xs.getD k z)=true):tK f xs (k+1):=⟨hk,by rw[dy f z xs k hk,h.al,hb];rfl⟩
theorem tK.bad{α:Type}{f:α->Bool}{xs:List α}{k:Nat}(_:tK f xs k)(z:α)(hk:k<xs.length)(hb:f (xs.getD k z)=false):bq f xs=false:=dW f z xs k hk hb
theorem tK.done{α:Type}{f:α->Bool}{xs:List α}{k:Nat}(h:tK f xs k)(hk:xs.length<=k):bq f xs=true:=by
 have:=h.al
 rwa [a9d hk] at this
def gi:aJ:=⟨oz,[.v (.slice (.st .expr))],λ (xs:List J)=>⟨(none,[⟨.bool,bq bj xs⟩])⟩⟩
def tH(xs:List J):Nat->aH:=(λ zb=>if Nat.beq zb 0 then .mk (Nat) (λ k=>tK bj xs k) (λ k=>xs.length - k) [] [1] (λ k=>[(3, .aW ⟨(.int .i64),((k:Int):Int)⟩)]) [0,2,3,4,5,6,7,8,9,10,11,12,13,14] (λ k=>[]) [] [] (λ k=>λ _ => .none) else .none)
theorem DU(xs:List J):ck (aL [ea]) (au eL) (tH xs) 0 (bg (aL [ea]) eL λ r=>bp r [⟨.bool,bq bj xs⟩]) (aD eL [.val ⟨(.slice (.st .expr)),xs⟩]) =
 (((∃ k1:Nat,(tK bj xs k1/\((xs=xs/\((0:Int)=(k1:Int)/\True))/\True)))/\(∀ k1:Nat,(tK bj xs k1 ->
 (O ((xs.length:Int)) ->
 (((decide ((k1:Int)<((xs.length:Int))))=true ->
 (aw (k1:Int) xs.length/\(((!(bj (xs.getD k1 zE)))=true ->
 false=(bq bj xs))/\((!(bj (xs.getD k1 zE)))=false ->
 (O ((k1:Int)+(1:Int))/\(∃ k2:Nat,(tK bj xs k2/\(xs.length - k2<xs.length - k1/\((xs=xs/\(((k1:Int)+(1:Int))=(k2:Int)/\True))/\True)))))))))/\((decide ((k1:Int)<((xs.length:Int))))=false ->
 true=(bq bj xs)))))))):=by kernel_rfl
theorem DI(hE:aG [ea]):aJ.Good gi:=by
 refine⟨aA sA rfl (by decide),?_⟩
 show ∀ (xs:List J),True->bh prog oz [.val ⟨(.slice (.st .expr)),xs⟩] (·=[⟨.bool,bq bj xs⟩])
 intro xs _
 refine aM (wr:=[]) (cl:=[]) (ro:=[]) hE sA AO (tH xs) ?_
 rewrite [DU xs]
 refine⟨⟨0,?_,⟨rfl,?_,trivial⟩,trivial⟩,λ k1 _ _=>⟨λ _=>⟨?_,λ _=>?_,λ _=>⟨?_,k1+1,?_,?_,⟨rfl,?_,trivial⟩,trivial⟩⟩,λ _=>?_⟩⟩
 all_goals try and_intros
 all_goals first|with_reducible rfl|with_reducible assumption|exact True.intro|(simp only[a8B,a8w,a8x,a8v] at *;done)|((try simp only[a8T,J.eta,a8p,a8q,a8x,a8v,a8J,a8X,aw,O,br,a8K,a8C,a8N,a8R,a8U] at *);  first|with_reducible exact True.intro|omega|exact tK.zero _ _|(have h:tK bj xs k1:=(by with_reducible assumption);first|exact h.bad _ (by omega) (by with_reducible assumption)|exact (h.bad _ (by omega) (by with_reducible assumption)).symm|exact h.done (by omega)|exact (h.done (by omega)).symm|exact h.next _ (by omega) (by with_reducible assumption)|(have:=h.le;omega)))
theorem AW:aJ.Good gi:=DI ⟨l6,trivial⟩
def mq:aJ:=⟨uq,[.v (.st .sig), .v (.slice (.st .expr))],λ (gg:aO) (xs:List J)=>⟨(some (bK gg=true),[⟨.bool,bq (cg gg) xs⟩])⟩⟩
def CE(gg:aO)(xs:List J):Nat->aH:=(λ zb=>if Nat.beq zb 0 then .mk (Nat) (λ k=>tK (cg gg) xs k) (λ k=>xs.length - k) [] [0,3] (λ k=>[(5, .aW ⟨(.int .i64),((k:Int):Int)⟩)]) [1,2,4,5,6,7,8,9,10,11,12,13,14,15,16,17] (λ k=>[]) [] [] (λ k=>λ _ => .none) else .none)
theorem NM(gg:aO)(xs:List J):ck (aL [eQ] [] [] [2]) (au ju) (CE gg xs) 0 (bg (aL [eQ] [] [] [2]) ju λ r=>bp r [⟨.bool,bq (cg gg) xs⟩]) (aD ju [.val ⟨(.st .sig),gg⟩, .val ⟨(.slice (.st .expr)),xs⟩]) =
 (((∃ k1:Nat,(tK (cg gg) xs k1/\((xs=xs/\(gg=gg/\((0:Int)=(k1:Int)/\True)))/\True)))/\(∀ k1:Nat,(tK (cg gg) xs k1 ->
 (O ((xs.length:Int)) ->
 (((decide ((k1:Int)<((xs.length:Int))))=true ->
 (aw (k1:Int) xs.length/\(((!(uu gg (xs.getD k1 zE)))=true ->
 false=(bq (cg gg) xs))/\((!(uu gg (xs.getD k1 zE)))=false ->
 (O ((k1:Int)+(1:Int))/\(∃ k2:Nat,(tK (cg gg) xs k2/\(xs.length - k2<xs.length - k1/\((xs=xs/\(gg=gg/\(((k1:Int)+(1:Int))=(k2:Int)/\True)))/\True)))))))))/\((decide ((k1:Int)<((xs.length:Int))))=false ->
 true=(bq (cg gg) xs)))))))):=by kernel_rfl
theorem M5(hE:aG [eQ]):aJ.Good mq:=by
 refine⟨aA zL rfl (by decide),?_⟩
 show ∀ (gg:aO) (xs:List J),(bK gg=true)->bh prog uq [.val ⟨(.st .sig),gg⟩, .val ⟨(.slice (.st .expr)),xs⟩] (·=[⟨.bool,bq (cg gg) xs⟩])
 intro gg xs hp
 refine aM (wr:=[]) (cl:=[]) (ro:=[2]) hE zL Ia (CE gg xs) ?_
 rewrite [NM gg xs]
 have ok:=MR hp
 refine⟨⟨0,?_,⟨rfl,rfl,?_,trivial⟩,trivial⟩,λ k1 _ _=>⟨λ _=>⟨?_,λ _=>?_,λ _=>⟨?_,k1+1,?_,?_,⟨rfl,rfl,?_,trivial⟩,trivial⟩⟩,λ _=>?_⟩⟩
 all_goals try and_intros
 all_goals first|with_reducible rfl|with_reducible assumption|exact True.intro|(simp only[a8B,a8w,a8x,a8v] at *;done)|((try simp only[a8T,J.eta,a8p,a8q,a8x,a8v,a8J,a8X,aw,O,br,a8K,a8C,a8N,a8R,a8U] at *);(try simp only[ok] at *);first|with_reducible exact True.intro|omega|exact tK.zero _ _|(have h:tK (cg gg) xs k1:=(by with_reducible assumption);first|exact h.bad _ (by omega) (by with_reducible assumption)|exact (h.bad _ (by omega) (by with_reducible assumption)).symm|exact h.done (by omega)|exact (h.done (by omega)).symm|exact h.next _ (by omega) (by with_reducible assumption)|(have:=h.le;omega)))
theorem It:aJ.Good mq:=M5 ⟨pK,trivial⟩
structure VK(gg:aO)(s:ai)(j:Nat):Prop where
 t:tK (pZ 2) s.path j
 g:stG s=true
theorem a5W{gg:aO}{s:ai}(h:stG s=false):mQ gg s=false:=by rw[WR,h];rfl
theorem VK.bad{gg:aO}{s:ai}{j:Nat}(h:VK gg s j)(hj:j<s.path.length)(hb:pZ 2 (s.path.getD j 0)=false):mQ gg s=false:=by rw[WR,h.t.bad 0 hj hb,a9L,a9P]
theorem VK.end{gg:aO}{s:ai}{j:Nat}(h:VK gg s j)(hj:s.path.length<=j):mQ gg s=(bq (cg gg) s.aq&&(bq bj s.aq&&bq (cg gg) s.bm)):=by rw[WR,h.g,h.t.done hj];rfl
def nT:aJ:=⟨wm,[.v (.st .sig), .r (.st .proofStep)],λ (gg:aO) (s:ai)=>⟨(some (bK gg=true),[⟨.bool,mQ gg s⟩])⟩⟩
def EF(gg:aO)(s:ai):Nat->aH:=(λ zb=>if Nat.beq zb 0 then .mk (Nat) (λ j=>VK gg s j) (λ j=>s.path.length - j) [] [0,3,6,7,8,9,10,11,12,13,14,15,16,17,18,19,20,21,22,23,24,25,26,27,28,29,30,31,32,33,34,35,36,37,38] (λ j=>[(5, .aW ⟨(.int .i64),((j:Int):Int)⟩)]) [1,2,4,5,39,40,41,42,43,44,45,46,47,48,49,50,51,52,53,54,55,56,57,58,59,60,61,62,63,64,65,66,67,68,69,70,71,72,73,74,75,76,77] (λ j=>[]) [] [] (λ j=>λ _ => .none) else .none)
abbrev sR(gg:aO)(s:ai):Prop:=((∃ j1:Nat,(VK gg s j1/\((s=s/\(gg=gg/\((0:Int)=(j1:Int)/\True)))/\True)))/\(∀ j1:Nat,(VK gg s j1 ->
 (s.path.length<=140737488355328 ->
 (O ((s.path.length:Int)) ->
 (((decide ((j1:Int)<((s.path.length:Int))))=true ->
 (s.path.length<=140737488355328 ->
 (aw (j1:Int) s.path.length/\(O (s.path.getD j1 (0:Int)) ->
 ((((!(decide ((0:Int)<=(s.path.getD j1 (0:Int))/\(s.path.getD j1 (0:Int))<=(1:Int))))=true) ->
 false=(mQ gg s))/\(((!(decide ((0:Int)<=(s.path.getD j1 (0:Int))/\(s.path.getD j1 (0:Int))<=(1:Int))))=false) ->
 (O ((j1:Int)+(1:Int))/\(∃ j2:Nat,(VK gg s j2/\(s.path.length - j2<s.path.length - j1/\((s=s/\(gg=gg/\(((j1:Int)+(1:Int))=(j2:Int)/\True)))/\True)))))))))))/\((decide ((j1:Int)<((s.path.length:Int))))=false ->
 (bK gg=true/\(((bq (cg gg) s.aq)=true ->
 (((bq bj s.aq)=true ->
 (s.aq.length<=140737488355328 ->
 (s.aq.length<=140737488355328 ->
 (s.bm.length<=140737488355328 ->
 (bK gg=true/\(bq (cg gg) s.bm)=(mQ gg s))))))/\((bq bj s.aq)=(!true) ->
 (s.aq.length<=140737488355328 ->
 (s.aq.length<=140737488355328 ->
 false=(mQ gg s))))))/\((bq (cg gg) s.aq)=(!true) ->
 ((false=true ->
 (s.aq.length<=140737488355328 ->
 (s.bm.length<=140737488355328 ->
 (bK gg=true/\(bq (cg gg) s.bm)=(mQ gg s)))))/\(false=(!true) ->
 (s.aq.length<=140737488355328 ->
 false=(mQ gg s))))))))))))))
abbrev Ad(gg:aO)(s:ai):Prop:=(s.bm.length<=140737488355328 ->
 (O ((s.bm.length:Int)) ->
 (((decide ((4:Int)<((s.bm.length:Int))))=true ->
 false=(mQ gg s))/\((decide ((4:Int)<((s.bm.length:Int))))=false ->
 (sR gg s)))))
abbrev Ae(gg:aO)(s:ai):Prop:=(s.aq.length<=140737488355328 ->
 (O ((s.aq.length:Int)) ->
 (((decide ((3:Int)<((s.aq.length:Int))))=false ->
 (Ad gg s))/\((decide ((3:Int)<((s.aq.length:Int))))=(!false) ->
 ((true=true ->
 false=(mQ gg s))/\(true=false ->
 (sR gg s)))))))
abbrev Af(gg:aO)(s:ai):Prop:=((true=false ->
 (Ad gg s))/\(true=(!false) ->
 ((true=true ->
 false=(mQ gg s))/\(true=false ->
 (sR gg s)))))
theorem Py(gg:aO)(s:ai):ck (aL [cV,dt,mq,gi] [] [] [2]) (au kv) (EF gg s) 0 (bg (aL [cV,dt,mq,gi] [] [] [2]) kv λ r=>bp r [⟨.bool,mQ gg s⟩]) (aD kv [.val ⟨(.st .sig),gg⟩, .ref ⟨(.st .proofStep),s⟩]) =
 ((O ((((nh).length:Int)) - (1:Int))/\(O s.use ->
 ((nh).length<=140737488355328 ->
 (O (((nh).length:Int)) ->
 ((((!(decide ((-40:Int)<=s.use/\s.use<=((((nh).length:Int)) - (1:Int)))))=false) ->
 (s.path.length<=140737488355328 ->
 (O ((s.path.length:Int)) ->
 (((decide ((40:Int)<((s.path.length:Int))))=false ->
 (Ae gg s))/\((decide ((40:Int)<((s.path.length:Int))))=(!false) ->
 (Af gg s))))))/\(((!(decide ((-40:Int)<=s.use/\s.use<=((((nh).length:Int)) - (1:Int)))))=(!false)) ->
 ((true=false ->
 (Ae gg s))/\(true=(!false) ->
 (Af gg s)))))))))):=by kernel_rfl
theorem OY(hE:aG [cV,dt,mq,gi]):aJ.Good nT:=by
 refine⟨aA BN rfl (by decide),?_⟩
 show ∀ (gg:aO) (s:ai),(bK gg=true)->bh prog wm [.val ⟨(.st .sig),gg⟩, .ref ⟨(.st .proofStep),s⟩] (·=[⟨.bool,mQ gg s⟩])
 intro gg s hp
 refine aM (wr:=[]) (cl:=[]) (ro:=[2]) hE BN J1 (EF gg s) ?_
 rewrite [Py gg s]
 have f0:(nh.length:Int) - 1=23:=by rw[qp];rfl
 refine⟨?_,λ _ _ _=>⟨λ _ _ _=>⟨λ _ _ _=>⟨λ _ _ _=>⟨λ _=>?_,λ _=>⟨⟨0,?_,⟨rfl,rfl,?_,trivial⟩,trivial⟩,λ j1 _ _ _=>⟨λ _ _=>⟨?_,λ _=>⟨λ _=>?_,λ _=>⟨?_,j1+1,?_,?_,⟨rfl,rfl,?_,trivial⟩,trivial⟩⟩⟩,λ _=>⟨?_,λ _=>⟨λ _ _ _ _=>⟨?_,?_⟩,λ _ _ _=>?_⟩,λ _=>⟨λ _ _ _=>⟨?_,?_⟩,λ _ _=>?_⟩⟩⟩⟩⟩,λ _=>⟨λ _=>?_,λ _=>⟨⟨0,?_,⟨rfl,rfl,?_,trivial⟩,trivial⟩,λ j1 _ _ _=>⟨λ _ _=>⟨?_,λ _=>⟨λ _=>?_,λ _=>⟨?_,j1+1,?_,?_,⟨rfl,rfl,?_,trivial⟩,trivial⟩⟩⟩,λ _=>⟨?_,λ _=>⟨λ _ _ _ _=>⟨?_,?_⟩,λ _ _ _=>?_⟩,λ _=>⟨λ _ _ _=>⟨?_,?_⟩,λ _ _=>?_⟩⟩⟩⟩⟩⟩,λ _=>⟨λ _ _ _=>⟨λ _=>?_,λ _=>⟨⟨0,?_,⟨rfl,rfl,?_,trivial⟩,trivial⟩,λ j1 _ _ _=>⟨λ _ _=>⟨?_,λ _=>⟨λ _=>?_,λ _=>⟨?_,j1+1,?_,?_,⟨rfl,rfl,?_,trivial⟩,trivial⟩⟩⟩,λ _=>⟨?_,λ _=>⟨λ _ _ _ _=>⟨?_,?_⟩,λ _ _ _=>?_⟩,λ _=>⟨λ _ _ _=>⟨?_,?_⟩,λ _ _=>?_⟩⟩⟩⟩⟩,λ _=>⟨λ _=>?_,λ _=>⟨⟨0,?_,⟨rfl,rfl,?_,trivial⟩,trivial⟩,λ j1 _ _ _=>⟨λ _ _=>⟨?_,λ _=>⟨λ _=>?_,λ _=>⟨?_,j1+1,?_,?_,⟨rfl,rfl,?_,trivial⟩,trivial⟩⟩⟩,λ _=>⟨?_,λ _=>⟨λ _ _ _ _=>⟨?_,?_⟩,λ _ _ _=>?_⟩,λ _=>⟨λ _ _ _=>⟨?_,?_⟩,λ _ _=>?_⟩⟩⟩⟩⟩⟩⟩,λ _=>⟨λ _ _ _=>⟨λ _ _ _=>⟨λ _=>?_,λ _=>⟨⟨0,?_,⟨rfl,rfl,?_,trivial⟩,trivial⟩,λ j1 _ _ _=>⟨λ _ _=>⟨?_,λ _=>⟨λ _=>?_,λ _=>⟨?_,j1+1,?_,?_,⟨rfl,rfl,?_,trivial⟩,trivial⟩⟩⟩,λ _=>⟨?_,λ _=>⟨λ _ _ _ _=>⟨?_,?_⟩,λ _ _ _=>?_⟩,λ _=>⟨λ _ _ _=>⟨?_,?_⟩,λ _ _=>?_⟩⟩⟩⟩⟩,λ _=>⟨λ _=>?_,λ _=>⟨⟨0,?_,⟨rfl,rfl,?_,trivial⟩,trivial⟩,λ j1 _ _ _=>⟨λ _ _=>⟨?_,λ _=>⟨λ _=>?_,λ _=>⟨?_,j1+1,?_,?_,⟨rfl,rfl,?_,trivial⟩,trivial⟩⟩⟩,λ _=>⟨?_,λ _=>⟨λ _ _ _ _=>⟨?_,?_⟩,λ _ _ _=>?_⟩,λ _=>⟨λ _ _ _=>⟨?_,?_⟩,λ _ _=>?_⟩⟩⟩⟩⟩⟩,λ _=>⟨λ _ _ _=>⟨λ _=>?_,λ _=>⟨⟨0,?_,⟨rfl,rfl,?_,trivial⟩,trivial⟩,λ j1 _ _ _=>⟨λ _ _=>⟨?_,λ _=>⟨λ _=>?_,λ _=>⟨?_,j1+1,?_,?_,⟨rfl,rfl,?_,trivial⟩,trivial⟩⟩⟩,λ _=>⟨?_,λ _=>⟨λ _ _ _ _=>⟨?_,?_⟩,λ _ _ _=>?_⟩,λ _=>⟨λ _ _ _=>⟨?_,?_⟩,λ _ _=>?_⟩⟩⟩⟩⟩,λ _=>⟨λ _=>?_,λ _=>⟨⟨0,?_,⟨rfl,rfl,?_,trivial⟩,trivial⟩,λ j1 _ _ _=>⟨λ _ _=>⟨?_,λ _=>⟨λ _=>?_,λ _=>⟨?_,j1+1,?_,?_,⟨rfl,rfl,?_,trivial⟩,trivial⟩⟩⟩,λ _=>⟨?_,λ _=>⟨λ _ _ _ _=>⟨?_,?_⟩,λ _ _ _=>?_⟩,λ _=>⟨λ _ _ _=>⟨?_,?_⟩,λ _ _=>?_⟩⟩⟩⟩⟩⟩⟩⟩⟩
 all_goals try and_intros
 all_goals first|with_reducible rfl|with_reducible assumption|exact True.intro|(simp only[Bool.true_eq_false,Bool.false_eq_true,Bool.not_true,Bool.not_false] at *;done)|exact hp|(have e:=qp;clear f0;simp only[e];done)|(have e:=qp;omega)|((try simp only[f0,a7o,Bool.not_true,Bool.not_false,Bool.not_eq_true',Bool.not_eq_false'] at *);first|with_reducible exact True.intro|(refine (a5W ?_).symm;(unfold stG;simp only[*,Bool.and_true,Bool.true_and,Bool.and_false,Bool.false_and,Bool.not_true,Bool.not_false];done))|(refine⟨tK.zero _ _,?_⟩;(unfold stG;simp only[*,Bool.and_true,Bool.true_and,Bool.and_false,Bool.false_and,Bool.not_true,Bool.not_false];done))|(have h:VK gg s j1:=(by with_reducible assumption);first|exact (h.bad (by simp only[decide_eq_true_eq,decide_eq_false_iff_not] at *;omega) (by with_reducible assumption)).symm|exact⟨h.t.next 0 (by simp only[decide_eq_true_eq,decide_eq_false_iff_not] at *;omega) (by with_reducible assumption),h.g⟩|(rw[h.end (by simp only[decide_eq_true_eq,decide_eq_false_iff_not] at *;omega)];simp only[*,Bool.and_true,Bool.true_and,Bool.and_false,Bool.false_and];done)|(have:=h.t.le;simp only[aw,O,br,decide_eq_true_eq,decide_eq_false_iff_not] at *;omega))|(simp only[aw,O,br,decide_eq_true_eq,decide_eq_false_iff_not] at *;omega))
theorem Kx:aJ.Good nT:=OY ⟨l5,qs,It,AW,trivial⟩
end
end Go.Proofs.YtmjfpcajohhbeaaGreatDoor

set_option maxRecDepth 4000
set_option maxHeartbeats 4000000
namespace Go.Proofs.YtmjfpcajohhbeaaGreatDoor
noncomputable section
structure Qt(gg:aO)(c:ae)(j:Nat):Prop where
 t:tK (mQ gg) c.steps j
 g:y9 gg c=true
theorem Qt.bad{gg:aO}{c:ae}{j:Nat}(h:Qt gg c j)(hj:j<c.steps.length)(hb:mQ gg (c.steps.getD j (ai.mk (0:Int) false [] [] []))=false):oW gg c=false:=by rw[De,h.t.bad _ hj hb,a9P]
theorem Qt.end{gg:aO}{c:ae}{j:Nat}(h:Qt gg c j)(hj:c.steps.length<=j):oW gg c=true:=by rw[De,h.g,h.t.done hj];rfl
theorem Qt.zero{gg:aO}{c:ae}(g:y9 gg c=true):Qt gg c 0:=⟨tK.zero _ _,g⟩
def mn:aJ:=⟨um,[.v (.st .sig), .r (.st .claim)],λ (gg:aO) (c:ae)=>⟨(some (bK gg=true),[⟨.bool,oW gg c⟩])⟩⟩
def CC(gg:aO)(c:ae):Nat->aH:=(λ zb=>if Nat.beq zb 100003 then .mk (Unit) (λ u=>CT gg c) (λ u=>0) [] [0,3,6,7,8,9,10,11,12,13,14,15,16,17,18,19,20,21,22,23,24,25,26,27,28,29,30,31,32,33,34,35] (λ u=>[]) [1,2,4,5,36,37,38,39,40,41,42,43,44,45,46,47,48,49,50,51,52,53,54,55,56,57,58,59,60,61,62,63,64,65,66,67,68,69,70,71,72,73,74,75,76,77,78,79,80,81,82,83,84,85,86,87,88] (λ u=>[]) [] [] (λ u=>(λ zb=>if Nat.beq zb 100005 then .mk (Unit) (λ u=>y9 gg c=true) (λ u=>0) [] [0,3,6,7,8,9,10,11,12,13,14,15,16,17,18,19,20,21,22,23,24,25,26,27,28,29,30,31,32,33,34,35,36,37,38,39,40,41,42,43,44,45,46,47,48,49,50,51,52,53,54,55,56,57,58,59,60,61,62,63,64,65,66,67,68,69,70] (λ u=>[]) [1,2,4,5,71,72,73,74,75,76,77,78,79,80,81,82,83,84,85,86,87,88] (λ u=>[]) [] [] (λ u=>(λ zb=>if Nat.beq zb 0 then .mk (Nat) (λ j=>Qt gg c j) (λ j=>c.steps.length - j) [] [0,3,6,7,8,9,10,11,12,13,14,15,16,17,18,19,20,21,22,23,24,25,26,27,28,29,30,31,32,33,34,35,36,37,38,39,40,41,42,43,44,45,46,47,48,49,50,51,52,53,54,55,56,57,58,59,60,61,62,63,64,65,66,67,68,69,70] (λ j=>[(5, .aW ⟨(.int .i64),((j:Int):Int)⟩)]) [1,2,4,5,71,72,73,74,75,76,77,78,79,80,81,82,83,84,85,86,87,88] (λ j=>[]) [] [] (λ j=>λ _ => .none) else .none)) else .none)) else .none)
abbrev x7(gg:aO)(c:ae):Prop:=(O c.ref ->
 ((((!(decide ((0:Int)<=c.ref/\c.ref<=(39:Int))))=true) ->
 false=(oW gg c))/\(((!(decide ((0:Int)<=c.ref/\c.ref<=(39:Int))))=false) ->
 (∃ u1:Unit,(CT gg c/\((c=c/\(gg=gg/\True))/\True))))))
abbrev x8(gg:aO)(c:ae):Prop:=(O c.bO ->
 ((((!(decide ((1:Int)<=c.bO/\c.bO<=(3:Int))))=false) ->
 (x7 gg c))/\(((!(decide ((1:Int)<=c.bO/\c.bO<=(3:Int))))=(!false)) ->
 ((true=true ->
 false=(oW gg c))/\(true=false ->
 (∃ u1:Unit,(CT gg c/\((c=c/\(gg=gg/\True))/\True))))))))
abbrev ya(gg:aO)(c:ae):Prop:=((true=false ->
 (x7 gg c))/\(true=(!false) ->
 ((true=true ->
 false=(oW gg c))/\(true=false ->
 (∃ u1:Unit,(CT gg c/\((c=c/\(gg=gg/\True))/\True)))))))
abbrev rv(gg:aO)(c:ae):Prop:=(c.steps.length<=140737488355328 ->
 (O ((c.steps.length:Int)) ->
 (((decide ((60:Int)<((c.steps.length:Int))))=true ->
 false=(oW gg c))/\((decide ((60:Int)<((c.steps.length:Int))))=false ->
 (∃ u2:Unit,(y9 gg c=true/\((c=c/\(gg=gg/\True))/\True)))))))
abbrev yb(gg:aO)(c:ae):Prop:=(O c.bO ->
 (((!(decide (c.bO=(1:Int))))=true ->
 (c.steps.length<=140737488355328 ->
 (O ((c.steps.length:Int)) ->
 (((decide ((0:Int)<((c.steps.length:Int))))=false ->
 (rv gg c))/\((decide ((0:Int)<((c.steps.length:Int))))=(!false) ->
 ((true=true ->
 false=(oW gg c))/\(true=false ->
 (∃ u2:Unit,(y9 gg c=true/\((c=c/\(gg=gg/\True))/\True))))))))))/\((!(decide (c.bO=(1:Int))))=(!true) ->
 ((false=false ->
 (rv gg c))/\(false=(!false) ->
 ((true=true ->
 false=(oW gg c))/\(true=false ->
 (∃ u2:Unit,(y9 gg c=true/\((c=c/\(gg=gg/\True))/\True))))))))))
abbrev yc(gg:aO)(c:ae):Prop:=((true=false ->
 (rv gg c))/\(true=(!false) ->
 ((true=true ->
 false=(oW gg c))/\(true=false ->
 (∃ u2:Unit,(y9 gg c=true/\((c=c/\(gg=gg/\True))/\True)))))))
theorem NK(gg:aO)(c:ae):ck (aL [eQ,cV,nT] [] [] [2]) (au jr) (CC gg c) 0 (bg (aL [eQ,cV,nT] [] [] [2]) jr λ r=>bp r [⟨.bool,oW gg c⟩]) (aD jr [.val ⟨(.st .sig),gg⟩, .ref ⟨(.st .claim),c⟩]) =
 (((((!(uu gg c.left))=false ->
 (((!(uu gg c.right))=false ->
 (x8 gg c))/\((!(uu gg c.right))=(!false) ->
 (ya gg c))))/\((!(uu gg c.left))=(!false) ->
 ((true=false ->
 (x8 gg c))/\(true=(!false) ->
 (ya gg c)))))/\(∀ u1:Unit,(CT gg c ->
 ((O c.bO ->
 (((decide (c.bO=(1:Int)))=true ->
 (O c.ref ->
 (((!(decide (c.ref=(0:Int))))=false ->
 (yb gg c))/\((!(decide (c.ref=(0:Int))))=(!false) ->
 (yc gg c)))))/\((decide (c.bO=(1:Int)))=(!true) ->
 ((false=false ->
 (yb gg c))/\(false=(!false) ->
 (yc gg c))))))/\(∀ u2:Unit,(y9 gg c=true ->
 ((∃ j3:Nat,(Qt gg c j3/\((c=c/\(gg=gg/\((0:Int)=(j3:Int)/\True)))/\True)))/\(∀ j3:Nat,(Qt gg c j3 ->
 (c.steps.length<=140737488355328 ->
 (O ((c.steps.length:Int)) ->
 (((decide ((j3:Int)<((c.steps.length:Int))))=true ->
 (aw (j3:Int) c.steps.length/\(c.steps.length<=140737488355328 ->
 (bK gg=true/\(((!(mQ gg (c.steps.getD j3 (ai.mk (0:Int) false [] [] []))))=true ->
 false=(oW gg c))/\((!(mQ gg (c.steps.getD j3 (ai.mk (0:Int) false [] [] []))))=false ->
 (O ((j3:Int)+(1:Int))/\(∃ j4:Nat,(Qt gg c j4/\(c.steps.length - j4<c.steps.length - j3/\((c=c/\(gg=gg/\(((j3:Int)+(1:Int))=(j4:Int)/\True)))/\True)))))))))))/\((decide ((j3:Int)<((c.steps.length:Int))))=false ->
 true=(oW gg c))))))))))))))):=by kernel_rfl
theorem M3(hE:aG [eQ,cV,nT]):aJ.Good mn:=by
 refine⟨aA zJ rfl (by decide),?_⟩
 show ∀ (gg:aO) (c:ae),(bK gg=true)->bh prog um [.val ⟨(.st .sig),gg⟩, .ref ⟨(.st .claim),c⟩] (·=[⟨.bool,oW gg c⟩])
 intro gg c hp
 refine aM (wr:=[]) (cl:=[]) (ro:=[2]) hE zJ H8 (CC gg c) ?_
 rewrite [NK gg c]
 have ok:=MR hp
 refine⟨⟨λ _=>⟨λ _ _=>⟨λ _ _=>⟨λ _=>?_,λ _=>⟨(),?_,⟨rfl,rfl,trivial⟩,trivial⟩⟩,λ _=>⟨λ _=>?_,λ _=>⟨(),?_,⟨rfl,rfl,trivial⟩,trivial⟩⟩⟩,λ _=>⟨λ _ _=>⟨λ _=>?_,λ _=>⟨(),?_,⟨rfl,rfl,trivial⟩,trivial⟩⟩,λ _=>⟨λ _=>?_,λ _=>⟨(),?_,⟨rfl,rfl,trivial⟩,trivial⟩⟩⟩⟩,λ _=>⟨λ _ _=>⟨λ _ _=>⟨λ _=>?_,λ _=>⟨(),?_,⟨rfl,rfl,trivial⟩,trivial⟩⟩,λ _=>⟨λ _=>?_,λ _=>⟨(),?_,⟨rfl,rfl,trivial⟩,trivial⟩⟩⟩,λ _=>⟨λ _ _=>⟨λ _=>?_,λ _=>⟨(),?_,⟨rfl,rfl,trivial⟩,trivial⟩⟩,λ _=>⟨λ _=>?_,λ _=>⟨(),?_,⟨rfl,rfl,trivial⟩,trivial⟩⟩⟩⟩⟩,λ u1 _=>⟨λ _=>⟨λ _ _=>⟨λ _ _=>⟨λ _ _ _=>⟨λ _ _ _=>⟨λ _=>?_,λ _=>⟨(),?_,⟨rfl,rfl,trivial⟩,trivial⟩⟩,λ _=>⟨λ _=>?_,λ _=>⟨(),?_,⟨rfl,rfl,trivial⟩,trivial⟩⟩⟩,λ _=>⟨λ _ _ _=>⟨λ _=>?_,λ _=>⟨(),?_,⟨rfl,rfl,trivial⟩,trivial⟩⟩,λ _=>⟨λ _=>?_,λ _=>⟨(),?_,⟨rfl,rfl,trivial⟩,trivial⟩⟩⟩⟩,λ _=>⟨λ _ _ _=>⟨λ _=>?_,λ _=>⟨(),?_,⟨rfl,rfl,trivial⟩,trivial⟩⟩,λ _=>⟨λ _=>?_,λ _=>⟨(),?_,⟨rfl,rfl,trivial⟩,trivial⟩⟩⟩⟩,λ _=>⟨λ _ _=>⟨λ _ _ _=>⟨λ _ _ _=>⟨λ _=>?_,λ _=>⟨(),?_,⟨rfl,rfl,trivial⟩,trivial⟩⟩,λ _=>⟨λ _=>?_,λ _=>⟨(),?_,⟨rfl,rfl,trivial⟩,trivial⟩⟩⟩,λ _=>⟨λ _ _ _=>⟨λ _=>?_,λ _=>⟨(),?_,⟨rfl,rfl,trivial⟩,trivial⟩⟩,λ _=>⟨λ _=>?_,λ _=>⟨(),?_,⟨rfl,rfl,trivial⟩,trivial⟩⟩⟩⟩,λ _=>⟨λ _ _ _=>⟨λ _=>?_,λ _=>⟨(),?_,⟨rfl,rfl,trivial⟩,trivial⟩⟩,λ _=>⟨λ _=>?_,λ _=>⟨(),?_,⟨rfl,rfl,trivial⟩,trivial⟩⟩⟩⟩⟩,λ u2 _=>⟨⟨0,?_,⟨rfl,rfl,?_,trivial⟩,trivial⟩,λ j3 _ _ _=>⟨λ _=>⟨?_,λ _=>⟨?_,λ _=>?_,λ _=>⟨?_,j3+1,?_,?_,⟨rfl,rfl,?_,trivial⟩,trivial⟩⟩⟩,λ _=>?_⟩⟩⟩⟩
 all_goals try and_intros
 all_goals first|with_reducible rfl|with_reducible assumption|exact True.intro|(simp only[a8B,a8w,a8x,a8v] at *;done)|exact hp|exact Int.ofNat_zero.symm|exact rfl|((try simp only[ok,a8x,a8v,a8J,a8X,a8p,a8q] at *);first|with_reducible exact True.intro|exact a2c (by with_reducible assumption)|exact (a2c (by with_reducible assumption)).symm|exact a2d (by with_reducible assumption)|exact (a2d (by with_reducible assumption)).symm|exact YO (by with_reducible assumption)|exact (YO (by with_reducible assumption)).symm|exact YP (by with_reducible assumption)|exact (YP (by with_reducible assumption)).symm|exact⟨(by with_reducible assumption),(by with_reducible assumption),(by with_reducible assumption),(by with_reducible assumption)⟩|(have h:CT gg c:=(by with_reducible assumption);first|exact (h.n1 (by omega) (by omega)).symm|exact (h.n2 (by omega) (by omega)).symm|exact (h.n3 (by omega)).symm|exact h.y1 (by omega) (by omega) (by omega)|exact h.y2 (by omega) (by omega))|exact Qt.zero (by with_reducible assumption)|(have h:Qt gg c j3:=(by with_reducible assumption);first|exact (h.bad (by omega) (by with_reducible assumption)).symm|exact⟨h.t.next _ (by omega) (by with_reducible assumption),h.g⟩|exact (h.end (by omega)).symm|(have:=h.t.le;simp only[aw,O,br] at *;omega))|(simp only[aw,O,br] at *;omega))
theorem Ir:aJ.Good mn:=M3 ⟨pK,l5,Kx,trivial⟩
structure VJ(p:av)(j:Nat):Prop where
 s:bK p.sig=true
 n:p.U.length<=40
 t:tK (oW p.sig) p.U j
theorem VJ.bad{p:av}{j:Nat}(h:VJ p j)(hj:j<p.U.length)(hb:oW p.sig (p.U.getD j (ae.mk zE zE (0:Int) (0:Int) []))=false):gY p=false:=by
 unfold gY;rw[h.t.bad _ hj hb,Bool.and_false]
theorem VJ.end{p:av}{j:Nat}(h:VJ p j)(hj:p.U.length<=j):gY p=true:=by unfold gY;rw[h.s,h.t.done hj,decide_eq_true h.n];rfl
def qw:aJ:=⟨A6,[.r (.st .proof)],λ (p:av)=>⟨(none,[⟨.bool,gY p⟩])⟩⟩
def Jk(p:av):Nat->aH:=(λ zb=>if Nat.beq zb 0 then .mk (Nat) (λ j=>VJ p j) (λ j=>p.U.length - j) [] [1,4,5,6,7,8,9,10,11,12,13,14,15,16,17] (λ j=>[(3, .aW ⟨(.int .i64),((j:Int):Int)⟩)]) [0,2,3,18,19,20,21,22,23,24,25,26,27,28,29,30,31,32,33,34,35,36,37,38] (λ j=>[]) [] [] (λ j=>λ _ => .none) else .none)
abbrev Ei(p:av):Prop:=((∃ j1:Nat,(VJ p j1/\((p=p/\((0:Int)=(j1:Int)/\True))/\True)))/\(∀ j1:Nat,(VJ p j1 ->
 (p.U.length<=140737488355328 ->
 (O ((p.U.length:Int)) ->
 (((decide ((j1:Int)<((p.U.length:Int))))=true ->
 (aw (j1:Int) p.U.length/\(p.U.length<=140737488355328 ->
 (bK p.sig=true/\(((!(oW p.sig (p.U.getD j1 (ae.mk zE zE (0:Int) (0:Int) []))))=true ->
 false=(gY p))/\((!(oW p.sig (p.U.getD j1 (ae.mk zE zE (0:Int) (0:Int) []))))=false ->
 (O ((j1:Int)+(1:Int))/\(∃ j2:Nat,(VJ p j2/\(p.U.length - j2<p.U.length - j1/\((p=p/\(((j1:Int)+(1:Int))=(j2:Int)/\True))/\True)))))))))))/\((decide ((j1:Int)<((p.U.length:Int))))=false ->
 true=(gY p))))))))
theorem T9(p:av):ck (aL [eb,mn]) (au oh) (Jk p) 0 (bg (aL [eb,mn]) oh λ r=>bp r [⟨.bool,gY p⟩]) (aD oh [.ref ⟨(.st .proof),p⟩]) =
 ((((!(bK p.sig))=false ->
 (p.U.length<=140737488355328 ->
 (O ((p.U.length:Int)) ->
 (((decide ((40:Int)<((p.U.length:Int))))=true ->
 false=(gY p))/\((decide ((40:Int)<((p.U.length:Int))))=false ->
 (Ei p))))))/\((!(bK p.sig))=(!false) ->
 ((true=true ->
 false=(gY p))/\(true=false ->
 (Ei p)))))):=by kernel_rfl
theorem Tr(hE:aG [eb,mn]):aJ.Good qw:=by
 refine⟨aA FI rfl (by decide),?_⟩
 show ∀ (p:av),True->bh prog A6 [.ref ⟨(.st .proof),p⟩] (·=[⟨.bool,gY p⟩])
 intro p _
 refine aM (wr:=[]) (cl:=[]) (ro:=[]) hE FI N2 (Jk p) ?_
 rewrite [T9 p]
 refine⟨λ _ _ _=>⟨λ _=>?_,λ _=>⟨⟨0,?_,⟨rfl,?_,trivial⟩,trivial⟩,λ j1 _ _ _=>⟨λ _=>⟨?_,λ _=>⟨?_,λ _=>?_,λ _=>⟨?_,j1+1,?_,?_,⟨rfl,?_,trivial⟩,trivial⟩⟩⟩,λ _=>?_⟩⟩⟩,λ _=>⟨λ _=>?_,λ _=>⟨⟨0,?_,⟨rfl,?_,trivial⟩,trivial⟩,λ j1 _ _ _=>⟨λ _=>⟨?_,λ _=>⟨?_,λ _=>?_,λ _=>⟨?_,j1+1,?_,?_,⟨rfl,?_,trivial⟩,trivial⟩⟩⟩,λ _=>?_⟩⟩⟩⟩
 all_goals try and_intros
 all_goals first|with_reducible rfl|with_reducible assumption|exact True.intro|(simp only[a8B,a8w,a8x,a8v] at *;done)|((try simp only[a8x,a8v,a8J,a8X,a8p,a8q] at *);first|with_reducible exact True.intro|exact (a0o (by with_reducible assumption)).symm|exact (a0p (by omega)).symm|exact⟨(by with_reducible assumption),by omega,tK.zero _ _⟩|(have h:VJ p j1:=(by with_reducible assumption);first|exact h.s|exact (h.bad (by omega) (by with_reducible assumption)).symm|exact⟨h.s,h.n,h.t.next _ (by omega) (by with_reducible assumption)⟩|exact (h.end (by omega)).symm|(have:=h.t.le;simp only[aw,O,br] at *;omega)|(have:=h.t.le;omega))|(simp only[aw,O,br] at *;omega))
theorem Oh:aJ.Good qw:=Tr ⟨sF,Ir,trivial⟩
end
end Go.Proofs.YtmjfpcajohhbeaaGreatDoor

set_option maxRecDepth 4000
set_option maxHeartbeats 4000000
namespace Go.Proofs.YtmjfpcajohhbeaaGreatDoor
noncomputable section
def yQ(t:Int)(e:J)(i:Nat):Int:=max (max t (if e.ak=3 then e.aI+1 else 0)) (bL (e.M.take i)).1
def yP(a:Int)(e:J)(i:Nat):Int:=max (max a (if e.ak=4 then e.aI+1 else 0)) (bL (e.M.take i)).2
theorem Nv{x:J}(h:aZ 62 62 x=true)(hk:x.ak=3\/x.ak=4):x.M=[]:=by
 have:=VG h
 rcases hk with hk|hk<;>rw[hk] at this<;>simp[cN] at this<;>exact a9E (by omega)
theorem a7D(t a:Int)(e:J):yQ t e 0=max t (max (if e.ak=3 then e.aI+1 else 0) 0)/\yP a e 0=max a (max (if e.ak=4 then e.aI+1 else 0) 0):=by
 unfold yQ yP
 rw[a9D,bL]
 dsimp only;omega
theorem a7F(t a:Int)(e:J)(i:Nat)(hi:i<e.M.length):yQ t e (i+1)=max (yQ t e i) (cC (e.M.getD i zE)).1/\yP a e (i+1)=max (yP a e i) (cC (e.M.getD i zE)).2:=by
 unfold yQ yP
 rw[Qr e i hi]
 dsimp only;omega
theorem a7E(t a:Int)(e:J)(i:Nat)(h:aZ 62 62 e=true)(hi:e.M.length<=i)(ht:0<=t)(ha:0<=a):yQ t e i=max t (cC e).1/\yP a e i=max a (cC e).2:=by
 unfold yQ yP
 have hn:=oo h
 by_cases h3:e.ak=3
 .have:=hn (.inl h3)
  rw[a8O h3,a8y (show ¬ e.ak=4 by omega),Nv h (.inl h3),b1K,bL,a3p e h3]
  dsimp only;omega
 .by_cases h4:e.ak=4
  .have:=hn (.inr h4)
   rw[a8y h3,a8O h4,Nv h (.inr h4),b1K,bL,a3q e h3 h4]
   dsimp only;omega
  .have:=O9 e h i
   rw[a8y h3,a8y h4,<-ZM e h3 h4 i hi]
   rw[<-ZM e h3 h4 i hi] at this
   omega
theorem a6b(t a:Int)(e:J)(i:Nat)(h:aZ 62 62 e=true)(ht:0<=t/\t<=1000)(ha:0<=a/\a<=1000):(0<=yQ t e i/\yQ t e i<=1000)/\0<=yP a e i/\yP a e i<=1000:=by
 have h1:=O9 e h i
 have hn:=oo h
 unfold yQ yP
 have:(if e.ak=3 then e.aI+1 else 0)<=63:=by
  split
  .rename_i q;have:=hn (.inl q);omega
  .omega
 have:(if e.ak=4 then e.aI+1 else 0)<=63:=by
  split
  .rename_i q;have:=hn (.inr q);omega
  .omega
 omega
def mG(n:Nat):iV:=⟨ti,[[.d (.int .i64)],[.d (.int .i64)]],[.r (.st .expr), .b 0, .b 1],[[(.int .i64)],[(.int .i64)]],λ (e:J) (t:Int) (a:Int)=>⟨(some (cz e<n/\aZ 62 62 e=true/\(0<=t/\t<=1000)/\0<=a/\a<=1000),[],[[⟨(.int .i64),max t (cC e).1⟩],[⟨(.int .i64),max a (cC e).2⟩]])⟩⟩
def qY:iV:=⟨ti,[[.d (.int .i64)],[.d (.int .i64)]],[.r (.st .expr), .b 0, .b 1],[[(.int .i64)],[(.int .i64)]],λ (e:J) (t:Int) (a:Int)=>⟨(some (aZ 62 62 e=true/\(0<=t/\t<=1000)/\0<=a/\a<=1000),[],[[⟨(.int .i64),max t (cC e).1⟩],[⟨(.int .i64),max a (cC e).2⟩]])⟩⟩
def EN(e:J)(t:Int)(a:Int):Nat->aH:=(λ zb=>if Nat.beq zb 100004 then .mk (Unit) (λ u=>True) (λ u=>0) [] [3,4,5,7,8,9,10,11,12,13,14,15,16,17,18,19,20,21,22,23,24,25,26,27,28,29,30,31,32,33,34,35,36,37,38,56] (λ u=>[]) [0,1,2,6,39,40,41,42,43,44,45,46,47,48,49,50,51,52,53,54,55] (λ u=>[(400000, .box [.aW ⟨(.int .i64),(yQ t e 0:Int)⟩]),(400001, .box [.aW ⟨(.int .i64),(yP a e 0:Int)⟩])]) [] [] (λ u=>(λ zb=>if Nat.beq zb 0 then .mk (Nat) (λ i=>i<=e.M.length) (λ i=>e.M.length - i) [] [3,4,5,7,8,9,10,11,12,13,14,15,16,17,18,19,20,21,22,23,24,25,26,27,28,29,30,31,32,33,34,35,36,37,38,56] (λ i=>[(6, .aW ⟨(.int .i64),((i:Int):Int)⟩)]) [0,1,2,6,39,40,41,42,43,44,45,46,47,48,49,50,51,52,53,54,55] (λ i=>[(400000, .box [.aW ⟨(.int .i64),(yQ t e i:Int)⟩]),(400001, .box [.aW ⟨(.int .i64),(yP a e i:Int)⟩])]) [] [] (λ i=>λ _ => .none) else .none)) else .none)
abbrev An(n:Nat)(e:J)(t:Int)(a:Int):Prop:=(∀ u1:Unit,(True ->
 ((∃ i2:Nat,(i2<=e.M.length/\((e=e/\(True/\(True/\((0:Int)=(i2:Int)/\True))))/\(((yQ t e 0)=(yQ t e i2)/\True)/\(((yP a e 0)=(yP a e i2)/\True)/\True)))))/\(∀ i2:Nat,(i2<=e.M.length ->
 (e.M.length<=140737488355328 ->
 (O ((e.M.length:Int)) ->
 (((decide ((i2:Int)<((e.M.length:Int))))=true ->
 (e.M.length<=140737488355328 ->
 (aw (i2:Int) e.M.length/\((cz (e.M.getD i2 zE)<n/\aZ 62 62 (e.M.getD i2 zE)=true/\(0<=(yQ t e i2)/\(yQ t e i2)<=1000)/\0<=(yP a e i2)/\(yP a e i2)<=1000)/\(O ((i2:Int)+(1:Int))/\(∃ i3:Nat,(i3<=e.M.length/\(e.M.length - i3<e.M.length - i2/\((e=e/\(True/\(True/\(((i2:Int)+(1:Int))=(i3:Int)/\True))))/\(((max (yQ t e i2) (cC (e.M.getD i2 zE)).1)=(yQ t e i3)/\True)/\(((max (yP a e i2) (cC (e.M.getD i2 zE)).2)=(yP a e i3)/\True)/\True)))))))))))/\((decide ((i2:Int)<((e.M.length:Int))))=false ->
 (True/\((yQ t e i2)=(max t (cC e).1)/\((yP a e i2)=(max a (cC e).2)/\True))))))))))))
theorem PH(n:Nat)(e:J)(t:Int)(a:Int):ck (cY [gT] [] [] [] [] [] [] [mG n]) (au lY) (EN e t a) 0 (kV (cY [gT] [] [] [] [] [] [] [mG n]) lY [[.d (.int .i64)],[.d (.int .i64)]] λ r ds=>bp r []/\ng ds [[⟨(.int .i64),max t (cC e).1⟩],[⟨(.int .i64),max a (cC e).2⟩]]) (cR lY [.ref ⟨(.st .expr),e⟩, .box 0, .box 1] [[.d (.int .i64)],[.d (.int .i64)]] [[⟨(.int .i64),t⟩],[⟨(.int .i64),a⟩]]) =
 ((O e.ak ->
 (((decide (e.ak=(3:Int)))=true ->
 (O (e.aI+(1:Int))/\(O t ->
 (O e.aI ->
 (O (max t (e.aI+(1:Int))) ->
 ((O e.ak ->
 (((decide (e.ak=(4:Int)))=true ->
 (O (e.aI+(1:Int))/\(O a ->
 (O e.aI ->
 (O (max a (e.aI+(1:Int))) ->
 (∃ u1:Unit,(True/\((e=e/\(True/\(True/\True)))/\(((max t (e.aI+(1:Int)))=(yQ t e 0)/\True)/\(((max a (e.aI+(1:Int)))=(yP a e 0)/\True)/\True))))))))))/\((decide (e.ak=(4:Int)))=false ->
 (∃ u1:Unit,(True/\((e=e/\(True/\(True/\True)))/\(((max t (e.aI+(1:Int)))=(yQ t e 0)/\True)/\((a=(yP a e 0)/\True)/\True))))))))/\(An n e t a)))))))/\((decide (e.ak=(3:Int)))=false ->
 ((O e.ak ->
 (((decide (e.ak=(4:Int)))=true ->
 (O (e.aI+(1:Int))/\(O a ->
 (O e.aI ->
 (O (max a (e.aI+(1:Int))) ->
 (∃ u1:Unit,(True/\((e=e/\(True/\(True/\True)))/\((t=(yQ t e 0)/\True)/\(((max a (e.aI+(1:Int)))=(yP a e 0)/\True)/\True))))))))))/\((decide (e.ak=(4:Int)))=false ->
 (∃ u1:Unit,(True/\((e=e/\(True/\(True/\True)))/\((t=(yQ t e 0)/\True)/\((a=(yP a e 0)/\True)/\True))))))))/\(An n e t a)))))):=by kernel_rfl
theorem O6(n:Nat)(hE:aG [gT])(hO:fW [])(hM:gZ [])(hS:fX [mG n]):iV.Good (mG (n+1)):=by
 refine⟨aA qP rfl (by decide),?_⟩
 show ∀ (e:J) (t:Int) (a:Int),(cz e<n+1/\aZ 62 62 e=true/\(0<=t/\t<=1000)/\0<=a/\a<=1000)->tu prog ti [[.d (.int .i64)],[.d (.int .i64)]] [.ref ⟨(.st .expr),e⟩, .box 0, .box 1] [[⟨(.int .i64),t⟩],[⟨(.int .i64),a⟩]] [] [[⟨(.int .i64),max t (cC e).1⟩],[⟨(.int .i64),max a (cC e).2⟩]]
 intro e t a hp
 refine iA (own:=[]) (wr:=[]) (cl:=[]) (ro:=[]) hE hO hM hS qP LU (EN e t a) rfl rfl ?_
 rewrite [PH n e t a]
 obtain⟨hm,g0,g1,g2⟩:=hp
 have f0:=λ i (h:i<e.M.length)=>cq zE e.M i h
 have f1:=dV e
 have f2:=a7D t a e
 have f3:=oo g0
 refine λ _=>⟨λ _=>⟨?_,λ _ _ _=>⟨λ _=>⟨λ _=>⟨?_,λ _ _ _=>⟨(),?_,⟨rfl,trivial,trivial,trivial⟩,⟨?_,trivial⟩,⟨?_,trivial⟩,trivial⟩⟩,λ _=>⟨(),?_,⟨rfl,trivial,trivial,trivial⟩,⟨?_,trivial⟩,⟨?_,trivial⟩,trivial⟩⟩,λ u1 _=>⟨⟨0,?_,⟨rfl,trivial,trivial,?_,trivial⟩,⟨?_,trivial⟩,⟨?_,trivial⟩,trivial⟩,λ i2 _ _ _=>⟨λ _ _=>⟨?_,?_,?_,i2+1,?_,?_,⟨rfl,trivial,trivial,?_,trivial⟩,⟨?_,trivial⟩,⟨?_,trivial⟩,trivial⟩,λ _=>⟨trivial,?_,?_,trivial⟩⟩⟩⟩⟩,λ _=>⟨λ _=>⟨λ _=>⟨?_,λ _ _ _=>⟨(),?_,⟨rfl,trivial,trivial,trivial⟩,⟨?_,trivial⟩,⟨?_,trivial⟩,trivial⟩⟩,λ _=>⟨(),?_,⟨rfl,trivial,trivial,trivial⟩,⟨?_,trivial⟩,⟨?_,trivial⟩,trivial⟩⟩,λ u1 _=>⟨⟨0,?_,⟨rfl,trivial,trivial,?_,trivial⟩,⟨?_,trivial⟩,⟨?_,trivial⟩,trivial⟩,λ i2 _ _ _=>⟨λ _ _=>⟨?_,?_,?_,i2+1,?_,?_,⟨rfl,trivial,trivial,?_,trivial⟩,⟨?_,trivial⟩,⟨?_,trivial⟩,trivial⟩,λ _=>⟨trivial,?_,?_,trivial⟩⟩⟩⟩⟩
 all_goals try and_intros
 all_goals first|with_reducible rfl|with_reducible assumption|exact True.intro|(simp only[a8B,a8w,a8x,a8v] at *;done)|((try simp only[a8T,J.eta,a8p,a8q,a8x,a8v,a8J,a8X,aw,O,br,a8K,a8C,a8N,a8R,a8U] at *);first|exact True.intro|omega|exact uE g0 _ (by omega)|(have h1:=f0 i2 (by omega);omega)|(have h1:=a7F t a e i2 (by omega);omega)|(have h1:=a7E t a e i2 g0 (by omega) (by omega) (by omega);omega)|(have h1:=a6b t a e i2 g0 (by omega) (by omega);omega)|(rw[f2.1];simp only[*,b0r,b1q];omega)|(rw[f2.2];simp only[*,b0r,b1q];omega)|(have:=f3 (by omega);omega))
theorem RJ:∀ n,fX [mG n]
 | 0=>⟨⟨aA qP rfl (by decide),λ _ _ _ h=>absurd h.1 (a9p _)⟩,trivial⟩
 | n+1=>by
  have ih:=RJ n
  exact⟨O6 n ⟨zR,trivial⟩ trivial trivial ⟨ih.1,trivial⟩,trivial⟩
theorem K9:iV.Good qY :=
 ⟨aA qP rfl (by decide),λ e t a hp=>(RJ (cz e+1)).1.2 e t a (⟨a9h _,hp⟩)⟩
def nR:aJ:=⟨wi,[.r (.st .equation)],λ (q:aj)=>⟨(some (aZ 62 62 q.left=true/\aZ 62 62 q.right=true),[⟨(.int .i64),(bL [q.left,q.right]).1⟩,⟨(.int .i64),(bL [q.left,q.right]).2⟩])⟩⟩
def ED(q:aj):Nat->aH:=λ _ => .none
theorem Pw(q:aj):ck (cY [] [] [] [] [] [] [] [qY]) (au kr) (ED q) 0 (bg (cY [] [] [] [] [] [] [] [qY]) kr λ r=>bp r [⟨(.int .i64),(bL [q.left,q.right]).1⟩,⟨(.int .i64),(bL [q.left,q.right]).2⟩]) (aD kr [.ref ⟨(.st .equation),q⟩]) =
 (((aZ 62 62 q.left=true/\(0<=(0:Int)/\(0:Int)<=1000)/\0<=(0:Int)/\(0:Int)<=1000)/\((aZ 62 62 q.right=true/\(0<=(max (0:Int) (cC q.left).1)/\(max (0:Int) (cC q.left).1)<=1000)/\0<=(max (0:Int) (cC q.left).2)/\(max (0:Int) (cC q.left).2)<=1000)/\(O (max (max (0:Int) (cC q.left).1) (cC q.right).1) ->
 (O (max (max (0:Int) (cC q.left).2) (cC q.right).2) ->
 ((max (max (0:Int) (cC q.left).1) (cC q.right).1)=((bL [q.left,q.right]).1)/\(max (max (0:Int) (cC q.left).2) (cC q.right).2)=((bL [q.left,q.right]).2))))))):=by kernel_rfl
theorem OW(hE:aG [])(hO:fW [])(hM:gZ [])(hS:fX [qY]):aJ.Good nR:=by
 refine⟨aA BK rfl (by decide),?_⟩
 show ∀ (q:aj),(aZ 62 62 q.left=true/\aZ 62 62 q.right=true)->bh prog wi [.ref ⟨(.st .equation),q⟩] (·=[⟨(.int .i64),(bL [q.left,q.right]).1⟩,⟨(.int .i64),(bL [q.left,q.right]).2⟩])
 intro q hp
 refine X6 (own:=[]) (wr:=[]) (cl:=[]) (ro:=[]) hE hO hM hS BK JY (ED q) ?_
 rewrite [Pw q]
 refine⟨?_,?_,λ _ _=>⟨?_,?_⟩⟩
 all_goals try and_intros
 all_goals first|with_reducible rfl|with_reducible assumption|exact True.intro|(simp only[a8B,a8w,a8x,a8v] at *;done)|exact hp.1|exact hp.2|(have h1:=Ns _ hp.1;have h2:=Ns _ hp.2;(try simp only[bL]);omega)
theorem Ku:aJ.Good nR:=OW trivial trivial trivial ⟨K9,trivial⟩
def n0:aJ:=⟨yz,[],⟨(none,[⟨(.st .expr),J.mk 2 0 []⟩])⟩⟩
def EL :Nat->aH:=λ _ => .none
theorem PF :ck (cY [] [] [] [] []) (au lV) (EL ) 0 (fI (cY [] [] [] [] []) lV λ r=>bp r [⟨(.st .expr),J.mk 2 0 []⟩]) (jN lV []) =
 ((J.mk (2:Int) (0:Int) [])=(J.mk 2 0 [])):=by kernel_rfl
theorem O4(hE:aG [])(hO:fW [])(hM:gZ [])(hS:fX []):aJ.eA n0:=by
 refine⟨aA D9 rfl (by decide),?_⟩
 show True->iI prog yz [] [⟨(.st .expr),J.mk 2 0 []⟩]
 intro  _
 refine ec (own:=[]) (wr:=[]) (cl:=[]) (ro:=[]) hE hO hM hS D9 LQ (EL ) ?_
 rewrite [PF ]
 refine ?_
 all_goals try and_intros
 all_goals first|rfl|trivial|omega|(simp only[a8p,a8q,aw,O,cr,cW,cH,br] at *;omega)|(simp[aw,O] at *;omega)|grind
theorem KU:aJ.eA n0:=O4 trivial trivial trivial trivial
def mA(n:Nat):aJ:=⟨rh,[.r (.st .expr)],λ (x:J)=>⟨(some (cz x<n/\aF x<=1048576),[⟨(.int .i64),(aF x:Int)⟩])⟩⟩
def qV:aJ:=⟨rh,[.r (.st .expr)],λ (x:J)=>⟨(some (aF x<=1048576),[⟨(.int .i64),(aF x:Int)⟩])⟩⟩
def EA(x:J):Nat->aH:=(λ zb=>if Nat.beq zb 0 then .mk (Nat) (λ k=>k<=x.M.length) (λ k=>x.M.length - k) [] [1] (λ k=>[(4, .aW ⟨(.int .i64),((k:Int):Int)⟩),(3, .aW ⟨(.int .i64),((1+bF aF (x.M.take k):Int):Int)⟩)]) [0,2,3,4,5,6,7,8,9,10,11,12,13,14,15,16,17,18,19,20,21,22,23] (λ k=>[]) [] [] (λ k=>λ _ => .none) else .none)
theorem Pt(n:Nat)(x:J):ck (aL [mA n]) (au km) (EA x) 0 (bg (aL [mA n]) km λ r=>bp r [⟨(.int .i64),(aF x:Int)⟩]) (aD km [.ref ⟨(.st .expr),x⟩]) =
 (((∃ k1:Nat,(k1<=x.M.length/\((x=x/\((0:Int)=(0:Int)/\((1:Int)=(1+bF aF (x.M.take k1):Int)/\((0:Int)=(k1:Int)/\True))))/\True)))/\(∀ k1:Nat,(k1<=x.M.length ->
 (x.M.length<=140737488355328 ->
 (O ((x.M.length:Int)) ->
 (((decide ((k1:Int)<((x.M.length:Int))))=true ->
 (x.M.length<=140737488355328 ->
 (aw (k1:Int) x.M.length/\((cz (x.M.getD k1 zE)<n/\aF (x.M.getD k1 zE)<=1048576)/\(O ((aF (x.M.getD k1 zE):Int)) ->
 (O ((1+bF aF (x.M.take k1):Int)+((aF (x.M.getD k1 zE):Int)))/\(O ((k1:Int)+(1:Int))/\(∃ k2:Nat,(k2<=x.M.length/\(x.M.length - k2<x.M.length - k1/\((x=x/\((0:Int)=(0:Int)/\(((1+bF aF (x.M.take k1):Int)+((aF (x.M.getD k1 zE):Int)))=(1+bF aF (x.M.take k2):Int)/\(((k1:Int)+(1:Int))=(k2:Int)/\True))))/\True)))))))))))/\((decide ((k1:Int)<((x.M.length:Int))))=false ->
 (1+bF aF (x.M.take k1):Int)=(aF x:Int))))))))):=by kernel_rfl
theorem OT(n:Nat)(hE:aG [mA n]):aJ.Good (mA (n+1)):=by
 refine⟨aA pD rfl (by decide),?_⟩
 show ∀ (x:J),(cz x<n+1/\aF x<=1048576)->bh prog rh [.ref ⟨(.st .expr),x⟩] (·=[⟨(.int .i64),(aF x:Int)⟩])
 intro x hp
 refine aM (wr:=[]) (cl:=[]) (ro:=[]) hE pD JV (EA x) ?_
 rewrite [Pt n x]
 rw[yD x] at hp
 have f0:=dV x
 have f1:=xp aF x.M
 refine⟨⟨0,?_,⟨rfl,rfl,?_,?_,trivial⟩,trivial⟩,λ k1 _=>have a1S:=oj aF zE x.M k1;have a1T:=dG aF x.M k1;have a1U:=dG aF x.M (k1+1);have a4o:=tp aF x.M k1;have a4p:=cq zE x.M k1;λ _ _=>⟨λ _ _=>⟨?_,?_,λ _=>⟨?_,?_,k1+1,?_,?_,⟨rfl,rfl,?_,?_,trivial⟩,trivial⟩⟩,λ _=>?_⟩⟩
 all_goals try and_intros
 all_goals try rw[yD x]
 all_goals first|rfl|trivial|omega|(simp only[a8p,a8q,aw,O,cr,cW,cH,br] at *;omega)|(simp[aw,O] at *;omega)|grind
theorem RE :∀ n,aG [mA n]
 | 0=>⟨⟨aA pD rfl (by decide),λ _ h=>absurd h.1 (a9p _)⟩,trivial⟩
 | n+1=>by
  have ih:=RE  n
  exact⟨OT n ⟨ih.1,trivial⟩,trivial⟩
theorem Kr :aJ.Good qV :=
 ⟨aA pD rfl (by decide),λ x hp=>(RE  (cz x+1)).1.2 x (⟨a9h _,hp⟩)⟩
end
end Go.Proofs.YtmjfpcajohhbeaaGreatDoor

set_option maxRecDepth 4000
set_option maxHeartbeats 4000000
namespace Go.Proofs.YtmjfpcajohhbeaaGreatDoor
noncomputable section
theorem Rt(ts as_:List J)(x:J)(l:Int):ed ts as_ x l=if l - 1<0 then (J.mk (0:Int) (0:Int) [],l - 1) else
   if x.ak=3\/x.ak=4 then ((if x.ak=4 then as_ else ts).getD x.aI.toNat zE,l - 1 - ((aF ((if x.ak=4 then as_ else ts).getD x.aI.toNat zE):Int) - 1)) else
   (J.mk x.ak x.aI (du ts as_ x.M (l - 1)).1,(du ts as_ x.M (l - 1)).2):=by
 cases x with
 | mk k n ks=>rw[ed]
theorem a0u{ts as_:List J}{x:J}{l:Int}(h:l - 1<0):(ed ts as_ x l).1=J.mk (0:Int) (0:Int) []/\(ed ts as_ x l).2=l - 1:=by rw[Rt,a8O h];exact⟨rfl,rfl⟩
theorem a0r{ts as_:List J}{x:J}{l:Int}(h:¬ l - 1<0)(h3:x.ak=3):(ed ts as_ x l).1=ts.getD x.aI.toNat zE/\(ed ts as_ x l).2=l - 1 - ((aF (ts.getD x.aI.toNat zE):Int) - 1):=by
 rw[Rt,a8y h,a8O (.inl h3),a8y (by omega)];exact⟨rfl,rfl⟩
theorem a0s{ts as_:List J}{x:J}{l:Int}(h:¬ l - 1<0)(h4:x.ak=4):(ed ts as_ x l).1=as_.getD x.aI.toNat zE/\(ed ts as_ x l).2=l - 1 - ((aF (as_.getD x.aI.toNat zE):Int) - 1):=by
 rw[Rt,a8y h,a8O (.inr h4),a8O h4];exact⟨rfl,rfl⟩
theorem a0t{ts as_:List J}{x:J}{l:Int}(h:¬ l - 1<0)(h3:¬ x.ak=3)(h4:¬ x.ak=4)(i:Nat)(hi:x.M.length<=i):(ed ts as_ x l).1=J.mk x.ak x.aI (du ts as_ (x.M.take i) (l - 1)).1/\(ed ts as_ x l).2=(du ts as_ (x.M.take i) (l - 1)).2:=by
 rw[Rt,a8y h,a8y (by omega),a9d hi];exact⟨rfl,rfl⟩
theorem Vv(ts as_:List J):∀ (xs:List J) (y:J) (l:Int),du ts as_ (xs++[y]) l=((du ts as_ xs l).1++[(ed ts as_ y (du ts as_ xs l).2).1],(ed ts as_ y (du ts as_ xs l).2).2)
 | [],y,l=>by rw[a8T,du,du];rfl
 | x::xs,y,l=>by rw[a9y,du,Vv ts as_ xs y,du];rfl
theorem HH(ts as_:List J)(x:J)(i:Nat)(l:Int)(hi:i<x.M.length):(du ts as_ (x.M.take (i+1)) l).1=(du ts as_ (x.M.take i) l).1++[(ed ts as_ (x.M.getD i zE) (du ts as_ (x.M.take i) l).2).1] /\
  (du ts as_ (x.M.take (i+1)) l).2=(ed ts as_ (x.M.getD i zE) (du ts as_ (x.M.take i) l).2).2:=by
 rw[fJ zE x.M i hi,Vv];exact⟨rfl,rfl⟩
mutual
theorem a4a(ts as_:List J):∀ (x:J) (l:Int),l - (aF (c9 ts as_ x):Int)<=(ed ts as_ x l).2
 | ⟨k,n,ks⟩,l=>by
  have hp:=Az (c9 ts as_ ⟨k,n,ks⟩)
  rw[c9] at hp ⊢
  rw[ed]
  by_cases h0:l - 1<0
  .rw[if_pos h0];dsimp only;omega
  .rw[a8y h0]
   by_cases h3:k=3
   .subst h3
    rw[a8O (Or.inl rfl:(3:Int)=3\/(3:Int)=4),a8O rfl,a8y (show ¬ (3:Int)=4 by decide)]
    dsimp only;omega
   .by_cases h4:k=4
    .subst h4
     rw[a8O (Or.inr rfl:(4:Int)=3\/(4:Int)=4),a8y h3,a8O rfl,a8O rfl]
     dsimp only;omega
    .rw[a8y h3,a8y h4,a8y (show ¬ (k=3\/k=4) by omega),aF]
     have:=M9 ts as_ ks (l - 1)
     dsimp only;omega
theorem M9(ts as_:List J):∀ (xs:List J) (l:Int),l - (df (mV ts as_ xs):Int)<=(du ts as_ xs l).2
 | [],l=>by rw[du,mV,df];dsimp only;omega
 | x::xs,l=>by
  rw[du,mV,df]
  have h1:=a4a ts as_ x l
  have h2:=M9 ts as_ xs (ed ts as_ x l).2
  dsimp only;omega
end
theorem Ka(ts as_:List J):∀ (xs:List J) (i:Nat),i<xs.length->df (mV ts as_ (xs.take i))+aF (c9 ts as_ (xs.getD i zE))<=df (mV ts as_ xs)
 | [],i,h=>by simp at h
 | x::xs,0,h=>by
  rw[a9D,mV,df,mV,df]
  show 0+aF (c9 ts as_ x)<=_
  omega
 | x::xs,i+1,h=>by
  have:=Ka ts as_ xs i (by simpa using h)
  rw[b0A,mV,df,mV,df]
  show _+aF (c9 ts as_ (xs.getD i zE))<=_
  omega
theorem U4(ts as_:List J)(x:J)(h3:¬ x.ak=3)(h4:¬ x.ak=4):aF (c9 ts as_ x)=1+df (mV ts as_ x.M):=by
 cases x with
 | mk k n ks=>rw[c9,a8y h3,a8y h4,aF]
theorem a3Z{ts as_:List J}{x:J}{l:Int}(h3:¬ x.ak=3)(h4:¬ x.ak=4)(i:Nat)(hi:i<x.M.length)(h:(aF (c9 ts as_ x):Int)<=1000000+l)(hl:l<=1000):(aF (c9 ts as_ (x.M.getD i zE)):Int)<=1000000+(du ts as_ (x.M.take i) (l - 1)).2/\(du ts as_ (x.M.take i) (l - 1)).2<=1000:=by
 have h1:=Ka ts as_ x.M i hi
 have h2:=M9 ts as_ (x.M.take i) (l - 1)
 have h5:=(HG ts as_ (x.M.take i) (l - 1)).1
 rw[U4 ts as_ x h3 h4] at h
 omega
theorem a5O{ts as_:List J}{x:J}{l:Int}(h3:¬ x.ak=3)(h4:¬ x.ak=4)(i:Nat)(h:(aF (c9 ts as_ x):Int)<=1000000+l)(hl:l<=1000) : -1000000<=(du ts as_ (x.M.take i) (l - 1)).2/\(du ts as_ (x.M.take i) (l - 1)).2<=1000:=by
 have h2:=M9 ts as_ (x.M.take i) (l - 1)
 have h5:=(HG ts as_ (x.M.take i) (l - 1)).1
 have h6:df (mV ts as_ (x.M.take i))<=df (mV ts as_ x.M):=by
  rcases a9t i x.M.length with g|g
  .have:=Ka ts as_ x.M i g;omega
  .rw[a9d g];exact a9i _
 rw[U4 ts as_ x h3 h4] at h
 omega
structure CU(ts as_:List J):Prop where
 t:∀ y∈ts,aF y<=1000
 a:∀ y∈as_,aF y<=1000
theorem CU.gt{ts as_:List J}(h:CU ts as_){n:Int}(h0:0<=n)(h1:n<(ts.length:Int)):aF (ts.getD n.toNat zE)<=1000/\ar (ts.getD n.toNat zE)<=1048576:=by
 have:=h.t (ts.getD n.toNat zE) (by
  rw[a8H,a8P (by omega)]
  exact a9M _)
 have:=HK (ts.getD n.toNat zE)
 omega
theorem CU.ga{ts as_:List J}(h:CU ts as_){n:Int}(h0:0<=n)(h1:n<(as_.length:Int)):aF (as_.getD n.toNat zE)<=1000/\ar (as_.getD n.toNat zE)<=1048576:=by
 have:=h.a (as_.getD n.toNat zE) (by
  rw[a8H,a8P (by omega)]
  exact a9M _)
 have:=HK (as_.getD n.toNat zE)
 omega
theorem Yc(ts as_:List J):∀ (xs:List J) (l:Int),(du ts as_ xs l).1.length=xs.length
 | [],l=>by rw[du]
 | x::xs,l=>by rw[du,a8C,a8C,Yc ts as_ xs]
theorem a5Q(ts as_:List J)(x:J)(l:Int):(du ts as_ (x.M.take 0) l).1=[]/\(du ts as_ (x.M.take 0) l).2=l:=by rw[a9D,du];exact⟨rfl,rfl⟩
def mF(n:Nat):iV:=⟨pn,[[.d (.int .i64)]],[.r (.st .expr), .v (.slice (.st .expr)), .v (.slice (.st .expr)), .b 0],[[(.int .i64)]],λ (e:J) (ts:List J) (as_:List J) (l:Int)=>⟨(some (cz e<n/\iv ts as_ e/\aZ 62 62 e=true/\CU ts as_/\(aF (c9 ts as_ e):Int)<=1000000+l/\l<=1000),[⟨(.st .expr),(ed ts as_ e l).1⟩],[[⟨(.int .i64),(ed ts as_ e l).2⟩]])⟩⟩
def QK:iV:=⟨pn,[[.d (.int .i64)]],[.r (.st .expr), .v (.slice (.st .expr)), .v (.slice (.st .expr)), .b 0],[[(.int .i64)]],λ (e:J) (ts:List J) (as_:List J) (l:Int)=>⟨(some (iv ts as_ e/\aZ 62 62 e=true/\CU ts as_/\(aF (c9 ts as_ e):Int)<=1000000+l/\l<=1000),[⟨(.st .expr),(ed ts as_ e l).1⟩],[[⟨(.int .i64),(ed ts as_ e l).2⟩]])⟩⟩
def EM(e:J)(ts:List J)(as_:List J)(l:Int):Nat->aH:=(λ zb=>if Nat.beq zb 0 then .mk (Nat) (λ i=>i<=e.M.length/\¬ e.ak=3/\¬ e.ak=4/\¬ l - 1<0) (λ i=>e.M.length - i) [] [4,5,6,7,9,12,13,14,15,16,17,18,19,20,21,22,23,24,25,26,27,28,29,30,31,32,33,34,35,36,37,38,39,40,41,42,43,44,45,46,47,48,49,50,51,52,53,54,55,56,57,58,59,60,61,62,63,64,65,66,67,68,69,70,71,72,73,74,75,76,77] (λ i=>[(11, .aW ⟨(.int .i64),((i:Int):Int)⟩)]) [0,1,2,3,8,11,78,79,80,81,82,83,84,85,86,87,88,89,90,91,92,93,94,95,96,97,98,99,100,101,102] (λ i=>[(10, .box [.aW ⟨(.int .i64),(e.ak:Int)⟩, .aW ⟨(.int .i64),(e.aI:Int)⟩, .aE 10100]),(10100, .aE (.st .expr) ((du ts as_ (e.M.take i) (l - 1)).1:List J)),(400000, .box [.aW ⟨(.int .i64),((du ts as_ (e.M.take i) (l - 1)).2:Int)⟩])]) [] [] (λ i=>λ _ => .none) else .none)
abbrev Al(e:J)(ts:List J)(as_:List J)(l:Int):Prop:=(O e.aI ->
 (O ((as_.length:Int)) ->
 (((decide (((as_.length:Int))<=e.aI))=true ->
 ((ag (J.mk 2 0 []))=((ed ts as_ e l).1)/\((l - (1:Int))=((ed ts as_ e l).2)/\True)))/\((decide (((as_.length:Int))<=e.aI))=false ->
 (aw e.aI as_.length/\(aF (as_.getD (Int.toNat e.aI) zE)<=1048576/\(O (((aF (as_.getD (Int.toNat e.aI) zE):Int)) - (1:Int))/\(O (l - (1:Int)) ->
 (O e.aI ->
 (O ((aF (as_.getD (Int.toNat e.aI) zE):Int)) ->
 (O ((l - (1:Int)) - (((aF (as_.getD (Int.toNat e.aI) zE):Int)) - (1:Int)))/\(O e.aI ->
 (aw e.aI as_.length/\(ar (as_.getD (Int.toNat e.aI) zE)<=1048576/\((ag (as_.getD (Int.toNat e.aI) zE))=((ed ts as_ e l).1)/\(((l - (1:Int)) - (((aF (as_.getD (Int.toNat e.aI) zE):Int)) - (1:Int)))=((ed ts as_ e l).2)/\True))))))))))))))))
abbrev oO(n:Nat)(e:J)(ts:List J)(as_:List J)(l:Int):Prop:=(O e.ak ->
 (O e.aI ->
 ((∃ i1:Nat,((i1<=e.M.length/\¬ e.ak=3/\¬ e.ak=4/\¬ l - 1<0)/\((e=e/\(ts=ts/\(as_=as_/\(True/\(True/\(True/\((0:Int)=(i1:Int)/\True)))))))/\((e.ak=e.ak/\(e.aI=e.aI/\(True/\True)))/\(((du ts as_ (e.M.take i1) (l - 1)).1)=[]/\(((l - (1:Int))=((du ts as_ (e.M.take i1) (l - 1)).2)/\True)/\(((0:Int)=(0:Int)/\((0:Int)=(0:Int)/\(True/\True)))/\True)))))))/\(∀ i1:Nat,((i1<=e.M.length/\¬ e.ak=3/\¬ e.ak=4/\¬ l - 1<0) ->
 (e.M.length<=140737488355328 ->
 (O ((e.M.length:Int)) ->
 (((decide ((i1:Int)<((e.M.length:Int))))=true ->
 (e.M.length<=140737488355328 ->
 (O (i1:Int) ->
 (aw (i1:Int) e.M.length/\(ts.length<=140737488355328 ->
 (as_.length<=140737488355328 ->
 (((10:Nat)=10/\(2:Nat)=2)/\((10100:Nat)=10100/\(e=e/\(e=e/\(e.M=e.M/\(e.M=e.M/\((i1:Int)=(i1:Int)/\(aw (i1:Int) e.M.length/\((e.M.getD i1 zE)=(e.M.getD i1 zE)/\(ts=ts/\(as_=as_/\(((400000:Nat)=400000/\(0:Nat)=0)/\((cz (e.M.getD i1 zE)<n/\iv ts as_ (e.M.getD i1 zE)/\aZ 62 62 (e.M.getD i1 zE)=true/\CU ts as_/\(aF (c9 ts as_ (e.M.getD i1 zE)):Int)<=1000000+((du ts as_ (e.M.take i1) (l - 1)).2)/\((du ts as_ (e.M.take i1) (l - 1)).2)<=1000)/\(((10:Nat)=10/\(2:Nat)=2)/\((10100:Nat)=10100/\(((10:Nat)=10/\(2:Nat)=2)/\((10100:Nat)=10100/\(br (((du ts as_ (e.M.take i1) (l - 1)).1).length+([(ag ((ed ts as_ (e.M.getD i1 zE) ((du ts as_ (e.M.take i1) (l - 1)).2)).1))]).length) 40/\(O ((i1:Int)+(1:Int))/\(∃ i2:Nat,((i2<=e.M.length/\¬ e.ak=3/\¬ e.ak=4/\¬ l - 1<0)/\(e.M.length - i2<e.M.length - i1/\((e=e/\(ts=ts/\(as_=as_/\(True/\(True/\(True/\(((i1:Int)+(1:Int))=(i2:Int)/\True)))))))/\((e.ak=e.ak/\(e.aI=e.aI/\(True/\True)))/\((((du ts as_ (e.M.take i1) (l - 1)).1)++([(ag ((ed ts as_ (e.M.getD i1 zE) ((du ts as_ (e.M.take i1) (l - 1)).2)).1))]))=((du ts as_ (e.M.take i2) (l - 1)).1)/\((((ed ts as_ (e.M.getD i1 zE) ((du ts as_ (e.M.take i1) (l - 1)).2)).2)=((du ts as_ (e.M.take i2) (l - 1)).2)/\True)/\(((0:Int)=(0:Int)/\((0:Int)=(0:Int)/\(True/\True)))/\True)))))))))))))))))))))))))))))))))/\((decide ((i1:Int)<((e.M.length:Int))))=false ->
 ((J.mk e.ak e.aI ((du ts as_ (e.M.take i1) (l - 1)).1))=((ed ts as_ e l).1)/\(((du ts as_ (e.M.take i1) (l - 1)).2)=((ed ts as_ e l).2)/\True)))))))))))
abbrev Am(e:J)(ts:List J)(as_:List J)(l:Int):Prop:=(O e.aI ->
 (O ((ts.length:Int)) ->
 (((decide (((ts.length:Int))<=e.aI))=true ->
 ((ag (J.mk 2 0 []))=((ed ts as_ e l).1)/\((l - (1:Int))=((ed ts as_ e l).2)/\True)))/\((decide (((ts.length:Int))<=e.aI))=false ->
 (aw e.aI ts.length/\(aF (ts.getD (Int.toNat e.aI) zE)<=1048576/\(O (((aF (ts.getD (Int.toNat e.aI) zE):Int)) - (1:Int))/\(O (l - (1:Int)) ->
 (O e.aI ->
 (O ((aF (ts.getD (Int.toNat e.aI) zE):Int)) ->
 (O ((l - (1:Int)) - (((aF (ts.getD (Int.toNat e.aI) zE):Int)) - (1:Int)))/\(O e.aI ->
 (aw e.aI ts.length/\(ar (ts.getD (Int.toNat e.aI) zE)<=1048576/\((ag (ts.getD (Int.toNat e.aI) zE))=((ed ts as_ e l).1)/\(((l - (1:Int)) - (((aF (ts.getD (Int.toNat e.aI) zE):Int)) - (1:Int)))=((ed ts as_ e l).2)/\True))))))))))))))))
theorem PG(n:Nat)(e:J)(ts:List J)(as_:List J)(l:Int):ck (cY [qV] [dI,n0] [] [48,68,98,99,100] [] [] [] [mF n]) (au lX) (EM e ts as_ l) 0 (kV (cY [qV] [dI,n0] [] [48,68,98,99,100] [] [] [] [mF n]) lX [[.d (.int .i64)]] λ r ds=>bp r [⟨(.st .expr),(ed ts as_ e l).1⟩]/\ng ds [[⟨(.int .i64),(ed ts as_ e l).2⟩]]) (cR lX [.ref ⟨(.st .expr),e⟩, .val ⟨(.slice (.st .expr)),ts⟩, .val ⟨(.slice (.st .expr)),as_⟩, .box 0] [[.d (.int .i64)]] [[⟨(.int .i64),l⟩]]) =
 ((O l ->
 (O (l - (1:Int))/\(O (l - (1:Int)) ->
 (((decide ((l - (1:Int))<(0:Int)))=true ->
 (zE=((ed ts as_ e l).1)/\((l - (1:Int))=((ed ts as_ e l).2)/\True)))/\((decide ((l - (1:Int))<(0:Int)))=false ->
 (O e.ak ->
 (((decide (e.ak=(4:Int)))=true ->
 (O e.ak ->
 (((decide (e.ak=(3:Int)))=false ->
 (O e.ak ->
 (((decide (e.ak=(4:Int)))=true ->
 (Al e ts as_ l))/\((decide (e.ak=(4:Int)))=false ->
 (oO n e ts as_ l)))))/\((decide (e.ak=(3:Int)))=(!false) ->
 ((true=true ->
 (Al e ts as_ l))/\(true=false ->
 (oO n e ts as_ l)))))))/\((decide (e.ak=(4:Int)))=false ->
 (O e.ak ->
 (((decide (e.ak=(3:Int)))=false ->
 (O e.ak ->
 (((decide (e.ak=(4:Int)))=true ->
 (Am e ts as_ l))/\((decide (e.ak=(4:Int)))=false ->
 (oO n e ts as_ l)))))/\((decide (e.ak=(3:Int)))=(!false) ->
 ((true=true ->
 (Am e ts as_ l))/\(true=false ->
 (oO n e ts as_ l))))))))))))))):=by kernel_rfl
theorem O5(n:Nat)(hE:aG [qV])(hO:fW [dI,n0])(hM:gZ [])(hS:fX [mF n]):iV.Good (mF (n+1)):=by
 refine⟨aA qO rfl (by decide),?_⟩
 show ∀ (e:J) (ts:List J) (as_:List J) (l:Int),(cz e<n+1/\iv ts as_ e/\aZ 62 62 e=true/\CU ts as_/\(aF (c9 ts as_ e):Int)<=1000000+l/\l<=1000)->tu prog pn [[.d (.int .i64)]] [.ref ⟨(.st .expr),e⟩, .val ⟨(.slice (.st .expr)),ts⟩, .val ⟨(.slice (.st .expr)),as_⟩, .box 0] [[⟨(.int .i64),l⟩]] [⟨(.st .expr),(ed ts as_ e l).1⟩] [[⟨(.int .i64),(ed ts as_ e l).2⟩]]
 intro e ts as_ l hp
 refine iA (own:=[48,68,98,99,100]) (wr:=[]) (cl:=[]) (ro:=[]) hE hO hM hS qO LS (EM e ts as_ l) rfl rfl ?_
 rewrite [PG n e ts as_ l]
 obtain⟨hm,g0,g1,g2,g3,g4⟩:=hp
 have f0:=λ i (h:i<e.M.length)=>cq zE e.M i h
 have f1:=dV e
 have f3:=a5Q ts as_ e (l - 1)
 have f4:=Az (c9 ts as_ e)
 have f5:=T3 g1
 refine λ _=>⟨?_,λ _=>⟨λ _=>⟨?_,?_,trivial⟩,λ _ _=>⟨λ _ _=>⟨λ _ _=>⟨λ _ _ _=>⟨λ _=>⟨?_,?_,trivial⟩,λ _=>⟨?_,?_,?_,λ _ _ _=>⟨?_,λ _=>⟨?_,?_,?_,?_,trivial⟩⟩⟩⟩,λ _ _ _=>⟨⟨0,?_,⟨rfl,rfl,rfl,trivial,trivial,trivial,?_,trivial⟩,⟨rfl,rfl,trivial,trivial⟩,?_,⟨?_,trivial⟩,⟨rfl,rfl,trivial,trivial⟩,trivial⟩,λ i1 _ _ _=>⟨λ _ _ _=>⟨?_,λ _ _=>⟨⟨?_,?_⟩,?_,rfl,rfl,rfl,rfl,rfl,?_,rfl,rfl,rfl,⟨?_,?_⟩,?_,⟨?_,?_⟩,?_,⟨?_,?_⟩,?_,?_,?_,i1+1,?_,?_,⟨rfl,rfl,rfl,trivial,trivial,trivial,?_,trivial⟩,⟨rfl,rfl,trivial,trivial⟩,?_,⟨?_,trivial⟩,⟨rfl,rfl,trivial,trivial⟩,trivial⟩⟩,λ _=>⟨?_,?_,trivial⟩⟩⟩⟩,λ _=>⟨λ _ _ _=>⟨λ _=>⟨?_,?_,trivial⟩,λ _=>⟨?_,?_,?_,λ _ _ _=>⟨?_,λ _=>⟨?_,?_,?_,?_,trivial⟩⟩⟩⟩,λ _ _ _=>⟨⟨0,?_,⟨rfl,rfl,rfl,trivial,trivial,trivial,?_,trivial⟩,⟨rfl,rfl,trivial,trivial⟩,?_,⟨?_,trivial⟩,⟨rfl,rfl,trivial,trivial⟩,trivial⟩,λ i1 _ _ _=>⟨λ _ _ _=>⟨?_,λ _ _=>⟨⟨?_,?_⟩,?_,rfl,rfl,rfl,rfl,rfl,?_,rfl,rfl,rfl,⟨?_,?_⟩,?_,⟨?_,?_⟩,?_,⟨?_,?_⟩,?_,?_,?_,i1+1,?_,?_,⟨rfl,rfl,rfl,trivial,trivial,trivial,?_,trivial⟩,⟨rfl,rfl,trivial,trivial⟩,?_,⟨?_,trivial⟩,⟨rfl,rfl,trivial,trivial⟩,trivial⟩⟩,λ _=>⟨?_,?_,trivial⟩⟩⟩⟩⟩,λ _ _=>⟨λ _ _=>⟨λ _ _ _=>⟨λ _=>⟨?_,?_,trivial⟩,λ _=>⟨?_,?_,?_,λ _ _ _=>⟨?_,λ _=>⟨?_,?_,?_,?_,trivial⟩⟩⟩⟩,λ _ _ _=>⟨⟨0,?_,⟨rfl,rfl,rfl,trivial,trivial,trivial,?_,trivial⟩,⟨rfl,rfl,trivial,trivial⟩,?_,⟨?_,trivial⟩,⟨rfl,rfl,trivial,trivial⟩,trivial⟩,λ i1 _ _ _=>⟨λ _ _ _=>⟨?_,λ _ _=>⟨⟨?_,?_⟩,?_,rfl,rfl,rfl,rfl,rfl,?_,rfl,rfl,rfl,⟨?_,?_⟩,?_,⟨?_,?_⟩,?_,⟨?_,?_⟩,?_,?_,?_,i1+1,?_,?_,⟨rfl,rfl,rfl,trivial,trivial,trivial,?_,trivial⟩,⟨rfl,rfl,trivial,trivial⟩,?_,⟨?_,trivial⟩,⟨rfl,rfl,trivial,trivial⟩,trivial⟩⟩,λ _=>⟨?_,?_,trivial⟩⟩⟩⟩,λ _=>⟨λ _ _ _=>⟨λ _=>⟨?_,?_,trivial⟩,λ _=>⟨?_,?_,?_,λ _ _ _=>⟨?_,λ _=>⟨?_,?_,?_,?_,trivial⟩⟩⟩⟩,λ _ _ _=>⟨⟨0,?_,⟨rfl,rfl,rfl,trivial,trivial,trivial,?_,trivial⟩,⟨rfl,rfl,trivial,trivial⟩,?_,⟨?_,trivial⟩,⟨rfl,rfl,trivial,trivial⟩,trivial⟩,λ i1 _ _ _=>⟨λ _ _ _=>⟨?_,λ _ _=>⟨⟨?_,?_⟩,?_,rfl,rfl,rfl,rfl,rfl,?_,rfl,rfl,rfl,⟨?_,?_⟩,?_,⟨?_,?_⟩,?_,⟨?_,?_⟩,?_,?_,?_,i1+1,?_,?_,⟨rfl,rfl,rfl,trivial,trivial,trivial,?_,trivial⟩,⟨rfl,rfl,trivial,trivial⟩,?_,⟨?_,trivial⟩,⟨rfl,rfl,trivial,trivial⟩,trivial⟩⟩,λ _=>⟨?_,?_,trivial⟩⟩⟩⟩⟩⟩⟩⟩
 all_goals try and_intros
 all_goals try (first|with_reducible rfl|with_reducible assumption)
 all_goals try simp only[J.eta,ae.eta,aj.eta,aP,bM,cn] at *
 all_goals first|with_reducible rfl|with_reducible assumption|exact True.intro|(simp only[a8B,a8w,a8x,a8v] at *;done)|((try simp only[a8T,J.eta,a8p,a8q,a8x,a8v,a8J,a8X,aw,O,br,a8K,a8C,a8N,a8R,a8U] at *);first|exact True.intro|omega|(have h1:=Yc ts as_ (e.M.take i1) (l - 1);have h2:=a8U (l:=e.M) (i:=i1);omega)|exact f3.1|exact (f3.1).symm|exact f3.2|exact (f3.2).symm|exact (a0u (by omega)).1|exact ((a0u (by omega)).1).symm|exact (a0u (by omega)).2|exact ((a0u (by omega)).2).symm|exact (a0r (by omega) (by omega)).1|exact ((a0r (by omega) (by omega)).1).symm|exact (a0r (by omega) (by omega)).2|exact ((a0r (by omega) (by omega)).2).symm|exact (a0s (by omega) (by omega)).1|exact ((a0s (by omega) (by omega)).1).symm|exact (a0s (by omega) (by omega)).2|exact ((a0s (by omega) (by omega)).2).symm|exact (a0t (by omega) (by omega) (by omega) i1 (by omega)).1|exact ((a0t (by omega) (by omega) (by omega) i1 (by omega)).1).symm|exact (a0t (by omega) (by omega) (by omega) i1 (by omega)).2|exact ((a0t (by omega) (by omega) (by omega) i1 (by omega)).2).symm|exact (HH _ _ _ _ _ (by omega)).1|exact ((HH _ _ _ _ _ (by omega)).1).symm|exact (HH _ _ _ _ _ (by omega)).2|exact ((HH _ _ _ _ _ (by omega)).2).symm|exact uE g1 _ (by omega)|(have h1:=f0 i1 (by omega);omega)|exact U1 g0 (by omega) (by omega) i1 (by omega)|(have h1:=a3Z (ts:=ts) (as_:=as_) (l:=l) (by omega) (by omega) i1 (by omega) g3 g4;omega)|(have h1:=a5O (ts:=ts) (as_:=as_) (l:=l) (by omega) (by omega) i1 g3 g4;omega)|(have h1:=oo g1 (.inl (by omega));have h2:=Z5 g0 (by omega);have h3:=g2.gt h1.1 h2;omega)|(have h1:=oo g1 (.inr (by omega));have h2:=Z4 g0 (by omega);have h3:=g2.ga h1.1 h2;omega))
theorem RH:∀ n,fX [mF n]
 | 0=>⟨⟨aA qO rfl (by decide),λ _ _ _ _ h=>absurd h.1 (a9p _)⟩,trivial⟩
 | n+1=>by
  have ih:=RH n
  exact⟨O5 n ⟨Kr,trivial⟩ ⟨rF,KU,trivial⟩ trivial ⟨ih.1,trivial⟩,trivial⟩
theorem K8:iV.Good QK :=
 ⟨aA qO rfl (by decide),λ e ts as_ l hp=>(RH (cz e+1)).1.2 e ts as_ l (⟨a9h _,hp⟩)⟩
theorem CU.of{gg:aO}{ts as_:List J}(h:bq (cg gg) ts=true)(h2:bq (cg gg) as_=true):CU ts as_ :=
 ⟨λ y hy=>by have:=(xT gg y).1 (xj _ _ h y hy);omega,λ y hy=>by have:=(xT gg y).1 (xj _ _ h2 y hy);omega⟩
theorem CU.zt{ts as_:List J}(h:CU ts as_)(n:Nat):aF (ts.getD n zE)<=1000:=by
 rcases a9t n ts.length with g|g
 .have:=(h.gt (n:=(n:Int)) (by omega) (by omega)).1;simpa using this
 .rw[a8H,b0J g];exact a9u rfl
theorem CU.za{ts as_:List J}(h:CU ts as_)(n:Nat):aF (as_.getD n zE)<=1000:=by
 rcases a9t n as_.length with g|g
 .have:=(h.ga (n:=(n:Int)) (by omega) (by omega)).1;simpa using this
 .rw[a8H,b0J g];exact a9u rfl
mutual
theorem Xs{ts as_:List J}(h:CU ts as_):∀ x:J,aF (c9 ts as_ x)<=1000 * aF x
 | ⟨k,n,ks⟩=>by
  have hx:=Az (J.mk k n ks)
  rw[c9]
  split
  .have:=h.zt n.toNat;omega
  .split
   .have:=h.za n.toNat;omega
   .have:=U6 h ks
    rw[aF,aF];omega
theorem U6{ts as_:List J}(h:CU ts as_):∀ xs:List J,df (mV ts as_ xs)<=1000 * df xs
 | []=>by rw[mV];simp[df]
 | x::xs=>by
  have h1:=Xs h x
  have h2:=U6 h xs
  rw[mV,df,df];omega
end
def CN(e:J)(ts as_:List J):J:=(ed ts as_ e 200).1
theorem a7A{gg:aO}{e:J}{ts as_:List J}(b:Bool)(h:0<=(ed ts as_ e 200).2)(h2:uu gg (ed ts as_ e 200).1=b)(hg:bK gg=true):cg gg (c9 ts as_ e)=b:=by
 rw[MR hg] at h2
 rw[<-(Ru gg ts as_ e).1,a8W h,h2];rfl
theorem a7z{gg:aO}{e:J}{ts as_:List J}(h:¬ 0<=(ed ts as_ e 200).2):cg gg (c9 ts as_ e)=false:=by
 rw[<-(Ru gg ts as_ e).1,a8D h];rfl
theorem Rw{gg:aO}{e:J}{ts as_:List J}(h:cg gg (c9 ts as_ e)=true):CN e ts as_=c9 ts as_ e:=by
 refine (Ru gg ts as_ e).2 ?_
 rw[<-(Ru gg ts as_ e).1,a8r,a8p] at h
 exact h.1
end
end Go.Proofs.YtmjfpcajohhbeaaGreatDoor

namespace Go.Proofs.YtmjfpcajohhbeaaGreatDoor
noncomputable section
open Go.RowKit
mutual
theorem Ow.lt{w:World}:∀ (d:D) {cs:List Value} {fp:List Nat},Ow w d cs fp->∀ b∈fp,b<w.heap.size
 | .int _ _,_,_,h=>λ b hb=>by rw[h.2] at hb;cases hb
 | .bool _,_,_,h=>λ b hb=>by rw[h.2] at hb;cases hb
 | .str _,_,_,h=>λ b hb=>by rw[h.2] at hb;cases hb
 | .slice n xs,_,_,h=>λ b hb=>by
  obtain⟨a,cap,h1,h2,h3,h4,h5⟩:=h
  rcases h5 with ⟨_,_,rfl⟩|⟨b',f,l,t,rfl,rfl,hh,_,hr⟩
  .cases hb
  .rcases a8I.1 hb with rfl|hb
   .exact (a9x.1 hh).1
   .exact bX.lt xs hr b hb
 | .agg ds,_,_,h=>di.lt ds h
 | .hole,_,_,h=>λ b hb=>by rw[h.2] at hb;cases hb
 | .ptr,_,_,h=>λ b hb=>by rw[h.2] at hb;cases hb
theorem di.lt{w:World}:∀ (ds:List D) {cs:List Value} {fp:List Nat},di w ds cs fp->∀ b∈fp,b<w.heap.size
 | [],_,_,h=>λ b hb=>by rw[h.2] at hb;cases hb
 | d::ds,_,_,h=>λ b hb=>by
  obtain⟨v,r,f1,f2,_,rfl,h3,h4⟩:=h
  rcases a8t.1 hb with hb|hb
  .exact Ow.lt d h3 b hb
  .exact di.lt ds h4 b hb
theorem bX.lt{w:World}:∀ (ds:List D) {l:List Value} {fp:List Nat},bX w ds l fp->∀ b∈fp,b<w.heap.size
 | [],_,_,h=>λ b hb=>by rw[show _=[] from h] at hb;cases hb
 | d::ds,_,_,h=>λ b hb=>by
  obtain⟨c,r,f1,f2,_,rfl,h3,h4⟩:=h
  rcases a8t.1 hb with hb|hb
  .exact Ow.lt d h3 b hb
  .exact bX.lt ds h4 b hb
end
structure Nd(w:World)(b o:Nat)(x:J)(L:List Value)(t:TypeId)(fy:List Nat):Prop where
 h:w.heap[b]?=some (.cells L.toArray t (0,0))
 l:o+3<=L.length
 ow:Ow w x.aR ((L.drop o).take 3) fy
 nb:b∉fy
 nd:fy.Nodup
def Pl(w:World)(lo B:Nat)(x:J):Prop:=∃ cs t fp,w.heap[B]?=some (.cells cs.toArray t (0,0))/\Ow w x.aR cs fp/\∀ q∈fp,lo<=q
structure DX(w:World)(lo B:Nat)(x:J)(ks:List Int)(b o:Nat)(L:List Value)(t:TypeId)(fy:List Nat):Prop where
 nd:Nd w b o (dd x ks) L t fy
 flo:∀ q∈fy,lo<=q
 lb:lo<=b
 put:∀ (w':World) (y:J) (c:List Value) (f:List Nat),(∀ k,k<w.heap.size->k≠b->k∉fy->w'.heap[k]?=w.heap[k]?)->w'.heap[b]?=some (.cells (L.take o++c++L.drop (o+3)).toArray t (0,0))->c.length=3->Ow w' y.aR c f->(∀ q∈f,lo<=q)->Pl w' lo B (gv y x ks)
theorem a5F(w:World)(lo B:Nat)(x:J)(cs:List Value)(t:TypeId)(fp:List Nat)(h:w.heap[B]?=some (.cells cs.toArray t (0,0)))(ho:Ow w x.aR cs fp)(hb:B∉fp)(hn:fp.Nodup)(hB:lo<=B)(hl:∀ q∈fp,lo<=q):DX w lo B x [] B 0 cs t fp:=by
 have hl6:cs.length=3:=(Ow.length _ ho).trans (by cases x;rfl)
 refine⟨⟨h,by omega,?_,hb,hn⟩,hl,hB,λ w' y c f hk hh hc hw hf=>⟨c,t,f,?_,hw,hf⟩⟩
 .rw[b0C,a9d (by omega)];exact ho
 .rw[a9D,a8T,List.drop_of_length_le (by omega),a9N] at hh
  exact hh
theorem Lv(y:J)(k:Int):∀ (ks:List Int) (x:J),gv (J.mk (dd x ks).ak (dd x ks).aI ((dd x ks).M.set k.toNat y)) x ks=gv y x (ks++[k])
 | [],x=>rfl
 | j::ks,x=>by
  simp only[a9y,gv,dd]
  rw[Lv y k ks]
theorem Ql(w:World)(z:J)(cs:List Value)(fy:List Nat)(h:Ow w z.aR cs fy):∃ c0 v,cs=c0++[v]/\c0.length=2/\Ow w (.slice 3 (z.M.map J.aR)) [v] fy /\
  ∀ (w':World) (ks:List J) (f:List Nat),Ow w' (.slice 3 (ks.map J.aR)) [v] f->Ow w' (J.mk z.ak z.aI ks).aR cs f:=by
 cases z with
 | mk k n ks =>
  simp only[J.aR,J.vE] at h
  obtain⟨v0,r0,f0,g0,rfl,rfl,a0,v1,r1,f1,g1,rfl,rfl,a1,v2,r2,f2,g2,rfl,rfl,a2,rfl,rfl⟩:=h
  have e0:f0=[]:=a0.2
  have e1:f1=[]:=a1.2
  subst e0 e1
  refine⟨[v0,v1],v2,rfl,rfl,by simpa using a2,λ w' ks' f hw=>?_⟩
  simp only[J.aR,J.vE]
  exact⟨v0,_,[],f,rfl,rfl,(a0.aU _ λ b hb=>(by cases hb)),v1,_,[],f,rfl,rfl,(a1.aU _ λ b hb=>(by cases hb)),v2,[],f,[],rfl,by simp,hw,rfl,rfl⟩
theorem a1u(x:J):x.aR.size=3:=by cases x;rfl
theorem Zt{w:World}{lo B:Nat}{x:J}{ks:List Int}{b o:Nat}{L:List Value}{t:TypeId}{fy:List Nat}(h:DX w lo B x ks b o L t fy) :
  ∃ a cap,w.cell? ⟨b,o+2,none⟩=some (.slice a (dd x ks).M.length cap)/\(dd x ks).M.length<=140737488355328:=by
 obtain⟨c0,v,e1,e2,e4,_⟩:=Ql w _ _ _ h.nd.ow
 obtain⟨a,cap,q1,_,_,q4,_⟩:=e4
 simp only[a8z,a8F,a8R] at q1 q4
 subst q1
 refine⟨a,cap,?_,q4⟩
 have hl:=h.nd.l
 have h5:((L.drop o).take 3)[2]?=some (.slice a (dd x ks).M.length cap):=by rw[e1,b0e (by omega),e2];rfl
 rw[b1t (by omega),b0l] at h5
 simp[World.cell?,h.nd.h,h5]
theorem Zu{w:World}{lo B:Nat}{x:J}{ks:List Int}{b o:Nat}{L:List Value}{t:TypeId}{fy:List Nat}(h:DX w lo B x ks b o L t fy)(k:Int)(hk:0<=k/\k<((dd x ks).M.length:Int)) :
  ∃ bk cap L' t' fy',w.cell? ⟨b,o+2,none⟩=some (.slice (some ⟨bk,0,none⟩) (dd x ks).M.length cap)/\(dd x ks).M.length<=140737488355328/\DX w lo B x (ks++[k]) bk (k.toNat * 3) L' t' fy':=by
 obtain⟨c0,v,e1,e2,e4,e5⟩:=Ql w _ _ _ h.nd.ow
 obtain⟨a,cap,q1,q2,q3,q4,q5⟩:=id e4
 simp only[a8z,a8F,a8R] at q1 q2 q4
 subst q1
 have hl:=h.nd.l
 have h5:((L.drop o).take 3)[2]?=some (.slice a (dd x ks).M.length cap):=by rw[e1,b0e (by omega),e2];rfl
 rw[b1t (by omega),b0l] at h5
 rcases q5 with ⟨q5,_⟩|⟨bk,f,l,t',rfl,rfl,hb,hc,hr⟩
 .have:(dd x ks).M=[]:=b1E.1 q5
  rw[this] at hk
  simp at hk
  omega
 have Iw:k.toNat<(dd x ks).M.length:=by omega
 have hn6:∀ d∈(dd x ks).M.map J.aR,d.size=3:=λ d hd=>by
  obtain⟨y,_,rfl⟩:=a8A.1 hd
  exact a1u y
 obtain⟨f0,f1,f2,rfl,hlen,hw1,Cf⟩:=bX.split _ k.toNat ((dd x ks).M.getD k.toNat zE).aR hr hn6 (by simp[Iw])
 have hnk:=h.nd.nd
 have hnb:=h.nd.nb
 have a2y:=(a9j.1 hnk)
 have a4M:=a8S.1 a2y.2
 have a4N:=a8S.1 a4M.1
 refine⟨bk,cap,l,t',f1,?_,q4,⟨hb,hlen,?_,λ q=>a2y.1 (by simp[q]),a4N.2.1⟩,λ q hq=>h.flo q (by simp[hq]),h.flo bk (by simp),λ w' y c f' iw hh Dq hw hlo=>?_⟩
 .simp[World.cell?,h.nd.h,h5]
 .rw[(Te k ks x).2.1];exact hw1
 .rw[<-Lv]
  have hbk:b≠bk:=λ e=>hnb (by simp[e])
  have bS:=λ q hq=>Ow.lt _ h.nd.ow q hq
  refine h.put w' _ ((L.drop o).take 3) (bk::(f0++f'++f2)) (λ q h1 h2 h3=>iw q h1 (λ e=>h3 (by simp[e])) λ e=>h3 (by simp[e])) ?_ (by simp;omega) ?_ (λ q hq=>?_)
  .rw[iw b (a9x.1 h.nd.h).1 hbk λ e=>hnb (by simp[e]),h.nd.h]
   congr 2
   have e6:L.drop (o+3)=(L.drop o).drop 3:=by rw[a9Y]
   rw[e6,a9r,a9K,a9K]
  .refine e5 w' _ _ ?_
   refine⟨_,cap,by rw[a8R,b0b],by rw[a8R,b0b];exact q2,q3,by rw[a8R,b0b];exact q4, .inr ⟨bk,f0++f'++f2,_,t',rfl,rfl,hh,?_,?_⟩⟩
   .simp only[a8K,a8U,a9w,Dq];omega
   .rw[b0W]
    exact Cf w' y.aR c f' (λ q hq=>iw q (bS q (by simp only[a8t,a8I] at hq ⊢;rcases hq with hq|hq<;>simp[hq])) (λ e=>a2y.1 (by rw[<-e];simp only[a8t] at hq ⊢;rcases hq with hq|hq<;>simp[hq])) λ e=>by
     rcases a8t.1 hq with hq|hq
     .exact a4N.2.2 q hq q e rfl
     .exact a4M.2.2 q (by simp[e]) q hq rfl) Dq hw
  .simp only[a8t,a8I] at hq
   rcases hq with rfl|((hq|hq)|hq)
   .exact h.flo q (by simp)
   .exact h.flo q (by simp[hq])
   .exact hlo q hq
   .exact h.flo q (by simp[hq])
end
end Go.Proofs.YtmjfpcajohhbeaaGreatDoor

set_option maxRecDepth 4000
set_option maxHeartbeats 4000000
namespace Go.Proofs.YtmjfpcajohhbeaaGreatDoor
noncomputable section
open Go.RowKit Go.Proofs
theorem Ht{w:World}{b:Nat}{cs:List Value}{t:TypeId}(h:w.heap[b]?=some (.cells cs.toArray t (0,0))):ct w b 0 cs:=λ j v hj=>by
 simp[World.cell?,h,hj]
theorem fT{X Y Z:Nat->Prop}{a b c:World}(h:bN X a b)(k:bN Y b c)(hX:∀ i,i<a.heap.size->X i->Z i)(hY:∀ i,i<a.heap.size->Y i->Z i):bN Z a c :=
 ⟨k.os.trans h.os,k.tape.trans h.tape,k.output.trans h.output,b0N h.size k.size,λ i hi hz=>(k.block i (a8G hi h.size) λ q=>hz (hY i hi q)).trans (h.block i hi λ q=>hz (hX i hi q))⟩
theorem Lt(w:World)(o:Obj):bN (λ _=>False) w (w.alloc o)/\(w.alloc o).heap[w.heap.size]?=some o/\(w.alloc o).heap.size=w.heap.size+1:=by
 refine⟨⟨rfl,rfl,rfl,by simp,λ b hb _=>?_⟩,?_,by simp⟩
 .show (w.heap.push o)[b]?=_
  rw[a9z,a8y];omega
 .show (w.heap.push o)[w.heap.size]?=_
  rw[a9z,a8O rfl]
theorem a4i{w W:World}{o1 o2 o3:Obj}(h:((w.alloc o1).alloc o2).alloc o3=W) :
  bN (λ _=>False) w W/\W.heap[w.heap.size]?=some o1/\W.heap[w.heap.size+1]?=some o2/\W.heap[w.heap.size+1+1]?=some o3/\W.heap.size=w.heap.size+3:=by
 subst h
 refine⟨⟨rfl,rfl,rfl,by simp;omega,λ b hb _=>?_⟩,?_,?_,?_,by simp⟩
 .show (((w.heap.push o1).push o2).push o3)[b]?=_
  rw[a9z,a9z,a9z,a8y (by simp only[b0i];omega),a8y (by simp only[b0i];omega),a8y (by omega)]
 .show (((w.heap.push o1).push o2).push o3)[w.heap.size]?=_
  rw[a9z,a9z,a9z,a8y (by simp only[b0i];omega),a8y (by simp only[b0i];omega),a8O rfl]
 .show (((w.heap.push o1).push o2).push o3)[w.heap.size+1]?=_
  rw[a9z,a9z,a8y (by simp only[b0i];omega),a8O (by simp only[b0i])]
 .show (((w.heap.push o1).push o2).push o3)[w.heap.size+1+1]?=_
  rw[a9z,a8O (by simp only[b0i])]
theorem ZJ{w0 w:World}{S:Nat->Prop}(hS:wR w0 S)(hb:Below w0.heap.size w0 w):wR w S :=
 ⟨λ b h=>a8G (hS.1 b h) hb.size,hS.2.mono (λ _ h=>h) λ b h=>hb.block b (hS.1 b h)⟩
theorem TC{w0 w:World}{S:Nat->Prop}(hS:wR w0 S)(hb:Below w0.heap.size w0 w){d:D}{cs:List Value}(r:Rd w0 S d cs):Rd w S d cs:=Rd.aU (λ _ h=>h) (λ b h=>hb.block b (hS.1 b h)) _ r
theorem uY{B:Nat}{w w':World}(h:bN (λ _=>False) w w')(hB:B<=w.heap.size):Below B w w':=⟨h.os,h.tape,h.output,h.size,λ k hk=>h.block k (by omega) id⟩
theorem FQ{w0 w:World}(hb:Below w0.heap.size w0 w){b o:Nat}{cs:List Value}(h:ct w0 b o cs)(h1:b<w0.heap.size):ct w b o cs:=h.aU (hb.block b h1)
theorem fz0{w:World}{g e j:Nat}{cur:Array Value}(h:w.heap[g]?=some (.cells cur e (0,0))):w.frozen? ⟨g,j,none⟩=false:=by simp[World.frozen?,h]
theorem N3{w:World}{b t:Nat}{u0 u1 u2:Value}(h:w.heap[b]?=some (.cells #[u0,u1,u2] t (0,0))):(w.cell? ⟨b,0,none⟩=some u0/\w.cell? ⟨b,1,none⟩=some u1/\w.cell? ⟨b,2,none⟩=some u2)/\w.frozen? ⟨b,0,none⟩=false/\w.frozen? ⟨b,1,none⟩=false/\w.frozen? ⟨b,2,none⟩=false :=
 ⟨⟨by simp[World.cell?,h],by simp[World.cell?,h],by simp[World.cell?,h]⟩,fz0 h,fz0 h,fz0 h⟩
theorem Nj{w:World}{b t:Nat}{u0 u1 u2:Value}(c0 c1 c2:Value)(h:w.heap[b]?=some (.cells #[u0,u1,u2] t (0,0))):(((w.setCell ⟨b,0,none⟩ c0).setCell ⟨b,1,none⟩ c1).setCell ⟨b,2,none⟩ c2).heap[b]?=some (.cells #[c0,c1,c2] t (0,0)) /\
  ∀ k,k≠b->(((w.setCell ⟨b,0,none⟩ c0).setCell ⟨b,1,none⟩ c1).setCell ⟨b,2,none⟩ c2).heap[k]?=w.heap[k]? :=
 ⟨b1R _ _ _ _ _ _ (b1R _ _ _ _ _ _ (b1R _ _ _ _ _ _ h)),λ k hk=>by rw[b1J _ _ _ _ hk,b1J _ _ _ _ hk,b1J _ _ _ _ hk]⟩
theorem ow3{w:World}{x:J}{c:List Value}{fp:List Nat}(h:Ow w x.aR c fp):∃ a m cap,c=[.int .i64 x.ak, .int .i64 x.aI, .slice a m cap]:=by
 cases x with
 | mk k n ks =>
  simp only[J.aR,J.vE] at h
  obtain⟨v0,r0,f0,g0,rfl,rfl,a0,v1,r1,f1,g1,rfl,rfl,a1,v2,r2,f2,g2,rfl,rfl,a2,rfl,rfl⟩:=h
  have e0:[v0]=[.int .i64 k]:=a0.1.1
  have e1:[v1]=[.int .i64 n]:=a1.1.1
  obtain⟨a,cap,e2,_⟩:=a2
  simp only[a8z,a8F] at e0 e1 e2
  subst e0 e1 e2
  exact⟨a,_,cap,rfl⟩
theorem bN.drew{X:Nat->Prop}{w w':World}(h:bN X w w'):bN X w w'.drew:=⟨h.os,h.tape,h.output,h.size,h.block⟩
theorem Rd.drew{w:World}{S:Nat->Prop}{d:D}{cs:List Value}(h:Rd w S d cs):Rd w.drew S d cs:=Rd.aU (w:=w) (w':=w.drew) (λ _ h=>h) (λ _ _=>rfl) _ h
theorem a1g{w0 w:World}{S:Nat->Prop}(hS:wR w0 S)(hb:Below w0.heap.size w0 w)(e:J)(ts as_:List J)(l:Int)(hp:iv ts as_ e/\aZ 62 62 e=true/\CU ts as_/\(aF (c9 ts as_ e):Int)<=1000000+l/\l<=1000)(hl : -1000000<=l)
  (b o:Nat) (cs:List Value) (h1:b<w.heap.size) (h2:ct w b o cs) (r:Rd w0 S e.aR cs) (v3 v4:Value) (r3:Rd w0 S (.slice 3 (ts.map J.aR)) [v3]) (r4:Rd w0 S (.slice 3 (as_.map J.aR)) [v4]) (q:Nat) (t:TypeId) (hq:w.heap[q]?=some (.cells #[.int .i64 l] t (0,0))) (hq0:w0.heap.size<=q) (hbq:b≠q) :
  Calls prog pn #[.pointer (some ⟨b,o,none⟩),v3,v4, .pointer (some ⟨q,0,none⟩)] w λ x w'=>∃ (k' n':Int) (a':Option Addr) (m' c':Nat) (fp:List Nat) (t':TypeId),x = .returned (.agg #[.int .i64 k', .int .i64 n', .slice a' m' c'])/\bN (λ b=>b=q) w w'/\Ow w' (ed ts as_ e l).1.aR [.int .i64 k', .int .i64 n', .slice a' m' c'] fp/\fp.Nodup /\
   (∀ b∈fp,w.heap.size<=b/\b<w'.heap.size)/\w'.heap[q]?=some (.cells #[.int .i64 (ed ts as_ e l).2] t' (0,0)):=by
 have hi:O l:=⟨by show (-9223372036854775808:Int)<=l;omega,by show l<=9223372036854775807;omega⟩
 have hnS:¬ S q:=λ h=>by have:=hS.1 q h;omega
 refine (K8.2 e ts as_ l hp w S (λ _=>q) [_,_,_,_] [] (ZJ hS hb) ⟨_,t,[],[],rfl,hq,⟨⟨rfl,rfl,rfl,hi⟩,rfl⟩,rfl⟩ a9F (by simp) (λ k hk=>⟨bI hq,hnS⟩) (λ j k hj hk _=>by
   have hj:j<1:=hj
   have hk:k<1:=hk
   omega)
  ⟨⟨b,o,cs,rfl,h1,(λ h=>by rcases h with h|⟨k,_,h⟩;cases h;exact hbq h),h2,TC hS hb r⟩,TC hS hb r3,TC hS hb r4,rfl,trivial⟩).mono ?_
 rintro x w' ⟨v,S',fp,L4,rfl,hk,_,_,_,cQ,hB,hn,hf,_⟩
 obtain⟨c,rfl,ho⟩:=(show ∃ cs,v = .agg cs.toArray/\Ow w' (ed ts as_ e l).1.aR cs fp from cQ)
 obtain⟨lc,t',f1,f2,e1,Um,hR,e2⟩:=hB
 have e2:f2=[]:=e2
 match lc,hR with
 | [u],⟨⟨_,_,hu,_⟩,e3⟩ =>
  have hu:[u]=[.int .i64 (ed ts as_ e l).2]:=hu
  simp only[a8z,a8F] at hu
  subst hu
  obtain⟨a,m,cap,rfl⟩:=ow3 ho
  refine⟨_,_,_,_,_,fp,t',rfl,⟨hk.os,hk.tape,hk.output,hk.size,λ i hi hq=>hk.block i hi λ h=>?_⟩,ho,(a8S.1 hn).1,λ i hi=>?_,Um⟩
  .rcases h with h|⟨k,_,h⟩
   .cases h
   .exact hq h
  .have:=(hf i (b0v _ hi)).1
   rcases this with h|h
   .cases h
   .exact h
theorem OB{w0 w:World}{S:Nat->Prop}(hS:wR w0 S)(hb:Below w0.heap.size w0 w)(gg:aO)(g0 g1:Value)(r1:Rd w0 S (aS.sig.aR gg) [g0,g1])(x:J)(b o:Nat)(cs:List Value)(h1:b<w.heap.size)(h2:ct w b o cs)(r:Rd w (λ b=>b<w.heap.size) x.aR cs) :
  Calls prog uL #[.agg #[g0,g1], .pointer (some ⟨b,o,none⟩)] w λ e w'=>e = .returned (.bool (uu gg x))/\bN (λ _=>False) w w':=by
 have hA:wR w λ b=>b<w.heap.size:=⟨λ _ h=>h,hS.2.mono (λ b h=>a8G (hS.1 b h) hb.size) λ b h=>hb.block b (hS.1 b h)⟩
 refine (pK.2 gg x trivial w _ [_,_] hA ⟨⟨[g0,g1],rfl,r1.aU (λ b h=>a8G (hS.1 b h) hb.size) λ b h=>hb.block b (hS.1 b h)⟩,⟨b,o,cs,rfl,h1,h2,r⟩,trivial⟩).mono ?_
 rintro e w' ⟨v,S',res,rfl,rfl,oS,_,_,hr⟩
 have hr:[v]=[.bool (uu gg x)]:=hr
 simp only[a8z,a8F] at hr
 subst hr
 exact⟨rfl,oS⟩
def E0:Env:=aL [] [] [] []
theorem hE0:bP prog E0:=Oa trivial
theorem ld3{w:World}{g o:Nat}{cs:List Value}(hc:ct w g o cs)(hl:cs.length=3):(Instr.loadAt 38 (.pointer (some ⟨g,o,none⟩))).run prog w = .ok (.agg cs.toArray) w :=
 pt hE0 (T:=38) (τ := .st .expr) rfl hc hl
theorem AF{f:Func}{a:Act}{w:World}{b:Nat}{cs:List Value}{t:TypeId}{n:Value}(hf:f.results = #[.cell 8 38, .tmp 9])(h8:a.tmps.getD 8 undef = .pointer (some ⟨b,0,none⟩))(h9:a.tmps.getD 9 undef=n)(hb:w.heap[b]?=some (.cells cs.toArray t (0,0)))(hl:cs.length=3)(hd:a.defers=[])
  {R:Ending->World->Prop} (hR:R (.returned (.tuple #[.agg cs.toArray,n])) w):bodyPost prog f R .ret a w:=by
 refine bodyPost_ret ?_ hd hR
 have cZ:=ld3 (Ht hb) hl
 simp only[Instr.loadAt,Instr.sureAddr,a8Y,a8Z,a8Q] at cZ
 rw[AE,b0M]
 simp only[a8Y,b2c,hf,b0V,List.mapM_nil,sn,h8,h9,asAddr,a8Z,a8Q,cZ]
 rfl
theorem P3{w w3:World}{q:Nat}{t:TypeId}{u0 u1 u2:Value}(c0 c1 c2:Value)(hk:bN (λ _=>False) w w3)(h:w3.heap[q]?=some (.cells #[u0,u1,u2] t (0,0)))(hq:w.heap.size<=q):bN (λ _=>False) w (((w3.setCell ⟨q,0,none⟩ c0).setCell ⟨q,1,none⟩ c1).setCell ⟨q,2,none⟩ c2) /\
  (((w3.setCell ⟨q,0,none⟩ c0).setCell ⟨q,1,none⟩ c1).setCell ⟨q,2,none⟩ c2).heap.size=w3.heap.size :=
 ⟨⟨hk.os,hk.tape,hk.output,by simpa using hk.size,λ b hb _=>((Nj c0 c1 c2 h).2 b (by omega)).trans (hk.block b hb id)⟩,by simp⟩
structure suP(gg:aO)(e:J)(ts as_:List J):Prop where
 s:bK gg=true
 f:iv ts as_ e
 t:aZ 62 62 e=true
 n:CU ts as_
 d:aF e<=500
set_option maxRecDepth 100000 in
theorem a1t(gg:aO)(e:J)(ts as_:List J)(hp:suP gg e ts as_):bh prog yB [.val ⟨.st .sig,gg⟩, .ref ⟨.st .expr,e⟩, .val ⟨.slice (.st .expr),ts⟩, .val ⟨.slice (.st .expr),as_⟩] (·=[⟨.st .expr,CN e ts as_⟩,⟨.bool,cg gg (c9 ts as_ e)⟩]):=by
 intro w S cS hS ha
 match cS,ha with
 | [v1,v2,v3,v4],ha =>
 obtain⟨⟨c1,rfl,r1⟩,⟨b,o,cs,rfl,hb,hc,r2⟩,r3,r4,_⟩:=ha
 have r3:Rd w S (.slice 3 (ts.map J.aR)) [v3]:=r3
 have r4:Rd w S (.slice 3 (as_.map J.aR)) [v4]:=r4
 obtain⟨g0,g1,rfl⟩:∃ g0 g1,c1=[g0,g1]:=by
  have:=Rd.length _ r1
  match c1,this with
  | [g0,g1],_=>exact⟨_,_,rfl⟩
 obtain⟨p0,p1,p2,p3,p4⟩:=hp
 have a7S:=Xs p3 e
 generalize Wa:(λ (x:Ending) (w':World)=>∃ v S' res,x=Ending.returned v/\res=[(⟨Ty.st aS.expr,CN e ts as_⟩:TV),⟨Ty.bool,cg gg (c9 ts as_ e)⟩]/\bN (λ _=>False) w w'/\(∀ b,b<w.heap.size->(S' b↔S b))/\(∀ b,S' b->b<w'.heap.size)/\DY w' S' res v)=Po
 go_enter Tryz.func64,Tryz.ntmps64
 go_wp2
 generalize hW:((w.alloc _).alloc _).alloc _=W
 obtain⟨k1,h1,h2,h3,h4⟩:=a4i hW
 clear hW
 have b1:Below w.heap.size w W:=uY k1 (a9i _)
 refine (a1g hS b1 e ts as_ 200 ⟨p1,p2,p3,by omega,by omega⟩ (by omega) b o cs (a8G hb k1.size) (FQ b1 hc hb) r2 v3 v4 r3 r4 _ _ h3 (by omega) (by omega)).mono ?_
 rintro _ w1 ⟨k',n',a',m',c',fp,t',rfl,k2,ho,hn,hf,hq⟩
 have e1:=(k2.block _ (bI h1) (by omega)).trans h1
 have e2:=(k2.block _ (bI h2) (by omega)).trans h2
 have k3:bN (λ _=>False) w w1:=fT k1 k2 (λ _ _ q=>q) λ i hi q=>by omega
 clear h1 h2 h3 k1 k2 b1
 go_wp2_with fail
 obtain⟨k4,e4,s4⟩:=Lt w1 (.cells #[.int .i64 k', .int .i64 n', .slice a' m' c'] 38)
 have e5:=(k4.block _ (bI e1) id).trans e1
 have e6:=(k4.block _ (bI e2) id).trans e2
 have e7:=(k4.block _ (bI hq) id).trans hq
 have l4:=bI e4
 have ho4:=ho.aU _ λ b hb=>k4.block b (hf b hb).2 id
 have k5:bN (λ _=>False) w (w1.alloc (.cells #[.int .i64 k', .int .i64 n', .slice a' m' c'] 38)).drew:=(fT k3 (Z:=λ _=>False) k4 (λ _ _ q=>q) λ _ _ q=>q).drew
 have f1:∀ b∈fp,w.heap.size<=b/\b<w1.heap.size/\b≠w.heap.size/\b≠w.heap.size+1/\b≠w.heap.size+1+1:=λ b hb=>by have:=hf b hb;omega
 have sz1:=k3.size
 have l1:=bI e1
 have l2:=bI e2
 have l3:=bI hq
 clear e1 e2 hq ho k3 hf
 generalize hw1:w1.heap.size=q1 at *
 generalize w1.alloc (.cells #[.int .i64 k', .int .i64 n', .slice a' m' c'] 38)=w2 at *
 have e4d:w2.drew.heap[q1]?=some (.cells #[.int .i64 k', .int .i64 n', .slice a' m' c'] 38 (0,0)):=e4
 have e5d:w2.drew.heap[w.heap.size]?=some (.cells #[g0,g1] 41 (0,0)):=e5
 have e6d:w2.drew.heap[w.heap.size+1]?=some (.cells #[.int .i64 0, .int .i64 0, .slice none 0 0] 38 (0,0)):=e6
 have e7d:w2.drew.heap[w.heap.size+1+1]?=some (.cells #[.int .i64 (ed ts as_ e 200).2] t' (0,0)):=e7
 obtain⟨⟨z0,z1,z2⟩,_⟩:=N3 e4d
 obtain⟨⟨y0,y1,y2⟩,y3,y4,y5⟩:=N3 e6d
 have u0:w2.drew.cell? ⟨w.heap.size,0,none⟩=some g0:=by simp[World.cell?,e5d]
 have u1:w2.drew.cell? ⟨w.heap.size,1,none⟩=some g1:=by simp[World.cell?,e5d]
 have x0:w2.drew.cell? ⟨w.heap.size+1+1,0,none⟩=some (.int .i64 (ed ts as_ e 200).2):=by simp[World.cell?,e7d]
 have ro:Rd w2.drew (λ b=>b<w2.drew.heap.size) (ed ts as_ e 200).1.aR [.int .i64 k', .int .i64 n', .slice a' m' c']:=Rd.drew (S:=λ b=>b<w2.heap.size) (ho4.rd _ λ b hb=>by have:=(f1 b hb).2.1;show b<w2.heap.size;omega)
 have b5:Below w.heap.size w w2.drew:=uY k5 (a9i _)
 by_cases hl:0<=(ed ts as_ e 200).2
 .have hd:decide ((0:Int)<=(ed ts as_ e 200).2)=true:=a8W hl
  have Zf:=OB hS b5 gg g0 g1 r1 (ed ts as_ e 200).1 q1 0 _ (bI e4d) (Ht e4d) ro
  go_region_with (first
   | (
     go_at_call 39
     refine Zf.mono ?_
     rintro _ w3 ⟨rfl,k6⟩
     have e4e:=(k6.block _ (bI e4d) id).trans e4d
     have e6e:=(k6.block _ (bI e6d) id).trans e6d
     obtain⟨⟨v0,v1,v2⟩,_⟩:=N3 e4e
     obtain⟨⟨t0,t1,t2⟩,t3,t4,t5⟩:=N3 e6e))
  all_goals
   have k7:=fT (Z:=λ _=>False) k5 k6 (λ _ _ q=>q) λ _ _ q=>q
   obtain⟨x9,o9⟩:=Nj (.int .i64 k') (.int .i64 n') (.slice a' m' c') e6e
   obtain⟨k8,s8⟩:=P3 (.int .i64 k') (.int .i64 n') (.slice a' m' c') k7 e6e (by omega)
   obtain⟨⟨j0,j1,j2⟩,_⟩:=N3 x9
   have ho5:=ho4.aU (w':=((w3.setCell ⟨w.heap.size+1,0,none⟩ (.int .i64 k')).setCell ⟨w.heap.size+1,1,none⟩ (.int .i64 n')).setCell ⟨w.heap.size+1,2,none⟩ (.slice a' m' c')) _ λ b hb=>(o9 b (f1 b hb).2.2.2.1).trans (k6.block b (by have:=(f1 b hb).2.1;show b<w2.heap.size;omega) id)
   generalize ((w3.setCell ⟨w.heap.size+1,0,none⟩ (.int .i64 k')).setCell ⟨w.heap.size+1,1,none⟩ (.int .i64 n')).setCell ⟨w.heap.size+1,2,none⟩ (.slice a' m' c')=w4 at *
   go_wp2
   refine AF rfl rfl rfl x9 rfl rfl ?_
   rw[<-Wa]
   refine⟨_,λ b=>S b\/(w.heap.size<=b/\b<w4.heap.size),_,rfl,rfl,k8,λ b hb=>⟨λ h=>h.elim id λ h=>absurd h.1 (by omega), .inl⟩,λ b h=>h.elim (λ h=>a8G (hS.1 b h) k8.size) λ h=>h.2,[_,_],rfl,⟨_,rfl,?_⟩,?_,trivial⟩
   .exact ho5.rd _ λ b hb => .inr ⟨(f1 b hb).1,by have:=(f1 b hb).2.1;have:=k6.size;have:w2.drew.heap.size=w2.heap.size:=rfl;omega⟩
   .exact congrArg (λ x=>[Value.bool x]) (a7A _ hl rfl p0).symm
 .have hd:decide ((0:Int)<=(ed ts as_ e 200).2)=false:=a8D hl
  obtain⟨⟨i0,i1,i2⟩,i3,i4,i5⟩:=N3 e6
  have k5':bN (λ _=>False) w w2:=⟨k5.os,k5.tape,k5.output,k5.size,k5.block⟩
  go_region
  all_goals
   have k7:=fT (Z:=λ _=>False) k5' (bN.refl _ _) (λ _ _ q=>q) λ _ _ q=>q
   obtain⟨x9,o9⟩:=Nj (.int .i64 k') (.int .i64 n') (.slice a' m' c') e6
   obtain⟨k8,s8⟩:=P3 (.int .i64 k') (.int .i64 n') (.slice a' m' c') k7 e6 (by omega)
   obtain⟨⟨j0,j1,j2⟩,_⟩:=N3 x9
   have ho5:=ho4.aU (w':=((w2.setCell ⟨w.heap.size+1,0,none⟩ (.int .i64 k')).setCell ⟨w.heap.size+1,1,none⟩ (.int .i64 n')).setCell ⟨w.heap.size+1,2,none⟩ (.slice a' m' c')) _ λ b hb=>(o9 b (f1 b hb).2.2.2.1).trans rfl
   generalize ((w2.setCell ⟨w.heap.size+1,0,none⟩ (.int .i64 k')).setCell ⟨w.heap.size+1,1,none⟩ (.int .i64 n')).setCell ⟨w.heap.size+1,2,none⟩ (.slice a' m' c')=w4 at *
   go_wp2
   refine AF (w:=w4.drew) rfl rfl rfl x9 rfl rfl ?_
   rw[<-Wa]
   refine⟨_,λ b=>S b\/(w.heap.size<=b/\b<w4.heap.size),_,rfl,rfl,k8.drew,λ b hb=>⟨λ h=>h.elim id λ h=>absurd h.1 (by omega), .inl⟩,λ b h=>h.elim (λ h=>a8G (hS.1 b h) k8.size) λ h=>h.2,[_,_],rfl,⟨_,rfl,?_⟩,?_,trivial⟩
   .exact Rd.drew (ho5.rd _ λ b hb => .inr ⟨(f1 b hb).1,by have:=(f1 b hb).2.1;have:w2.drew.heap.size=w2.heap.size:=rfl;omega⟩)
   .exact congrArg (λ x=>[Value.bool x]) (a7z (gg:=gg) (e:=e) (ts:=ts) (as_:=as_) (by omega)).symm
def sY:aJ:=⟨yB,[.v (.st .sig), .r (.st .expr), .v (.slice (.st .expr)), .v (.slice (.st .expr))],λ (gg:aO) (e:J) (ts:List J) (as_:List J)=>⟨(some (suP gg e ts as_),[⟨(.st .expr),CN e ts as_⟩,⟨.bool,cg gg (c9 ts as_ e)⟩])⟩⟩
theorem Ml:aJ.Good sY :=
 ⟨aA Qv rfl (by decide),λ gg e ts as_ h=>a1t gg e ts as_ h⟩
end
end Go.Proofs.YtmjfpcajohhbeaaGreatDoor

namespace Go.Proofs.YtmjfpcajohhbeaaGreatDoor
noncomputable section
end
end Go.Proofs.YtmjfpcajohhbeaaGreatDoor

set_option maxRecDepth 4000
set_option maxHeartbeats 4000000
namespace Go.Proofs.YtmjfpcajohhbeaaGreatDoor
noncomputable section
open Go.RowKit Go.Proofs
theorem DX.same{w w':World}{lo B:Nat}{x:J}{ks:List Int}{b o:Nat}{L:List Value}{t:TypeId}{fy:List Nat}(h:DX w lo B x ks b o L t fy)(e:w'.heap=w.heap):DX w' lo B x ks b o L t fy :=
 ⟨⟨by rw[e];exact h.nd.h,h.nd.l,h.nd.ow.aU _ λ _ _=>by rw[e],h.nd.nb,h.nd.nd⟩,h.flo,h.lb,λ w'' y c f hk=>h.put w'' y c f λ k h1=>by rw[<-e];exact hk k (by rw[e];exact h1)⟩
theorem a1c{w:World}{b o:Nat}{x:J}{L:List Value}{t:TypeId}{fy:List Nat}(h:Nd w b o x L t fy):ct w b o ((L.drop o).take 3):=λ j v hj=>by
 have hj3:j<3:=by
  have:=(a9g.1 hj).1
  rw[a8U] at this
  omega
 rw[b1t hj3,b0l] at hj
 simp[World.cell?,h.h,hj]
theorem a2R{w:World}{lo B:Nat}{x:J}{ks:List Int}:a1B w x ks λ k b o=>∃ L t fy,DX w lo B x (ks.take k) b o L t fy:=by
 rintro k b o ⟨L,t,fy,h⟩ hk
 obtain⟨a,m,cap,Wh⟩:=ow3 h.nd.ow
 have hc:=a1c h.nd
 rw[Wh] at hc
 have h0:=hc 0 _ rfl
 obtain⟨a',UP,h2,hl⟩:=Zt h
 refine⟨h0,a',UP,h2,hl,λ j Wl hj Ul=>?_⟩
 obtain⟨bk,a7Q,L',t',fy',h3,_,h4⟩:=Zu h (j:Int) ⟨by omega,by omega⟩
 rw[h3] at h2
 simp only[a8o,b0g,a9l] at h2
 refine⟨bk,0,h2.1.symm,L',t',fy',?_⟩
 rw[fJ 0 ks k Wl,hj]
 simpa using h4
theorem K2{w0 w:World}{S:Nat->Prop}(hS:wR w0 S)(hb:Below w0.heap.size w0 w)(x:J)(hx:ar x<=1048576)(b o:Nat)(cs:List Value)(h1:b<w.heap.size)(h2:ct w b o cs)(r:Rd w0 S x.aR cs) :
  Calls prog pk #[.pointer (some ⟨b,o,none⟩)] w λ e w'=>∃ (k' n':Int) (a':Option Addr) (m' c':Nat) (fp:List Nat),e = .returned (.agg #[.int .i64 k', .int .i64 n', .slice a' m' c'])/\bN (λ _=>False) w w'/\Ow w' x.aR [.int .i64 k', .int .i64 n', .slice a' m' c'] fp/\fp.Nodup/\∀ q∈fp,w.heap.size<=q/\q<w'.heap.size:=by
 refine (rF.2 x hx w S [_] [] (ZJ hS hb) ⟨[],[],rfl,⟨rfl,⟨b,o,cs,rfl,h1,h2,TC hS hb r⟩⟩,rfl⟩ (.inl rfl) a9F (by simp)).mono ?_
 rintro e w' ⟨v,fp,rfl,oS,cQ,hn,hf⟩
 obtain⟨c,rfl,ho⟩:=(show ∃ cs,v = .agg cs.toArray/\Ow w' x.aR cs fp from cQ)
 obtain⟨a,m,cap,rfl⟩:=ow3 ho
 exact⟨_,_,_,_,_,fp,rfl,by simpa using oS,ho,hn,λ q hq=>by simpa using hf q hq⟩
theorem Xg{w0 w:World}{S:Nat->Prop}(hS:wR w0 S)(hb:Below w0.heap.size w0 w)(x:J)(b o:Nat)(cs:List Value)(h1:b<w.heap.size)(h2:ct w b o cs)(r:Rd w0 S x.aR cs) :
  Calls prog gW #[.pointer (some ⟨b,o,none⟩)] w λ e w'=>e = .returned (.bool (bj x))/\bN (λ _=>False) w w':=by
 refine (l6.2 x trivial w _ [_] (ZJ hS hb) ⟨⟨b,o,cs,rfl,h1,h2,TC hS hb r⟩,trivial⟩).mono ?_
 rintro e w' ⟨v,S',res,rfl,rfl,oS,_,_,hr⟩
 have hr:[v]=[.bool (bj x)]:=hr
 simp only[a8z,a8F] at hr
 subst hr
 exact⟨rfl,oS⟩
theorem AJ{P:Program}{ops:Array Oper}{rest:List Oper}{op:Oper}{a:Act}{w w':World}{Q:Exit->Act->World->Prop}{ty:TypeId}{x y:Operand}{p v:Value}(hgd:op.guard=none)(ho:op.op = .store ty x y)
  (hx:a.eval x=p) (hy:a.eval y=v) (hr:(Instr.storeAt ty p v).run P w = .ok () w') (h:wpList P ops Q rest (a.put op.dst undef) w'):wpList P ops Q (op::rest) a w :=
 wpList_plain hgd λ K hK=>by
  unfold Oper.wp execOp
  simp only[ho,hx,hy,a8Y,a8Z,a8Q,hr]
  exact hK _ _ h
theorem st3{w:World}{g o:Nat}{l cs:List Value}{t:TypeId}(hg:w.heap[g]?=some (.cells l.toArray t (0,0)))(h6:cs.length=3)(h1:∀ u∈cs,u.oneCell'=true)(Cc:o+3<=l.length) :
  ∃ w',(Instr.storeAt 38 (.pointer (some ⟨g,o,none⟩)) (.agg cs.toArray)).run prog w = .ok () w'/\w'.heap[g]?=some (.cells (l.take o++cs++l.drop (o+3)).toArray t (0,0))/\bN (λ b=>b=g) w w'/\w'.heap.size=w.heap.size:=by
 have:=xg (c:=⟨prog,E0,w,λ _=>False,λ _=>False,λ _=>none,λ _=>False,λ _=>none⟩) hE0 (T:=38) (τ := .st .expr) rfl (o:=o) (x := .agg cs.toArray) hg (by simp only[Value.cells];exact h6) (by simpa [Value.cells] using h1) Cc
 refine⟨_,this,?_,⟨rfl,rfl,rfl,by simp,λ b _ hb=>setRow_other w g b _ hb⟩,by simp⟩
 rw[b2b w g _ _ t _ hg]
 rfl
theorem Vj{n:Int}(h:IntKind.i64.min<=n/\n<=IntKind.i64.max):O n:=h
def zC:List Value:=[.int .i64 0, .int .i64 0, .slice none 0 0]
def VN(w:World)(S:Nat->Prop)(V:J)(C:Int)(e:Ending)(w':World):Prop :=
 ∃ x S' res,e=Ending.returned x/\res=[(⟨.st .expr,V⟩:TV),⟨.int .i64,C⟩]/\bN (λ _=>False) w w' /\
  (∀ b,b<w.heap.size->(S' b↔S b))/\(∀ b,S' b->b<w'.heap.size)/\DY w' S' res x
theorem NN{w w':World}{S:Nat->Prop}{V:J}{C c:Int}(hS:wR w S)(hk:bN (λ _=>False) w w')(h:V=J.mk (0:Int) (0:Int) []/\C=c)(hc:O c) :
  VN w S V C (.returned (.tuple #[.agg #[.int .i64 0, .int .i64 0, .slice none 0 0], .int .i64 c])) w':=by
 refine⟨_,S,_,rfl,rfl,hk,λ _ _=>b0w,λ b hb=>a8G (hS.1 b hb) hk.size,[_,_],rfl,⟨zC,rfl,?_⟩,?_,trivial⟩
 .rw[h.1]
  have h0:IntKind.i64.min<=0/\(0:Int)<=IntKind.i64.max:=by decide
  have hs:∀ n,Rd w' S (.slice n []) [.slice none 0 0]:=λ n=>⟨none,0,rfl,by simp,by simp[maxLen],by simp, .inl rfl⟩
  exact⟨_,_,rfl,⟨rfl,h0⟩,_,_,rfl,⟨rfl,h0⟩,_,_,rfl,hs _,rfl⟩
 .rw[h.2]
  exact⟨rfl,hc⟩
theorem a4h{w W:World}{o1 o2:Obj}(h:(w.alloc o1).alloc o2=W) :
  bN (λ _=>False) w W/\W.heap[w.heap.size]?=some o1/\W.heap[w.heap.size+1]?=some o2/\W.heap.size=w.heap.size+2:=by
 subst h
 refine⟨⟨rfl,rfl,rfl,by simp;omega,λ b hb _=>?_⟩,?_,?_,by simp⟩
 .show ((w.heap.push o1).push o2)[b]?=_
  rw[a9z,a9z,a8y (by simp only[b0i];omega),a8y (by omega)]
 .show ((w.heap.push o1).push o2)[w.heap.size]?=_
  rw[a9z,a9z,a8y (by simp only[b0i];omega),a8O rfl]
 .show ((w.heap.push o1).push o2)[w.heap.size+1]?=_
  rw[a9z,a8O (by simp only[b0i])]
structure RqP(gg:aO)(x y:J):Prop where
 s:bK gg=true
 x:ar x<=1048576
 y:ar y<=1048576
set_option maxRecDepth 100000 in
theorem a1k(gg:aO)(x:J)(ps:List Int)(y:J)(hp:RqP gg x y):bh prog nv [.val ⟨.st .sig,gg⟩, .ref ⟨.st .expr,x⟩, .val ⟨.slice (.int .i64),ps⟩, .ref ⟨.st .expr,y⟩] (·=[⟨.st .expr,wv gg x ps y⟩,⟨.int .i64,qn gg x ps y⟩]):=by
 intro w S cS hS ha
 match cS,ha with
 | [v1,v2,v3,v4],ha =>
 obtain⟨⟨c1,rfl,r1⟩,⟨b,o,cs,rfl,hb,hc,r2⟩,r3,⟨by_,oy,cy,rfl,hby,hcy,r4⟩,_⟩:=ha
 have r3:Rd w S (.slice 1 (ps.map (D.int .i64))) [v3]:=r3
 obtain⟨g0,g1,rfl⟩:∃ g0 g1,c1=[g0,g1]:=by
  have:=Rd.length _ r1
  match c1,this with
  | [g0,g1],_=>exact⟨_,_,rfl⟩
 show Calls prog nv _ w (VN w S (wv gg x ps y) (qn gg x ps y))
 generalize Wa:VN w S (wv gg x ps y) (qn gg x ps y)=Po
 go_enter Tryz.func93,Tryz.ntmps93
 go_wp2
 generalize hW:(w.alloc _).alloc _=W
 obtain⟨k1,h1,h2,h4⟩:=a4h hW
 clear hW
 have b1:Below w.heap.size w W:=uY k1 (a9i _)
 refine (K2 hS b1 x hp.x b o cs (a8G hb k1.size) (FQ b1 hc hb) r2).mono ?_
 rintro _ w1 ⟨k',n',a',m',c',fp,rfl,k2,ho,hn,hf⟩
 go_wp2_with fail
 obtain⟨k4,e4,s4⟩:=Lt w1 (.cells #[.int .i64 k', .int .i64 n', .slice a' m' c'] 38)
 have e1:=(k4.block _ ((k2.block _ (bI h1) id).trans h1 |> bI) id).trans ((k2.block _ (bI h1) id).trans h1)
 have e2:=(k4.block _ ((k2.block _ (bI h2) id).trans h2 |> bI) id).trans ((k2.block _ (bI h2) id).trans h2)
 have k3:bN (λ _=>False) w (w1.alloc (.cells #[.int .i64 k', .int .i64 n', .slice a' m' c'] 38)):=fT (fT (Z:=λ _=>False) k1 k2 (λ _ _ q=>q) λ _ _ q=>q) k4 (λ _ _ q=>q) λ _ _ q=>q
 have ho2:=ho.aU _ λ b hb=>k4.block b (hf b hb).2 id
 have hs2:=k2.size
 have hl0:W.heap.size<=w1.heap.size:=hs2
 have u6:∀ q∈fp,W.heap.size<=q:=λ q hq=>(hf q hq).1
 have hBn:w1.heap.size∉fp:=λ q=>by have:=(hf _ q).2;omega
 clear k2 k4 ho hf h1 h2
 generalize hB:w1.heap.size=B at *
 generalize w1.alloc (.cells #[.int .i64 k', .int .i64 n', .slice a' m' c'] 38)=w2 at *
 have r3':Rd w2 S (.slice 1 (ps.map (D.int .i64))) [v3]:=TC hS (uY k3 (a9i _)) r3
 have l0:DX w2 W.heap.size B x (ps.take 0) B 0 [.int .i64 k', .int .i64 n', .slice a' m' c'] 38 fp:=by
  rw[a9D]
  exact a5F w2 W.heap.size B x _ 38 fp e4 ho2 hBn hn hl0 u6
 have hA:=Xa w2 x ps (λ k b o=>∃ L t fy,DX w2 W.heap.size B x (ps.take k) b o L t fy) B 0 (by exact⟨_,_,_,l0⟩) a2R v3 S r3'
 refine hA.mono ?_
 rintro _ w4 ⟨⟨m,hm⟩,p,bl,rfl,kA,bA,oA,hkA,rfl,hLA,hEA,hBA,Sz⟩
 have hh:w4.heap=w2.heap:=by rw[hm];rfl
 have k5:bN (λ _=>False) w w4:=by rw[hm];exact⟨k3.os,k3.tape,k3.output,k3.size,k3.block⟩
 have e5:w4.heap[w.heap.size]?=some (.cells #[g0,g1] 41 (0,0)):=by rw[hh];exact e1
 have e6:w4.heap[w.heap.size+1]?=some (.cells #[.int .i64 0, .int .i64 0, .slice none 0 0] 38 (0,0)):=by rw[hh];exact e2
 have hB4:B<w4.heap.size:=by rw[hh,s4];omega
 obtain⟨⟨y0,y1,y2⟩,y3,y4,y5⟩:=N3 e6
 have b5:Below w.heap.size w w4:=uY k5 (a9i _)
 have hLs:∀ b o,(∃ L t fy,DX w2 W.heap.size B x (ps.take ps.length) b o L t fy)->∃ L t fy,DX w4 W.heap.size B x ps b o L t fy:=λ b o ⟨L,t,fy,h⟩=>⟨L,t,fy,by rw[b1c] at h;exact h.same hh⟩
 clear hm hA
 cases dr:eH x ps
 .obtain⟨x9,o9⟩:=Nj (.int .i64 0) (.int .i64 0) (.slice none 0 0) e6
  obtain⟨k8,s8⟩:=P3 (.int .i64 0) (.int .i64 0) (.slice none 0 0) k5 e6 (by omega)
  go_wp2
  refine AF (cs:=zC) rfl rfl rfl x9 rfl rfl ?_
  rw[<-Wa]
  exact NN hS k8 (TF dr) (Vj (by decide))
 have Mw:=Sz dr
 subst Mw
 rw[(Td ps x dr).2] at hBA
 subst hBA
 have hLx:=hLA
 obtain⟨L,t,fy,hL⟩:=hLs _ _ hLx
 generalize bA=bn at *
 generalize oA=on at *
 clear hLs hLx hLA Sz hh
 have r4':=TC hS b5 r4
 have a6N:by_<w4.heap.size:=a8G hby k5.size
 have a6Q:=FQ b5 hcy hby
 have hC:=Xg hS b5 y by_ oy cy a6N a6Q r4
 generalize Y6:qm x ps=bl at *
 have XN:=k1.size
 cases bl
 .have hgo:xe x ps=false\/bj y=true := .inl (by unfold xe;rw[Y6,Bool.and_false])
  have k6:bN (λ _=>False) w4 w4:=bN.refl _ _
  have YK:=b5
  go_wp2_with fail
  refine (K2 hS YK y hp.y by_ oy cy (a8G hby YK.size) (FQ YK hcy hby) r4).mono ?_
  rintro _ w6 ⟨k'',n'',a'',m'',c'',fp2,rfl,k7,ho6,hn6,hf6⟩
  have hs6:=k6.size
  have hs7:=k7.size
  have Gm:bN (λ _=>False) w4 w6:=fT k6 k7 (λ _ _ q=>q) λ _ _ q=>q
  have Uk:=bI hL.nd.h
  have hL6:w6.heap[bn]?=some (.cells L.toArray t (0,0)):=(Gm.block bn Uk id).trans hL.nd.h
  obtain⟨w7,cw,e15,SS,a7f⟩:=st3 (o:=on) (cs:=[.int .i64 k'', .int .i64 n'', .slice a'' m'' c'']) hL6 rfl (by simp[Value.oneCell']) hL.nd.l
  have hlb:=hL.lb
  have k8:bN (λ _=>False) w w6:=fT k5 Gm (λ _ _ q=>q) λ _ _ q=>q
  have k17:bN (λ _=>False) w w7:=fT k8 SS (λ _ _ q=>q) λ i h q=>by omega
  have hP:Pl w7 W.heap.size B (gv y x ps):=by
   refine hL.put w7 y _ fp2 (λ k h1 h2 h3=>(SS.block k (a8G h1 Gm.size) h2).trans (Gm.block k h1 id)) e15 rfl (ho6.aU _ λ q hq=>?_) λ q hq=>?_
   .have:=hf6 q hq
    exact SS.block q this.2 (by omega)
   .have:=hf6 q hq
    have:=b5.size
    omega
  obtain⟨c8,t8,f8,q1,q2,q3⟩:=hP
  obtain⟨a8,m8,FO,rfl⟩:=ow3 q2
  have e16:=(SS.block _ (a8G (bI e5) Gm.size) (by omega)).trans ((Gm.block _ (bI e5) id).trans e5)
  have e17:=(SS.block _ (a8G (bI e6) Gm.size) (by omega)).trans ((Gm.block _ (bI e6) id).trans e6)
  have u0:w7.cell? ⟨w.heap.size,0,none⟩=some g0:=by simp[World.cell?,e16]
  have u1:w7.cell? ⟨w.heap.size,1,none⟩=some g1:=by simp[World.cell?,e16]
  have Zf:=OB hS (uY k17 (a9i _)) gg g0 g1 r1 (gv y x ps) B 0 _ (bI q1) (Ht q1) (Ow.rd _ q2 λ q hq=>Ow.lt _ q2 q hq)
  go_wp2_with (first|(refine AJ rfl rfl rfl rfl cw ?_)|(go_at_call 39;refine Zf.mono ?_))
  rintro _ w8 ⟨rfl,SU⟩
  have J8:=(SU.block _ (bI e17) id).trans e17
  have e19:=(SU.block _ (bI q1) id).trans q1
  have Zq:bN (λ _=>False) w w8:=fT k17 SU (λ _ _ q=>q) λ _ _ q=>q
  rw[MR hp.s]
  obtain⟨⟨i0,i1,i2⟩,i3,i4,i5⟩:=N3 J8
  obtain⟨⟨j0,j1,j2⟩,_⟩:=N3 e19
  cases hiA:cg gg (gv y x ps)
  .obtain⟨x9,o9⟩:=Nj (.int .i64 0) (.int .i64 0) (.slice none 0 0) J8
   obtain⟨SV,s20⟩:=P3 (.int .i64 0) (.int .i64 0) (.slice none 0 0) Zq J8 (by omega)
   go_wp2
   refine AF (cs:=zC) rfl rfl rfl x9 rfl rfl ?_
   rw[<-Wa]
   exact NN hS SV (mM dr hgo false hiA) (Vj (by decide))
  .obtain⟨x9,o9⟩:=Nj (.int .i64 (gv y x ps).ak) (.int .i64 (gv y x ps).aI) (.slice a8 m8 FO) J8
   obtain⟨SV,s20⟩:=P3 (.int .i64 (gv y x ps).ak) (.int .i64 (gv y x ps).aI) (.slice a8 m8 FO) Zq J8 (by omega)
   have ho9:=q2.aU (w':=((w8.setCell ⟨w.heap.size+1,0,none⟩ (.int .i64 (gv y x ps).ak)).setCell ⟨w.heap.size+1,1,none⟩ (.int .i64 (gv y x ps).aI)).setCell ⟨w.heap.size+1,2,none⟩ (.slice a8 m8 FO)) _ λ q hq=>(o9 q (by have:=q3 q hq;omega)).trans (SU.block q (Ow.lt _ q2 q hq) id)
   have a7g:=SU.size
   have a2v:=λ q hq=>Ow.lt _ q2 q hq
   go_wp2
   generalize ((w8.setCell ⟨w.heap.size+1,0,none⟩ (.int .i64 (gv y x ps).ak)).setCell ⟨w.heap.size+1,1,none⟩ (.int .i64 (gv y x ps).aI)).setCell ⟨w.heap.size+1,2,none⟩ (.slice a8 m8 FO)=w9 at *
   refine AF (cs:=[.int .i64 (gv y x ps).ak, .int .i64 (gv y x ps).aI, .slice a8 m8 FO]) rfl rfl rfl x9 rfl rfl ?_
   rw[<-Wa]
   have hd:=mM (gg:=gg) dr hgo true hiA
   refine⟨_,λ b=>S b\/(w.heap.size<=b/\b<w9.heap.size),_,rfl,rfl,SV,λ b hb=>⟨λ h=>h.elim id λ h=>absurd h.1 (by omega), .inl⟩,λ b h=>h.elim (λ h=>a8G (hS.1 b h) SV.size) λ h=>h.2,[_,_],rfl,⟨_,rfl,?_⟩,?_,trivial⟩
   .rw[hd.1]
    exact ho9.rd _ λ q hq => .inr ⟨by have:=q3 q hq;omega,by have:=a2v q hq;omega⟩
   .rw[hd.2]
    exact⟨rfl,Vj (by decide)⟩
 .cases hcd:bj y
  .rw[hcd] at hC
   go_wp2_with (go_at_call 108;refine hC.mono ?_)
   rintro _ w5 ⟨rfl,k6⟩
   have J8:=(k6.block _ (bI e6) id).trans e6
   have Zq:bN (λ _=>False) w w5:=fT k5 k6 (λ _ _ q=>q) λ _ _ q=>q
   obtain⟨⟨i0,i1,i2⟩,i3,i4,i5⟩:=N3 J8
   obtain⟨x9,o9⟩:=Nj (.int .i64 0) (.int .i64 0) (.slice none 0 0) J8
   obtain⟨SV,s20⟩:=P3 (.int .i64 0) (.int .i64 0) (.slice none 0 0) Zq J8 (by omega)
   go_wp2
   refine AF (cs:=zC) rfl rfl rfl x9 rfl rfl ?_
   rw[<-Wa]
   exact NN hS SV (O8 dr (by unfold xe;rw[dr,Y6];rfl) hcd) (Vj (by decide))
  .rw[hcd] at hC
   have hgo:xe x ps=false\/bj y=true := .inr hcd
   go_wp2_with (go_at_call 108;refine hC.mono ?_)
   rintro _ w5 ⟨rfl,k6⟩
   have YK:Below w.heap.size w w5:=uY (fT (Z:=λ _=>False) k5 k6 (λ _ _ q=>q) λ _ _ q=>q) (a9i _)
   go_wp2_with fail
   refine (K2 hS YK y hp.y by_ oy cy (a8G hby YK.size) (FQ YK hcy hby) r4).mono ?_
   rintro _ w6 ⟨k'',n'',a'',m'',c'',fp2,rfl,k7,ho6,hn6,hf6⟩
   have hs6:=k6.size
   have hs7:=k7.size
   have Gm:bN (λ _=>False) w4 w6:=fT k6 k7 (λ _ _ q=>q) λ _ _ q=>q
   have Uk:=bI hL.nd.h
   have hL6:w6.heap[bn]?=some (.cells L.toArray t (0,0)):=(Gm.block bn Uk id).trans hL.nd.h
   obtain⟨w7,cw,e15,SS,a7f⟩:=st3 (o:=on) (cs:=[.int .i64 k'', .int .i64 n'', .slice a'' m'' c'']) hL6 rfl (by simp[Value.oneCell']) hL.nd.l
   have hlb:=hL.lb
   have k8:bN (λ _=>False) w w6:=fT k5 Gm (λ _ _ q=>q) λ _ _ q=>q
   have k17:bN (λ _=>False) w w7:=fT k8 SS (λ _ _ q=>q) λ i h q=>by omega
   have hP:Pl w7 W.heap.size B (gv y x ps):=by
    refine hL.put w7 y _ fp2 (λ k h1 h2 h3=>(SS.block k (a8G h1 Gm.size) h2).trans (Gm.block k h1 id)) e15 rfl (ho6.aU _ λ q hq=>?_) λ q hq=>?_
    .have:=hf6 q hq
     exact SS.block q this.2 (by omega)
    .have:=hf6 q hq
     have:=b5.size
     omega
   obtain⟨c8,t8,f8,q1,q2,q3⟩:=hP
   obtain⟨a8,m8,FO,rfl⟩:=ow3 q2
   have e16:=(SS.block _ (a8G (bI e5) Gm.size) (by omega)).trans ((Gm.block _ (bI e5) id).trans e5)
   have e17:=(SS.block _ (a8G (bI e6) Gm.size) (by omega)).trans ((Gm.block _ (bI e6) id).trans e6)
   have u0:w7.cell? ⟨w.heap.size,0,none⟩=some g0:=by simp[World.cell?,e16]
   have u1:w7.cell? ⟨w.heap.size,1,none⟩=some g1:=by simp[World.cell?,e16]
   have Zf:=OB hS (uY k17 (a9i _)) gg g0 g1 r1 (gv y x ps) B 0 _ (bI q1) (Ht q1) (Ow.rd _ q2 λ q hq=>Ow.lt _ q2 q hq)
   go_wp2_with (first|(refine AJ rfl rfl rfl rfl cw ?_)|(go_at_call 39;refine Zf.mono ?_))
   rintro _ w8 ⟨rfl,SU⟩
   have J8:=(SU.block _ (bI e17) id).trans e17
   have e19:=(SU.block _ (bI q1) id).trans q1
   have Zq:bN (λ _=>False) w w8:=fT k17 SU (λ _ _ q=>q) λ _ _ q=>q
   rw[MR hp.s]
   obtain⟨⟨i0,i1,i2⟩,i3,i4,i5⟩:=N3 J8
   obtain⟨⟨j0,j1,j2⟩,_⟩:=N3 e19
   cases hiA:cg gg (gv y x ps)
   .obtain⟨x9,o9⟩:=Nj (.int .i64 0) (.int .i64 0) (.slice none 0 0) J8
    obtain⟨SV,s20⟩:=P3 (.int .i64 0) (.int .i64 0) (.slice none 0 0) Zq J8 (by omega)
    go_wp2
    refine AF (cs:=zC) rfl rfl rfl x9 rfl rfl ?_
    rw[<-Wa]
    exact NN hS SV (mM dr hgo false hiA) (Vj (by decide))
   .obtain⟨x9,o9⟩:=Nj (.int .i64 (gv y x ps).ak) (.int .i64 (gv y x ps).aI) (.slice a8 m8 FO) J8
    obtain⟨SV,s20⟩:=P3 (.int .i64 (gv y x ps).ak) (.int .i64 (gv y x ps).aI) (.slice a8 m8 FO) Zq J8 (by omega)
    have ho9:=q2.aU (w':=((w8.setCell ⟨w.heap.size+1,0,none⟩ (.int .i64 (gv y x ps).ak)).setCell ⟨w.heap.size+1,1,none⟩ (.int .i64 (gv y x ps).aI)).setCell ⟨w.heap.size+1,2,none⟩ (.slice a8 m8 FO)) _ λ q hq=>(o9 q (by have:=q3 q hq;omega)).trans (SU.block q (Ow.lt _ q2 q hq) id)
    have a7g:=SU.size
    have a2v:=λ q hq=>Ow.lt _ q2 q hq
    go_wp2
    generalize ((w8.setCell ⟨w.heap.size+1,0,none⟩ (.int .i64 (gv y x ps).ak)).setCell ⟨w.heap.size+1,1,none⟩ (.int .i64 (gv y x ps).aI)).setCell ⟨w.heap.size+1,2,none⟩ (.slice a8 m8 FO)=w9 at *
    refine AF (cs:=[.int .i64 (gv y x ps).ak, .int .i64 (gv y x ps).aI, .slice a8 m8 FO]) rfl rfl rfl x9 rfl rfl ?_
    rw[<-Wa]
    have hd:=mM (gg:=gg) dr hgo true hiA
    refine⟨_,λ b=>S b\/(w.heap.size<=b/\b<w9.heap.size),_,rfl,rfl,SV,λ b hb=>⟨λ h=>h.elim id λ h=>absurd h.1 (by omega), .inl⟩,λ b h=>h.elim (λ h=>a8G (hS.1 b h) SV.size) λ h=>h.2,[_,_],rfl,⟨_,rfl,?_⟩,?_,trivial⟩
    .rw[hd.1]
     exact ho9.rd _ λ q hq => .inr ⟨by have:=q3 q hq;omega,by have:=a2v q hq;omega⟩
    .rw[hd.2]
     exact⟨rfl,Vj (by decide)⟩
def nm:aJ:=⟨nv,[.v (.st .sig), .r (.st .expr), .v (.slice (.int .i64)), .r (.st .expr)],λ (gg:aO) (x:J) (ps:List Int) (y:J)=>⟨(some (RqP gg x y),[⟨(.st .expr),wv gg x ps y⟩,⟨(.int .i64),qn gg x ps y⟩])⟩⟩
theorem E7:aJ.Good nm :=
 ⟨aA HP rfl (by decide),λ gg x ps y h=>a1k gg x ps y h⟩
end
end Go.Proofs.YtmjfpcajohhbeaaGreatDoor

set_option maxRecDepth 4000
set_option maxHeartbeats 4000000
namespace Go.Proofs.YtmjfpcajohhbeaaGreatDoor
noncomputable section
theorem Kv:aJ.Good jv:=IB.plain
theorem WY{p:av}{k u:Int}(h:0<=u)(h2:u<=23):bZ p k u=K5 gP (nh.getD u.toNat [])/\qo k u=true:=by
 have e:=T4 (p:=p) (k:=k) h
 refine⟨?_,e.2⟩
 have a:=YG u.toNat (by omega)
 rw[e.1,a.2.2]
 unfold BQ
 rw[a8H,a9W,a8H,a8P (show u.toNat<nh.length by rw[qp];omega)]
 rfl
theorem a5g{u:Int}(h:0<=u)(h2:u<=23):(nh.getD u.toNat []).length<=8000:=by
 have a:=(YG u.toNat (by omega)).2.1
 omega
theorem a5t:bK gP=true:=by decide
def nU:aJ:=⟨wo,[.r (.st .proof), .v (.int .i64), .v (.int .i64)],λ (p:av) (k:Int) (u:Int)=>⟨(some (u<=23 /\ -40<=u/\0<=k/\k<=(p.U.length:Int)),[⟨(.st .equation),bZ p k u⟩,⟨.bool,qo k u⟩])⟩⟩
def EG(p:av)(k:Int)(u:Int):Nat->aH:=λ _ => .none
abbrev Ag(p:av)(k:Int)(u:Int):Prop:=(aw ((-1:Int) - u) p.U.length/\(aw ((-1:Int) - u) p.U.length/\(p.U.length<=140737488355328 ->
 (p.U.length<=140737488355328 ->
 ((aj.mk (ag (p.U.getD (Int.toNat ((-1:Int) - u)) (ae.mk zE zE (0:Int) (0:Int) [])).left) (ag (p.U.getD (Int.toNat ((-1:Int) - u)) (ae.mk zE zE (0:Int) (0:Int) [])).right))=(bZ p k u)/\true=(qo k u))))))
theorem Pz(p:av)(k:Int)(u:Int):ck (aL [jv,nV,dt]) (au kx) (EG p k u) 0 (bg (aL [jv,nV,dt]) kx λ r=>bp r [⟨(.st .equation),bZ p k u⟩,⟨.bool,qo k u⟩]) (aD kx [.ref ⟨(.st .proof),p⟩, .val ⟨(.int .i64),k⟩, .val ⟨(.int .i64),u⟩]) =
 ((((decide ((0:Int)<=u))=true ->
 ((nh).length<=140737488355328 ->
 (aw u (nh).length/\(((nh).getD (Int.toNat u) []).length<=140737488355328 ->
 ((bK (gP)=true/\((nh).getD (Int.toNat u) []).length<=8000)/\((bU (K5 (gP) ((nh).getD (Int.toNat u) [])))=(bZ p k u)/\true=(qo k u)))))))/\((decide ((0:Int)<=u))=false ->
 (O ((-1:Int) - u)/\(((decide (k<=((-1:Int) - u)))=false ->
 (p.U.length<=140737488355328 ->
 (O ((p.U.length:Int)) ->
 (((decide (((p.U.length:Int))<=((-1:Int) - u)))=true ->
 ((aj.mk zE zE)=(bZ p k u)/\false=(qo k u)))/\((decide (((p.U.length:Int))<=((-1:Int) - u)))=false ->
 (Ag p k u))))))/\((decide (k<=((-1:Int) - u)))=(!false) ->
 ((true=true ->
 ((aj.mk zE zE)=(bZ p k u)/\false=(qo k u)))/\(true=false ->
 (Ag p k u))))))))):=by kernel_rfl
theorem OZ(hE:aG [jv,nV,dt]):aJ.Good nU:=by
 refine⟨aA BO rfl (by decide),?_⟩
 show ∀ (p:av) (k:Int) (u:Int),(u<=23 /\ -40<=u/\0<=k/\k<=(p.U.length:Int))->bh prog wo [.ref ⟨(.st .proof),p⟩, .val ⟨(.int .i64),k⟩, .val ⟨(.int .i64),u⟩] (·=[⟨(.st .equation),bZ p k u⟩,⟨.bool,qo k u⟩])
 intro p k u hp
 refine aM (wr:=[]) (cl:=[]) (ro:=[]) hE BO J2 (EG p k u) ?_
 rewrite [Pz p k u]
 refine⟨λ _ _=>⟨?_,λ _=>⟨?_,?_,?_⟩⟩,λ _=>⟨?_,λ _ _ _=>⟨λ _=>⟨?_,?_⟩,λ _=>⟨?_,?_,λ _ _=>⟨?_,?_⟩⟩⟩,λ _=>⟨λ _=>⟨?_,?_⟩,λ _=>⟨?_,?_,λ _ _=>⟨?_,?_⟩⟩⟩⟩⟩
 all_goals try and_intros
 all_goals try (first|with_reducible rfl|with_reducible assumption)
 all_goals try simp only[J.eta,ae.eta,aj.eta,aP,bM,cn] at *
 all_goals first|with_reducible rfl|with_reducible assumption|exact True.intro|(simp only[a8B,a8w,a8x,a8v] at *;done)|((try simp only[a8T,J.eta,a8p,a8q,a8x,a8v,a8J,a8X,aw,O,br,a8K,a8C,a8N,a8R,a8U] at *);first|exact True.intro|omega|exact a5t|exact a5g (by omega) (by omega)|(have e:=qp;omega)|exact (WY (p:=p) (k:=k) (u:=u) (by omega) (by omega)).1|exact ((WY (p:=p) (k:=k) (u:=u) (by omega) (by omega)).1).symm|exact (WY (p:=p) (k:=k) (u:=u) (by omega) (by omega)).2|exact ((WY (p:=p) (k:=k) (u:=u) (by omega) (by omega)).2).symm|exact (Hj (p:=p) (k:=k) (u:=u) (by omega) (by omega)).1|exact ((Hj (p:=p) (k:=k) (u:=u) (by omega) (by omega)).1).symm|exact (Hj (p:=p) (k:=k) (u:=u) (by omega) (by omega)).2|exact ((Hj (p:=p) (k:=k) (u:=u) (by omega) (by omega)).2).symm|exact (Hk (p:=p) (k:=k) (u:=u) (by omega) (by omega)).1|exact ((Hk (p:=p) (k:=k) (u:=u) (by omega) (by omega)).1).symm|exact (Hk (p:=p) (k:=k) (u:=u) (by omega) (by omega)).2|exact ((Hk (p:=p) (k:=k) (u:=u) (by omega) (by omega)).2).symm)
theorem Ky:aJ.Good nU:=OZ ⟨Kv,Kz,qs,trivial⟩
end
end Go.Proofs.YtmjfpcajohhbeaaGreatDoor

set_option maxRecDepth 4000
set_option maxHeartbeats 4000000
namespace Go.Proofs.YtmjfpcajohhbeaaGreatDoor
noncomputable section
theorem a1x{p:av}{k u:Int}(h:yW p)(hk:k<=(p.U.length:Int))(hu:u<=23)(ho:qo k u=true):aF (bZ p k u).left<=500/\aF (bZ p k u).right<=500:=by
 unfold bZ
 by_cases h0:0<=u
 .rw[a8O h0]
  have hm:BQ.getD u.toNat (aj.mk zE zE)∈BQ:=by
   rw[a8H,a8P (by rw[RY];omega)]
   exact a9M _
  have nB:BQ.all (λ q=>decide (aF q.left<=500)&&decide (aF q.right<=500))=true:=by kernel_rfl
  have:=a9a.1 nB _ hm
  rw[a8r,a8p,a8p] at this
  exact this
 .rw[a8y h0]
  simp only[qo,b0c,a8p] at ho
  rw[a8O (by omega)]
  have e:=h.e (i := -1 - u) (by omega) (by omega)
  have h1:=(xT p.sig _).1 e.1
  have h2:=(xT p.sig _).1 e.2.1
  exact⟨by have:=h1.2.1;show aF (dv p (-1 - u)).left<=500;omega,by have:=h2.2.1;show aF (dv p (-1 - u)).right<=500;omega⟩
theorem yV.su{p:av}{k:Int}{e:J}{s:ai}(h:yV p k e s)(hp:NS p k e s):suP p.sig (bZ p k s.use).left s.aq s.bm/\suP p.sig (bZ p k s.use).right s.aq s.bm:=by
 have ht:=Hl hp.v hp.k1 hp.u.1.2 h.u
 have hn:=a1x hp.v hp.k1 hp.u.1.2 h.u
 have hf:=CU.of hp.u.2.2.2.2.1 hp.u.2.2.2.2.2
 have hq:=F3 h.t h.a
 exact⟨⟨hp.v.sg,hq.1,ht.1,hf,hn.1⟩,⟨hp.v.sg,hq.2,ht.2,hf,hn.2⟩⟩
theorem yV.n3{p:av}{k:Int}{e:J}{s:ai}(h:yV p k e s)(h2:cg p.sig (c9 s.aq s.bm (bZ p k s.use).left)=false\/cg p.sig (c9 s.aq s.bm (bZ p k s.use).right)=false):iu p k e s=J.mk (0:Int) (0:Int) []/\fY p k e s=3:=by
 refine W5 ?_ (by decide)
 rw[h.c]
 unfold RL
 rcases h2 with h2|h2<;>rw[h2]<;>simp
theorem yV.t1{p:av}{k:Int}{e:J}{s:ai}(h:yV p k e s)(h1:cg p.sig (c9 s.aq s.bm (bZ p k s.use).left)=true)(h2:cg p.sig (c9 s.aq s.bm (bZ p k s.use).right)=true)(hb:s.back=true):Br p k e s (CN (bZ p k s.use).right s.aq s.bm) (CN (bZ p k s.use).left s.aq s.bm) :=
 ⟨h,by unfold RL;rw[h1,h2];rfl,by rw[Rw h2];unfold W4;rw[hb];rfl,by rw[Rw h1];unfold RM;rw[hb];rfl⟩
theorem yV.t0{p:av}{k:Int}{e:J}{s:ai}(h:yV p k e s)(h1:cg p.sig (c9 s.aq s.bm (bZ p k s.use).left)=true)(h2:cg p.sig (c9 s.aq s.bm (bZ p k s.use).right)=true)(hb:s.back=false):Br p k e s (CN (bZ p k s.use).left s.aq s.bm) (CN (bZ p k s.use).right s.aq s.bm) :=
 ⟨h,by unfold RL;rw[h1,h2];rfl,by rw[Rw h1];unfold W4;rw[hb];rfl,by rw[Rw h2];unfold RM;rw[hb];rfl⟩
theorem Br.nd{p:av}{k:Int}{e:J}{s:ai}{x y:J}(h:Br p k e s x y):zf e s.path=GJ e s.path:=by
 unfold zf;rw[h.r.n,(Td _ _ h.r.n).1];rfl
theorem Br.d6{p:av}{k:Int}{e:J}{s:ai}{x y:J}(h:Br p k e s x y)(h2:bw (GJ e s.path) x=false):iu p k e s=J.mk (0:Int) (0:Int) []/\fY p k e s=6:=h.c6 (by rw[h.nd];exact h2)
theorem Br.Xl{p:av}{k:Int}{e:J}{s:ai}{x y:J}(h:Br p k e s x y)(h2:bw (GJ e s.path) x=true):iu p k e s=wv p.sig e s.path y/\fY p k e s=qn p.sig e s.path y:=h.go (by rw[h.nd];exact h2)
theorem Br.rq{p:av}{k:Int}{e:J}{s:ai}{x y:J}(h:Br p k e s x y)(hp:NS p k e s):RqP p.sig e y:=⟨hp.v.sg,Dx _ _ hp.e,h.sz⟩
def mi:aJ:=⟨uj,[.r (.st .proof), .v (.int .i64), .r (.st .expr), .r (.st .proofStep)],λ (p:av) (k:Int) (e:J) (s:ai)=>⟨(some (NS p k e s),[⟨(.st .expr),iu p k e s⟩,⟨(.int .i64),fY p k e s⟩])⟩⟩
def CA(p:av)(k:Int)(e:J)(s:ai):Nat->aH:=λ _ => .none
abbrev xX(p:av)(k:Int)(e:J)(s:ai):Prop:=((s.back=true ->
 (((!(bw (GJ e s.path) (ag (CN (ag (bZ p k s.use).right) s.aq s.bm))))=true ->
 (zE=(iu p k e s)/\(6:Int)=(fY p k e s)))/\((!(bw (GJ e s.path) (ag (CN (ag (bZ p k s.use).right) s.aq s.bm))))=false ->
 (RqP p.sig e (ag (CN (ag (bZ p k s.use).left) s.aq s.bm))/\(s.path.length<=140737488355328 ->
 (O (qn p.sig e s.path (ag (CN (ag (bZ p k s.use).left) s.aq s.bm))) ->
 ((ag (wv p.sig e s.path (ag (CN (ag (bZ p k s.use).left) s.aq s.bm))))=(iu p k e s)/\(qn p.sig e s.path (ag (CN (ag (bZ p k s.use).left) s.aq s.bm)))=(fY p k e s))))))))/\(s.back=false ->
 (((!(bw (GJ e s.path) (ag (CN (ag (bZ p k s.use).left) s.aq s.bm))))=true ->
 (zE=(iu p k e s)/\(6:Int)=(fY p k e s)))/\((!(bw (GJ e s.path) (ag (CN (ag (bZ p k s.use).left) s.aq s.bm))))=false ->
 (RqP p.sig e (ag (CN (ag (bZ p k s.use).right) s.aq s.bm))/\(s.path.length<=140737488355328 ->
 (O (qn p.sig e s.path (ag (CN (ag (bZ p k s.use).right) s.aq s.bm))) ->
 ((ag (wv p.sig e s.path (ag (CN (ag (bZ p k s.use).right) s.aq s.bm))))=(iu p k e s)/\(qn p.sig e s.path (ag (CN (ag (bZ p k s.use).right) s.aq s.bm)))=(fY p k e s)))))))))
abbrev xY(p:av)(k:Int)(e:J)(s:ai):Prop:=(s.aq.length<=140737488355328 ->
 (s.bm.length<=140737488355328 ->
 (p=p/\(p=p/\(p.sig=p.sig/\(p.sig=p.sig/\(((10:Nat)=10/\(0:Nat)=0)/\(s=s/\(s=s/\(s.aq=s.aq/\(s.aq=s.aq/\(s=s/\(s=s/\(s.bm=s.bm/\(s.bm=s.bm/\(suP p.sig (ag (bZ p k s.use).left) s.aq s.bm/\(s.aq.length<=140737488355328 ->
 (s.bm.length<=140737488355328 ->
 (p=p/\(p=p/\(p.sig=p.sig/\(p.sig=p.sig/\(((10:Nat)=10/\(3:Nat)=3)/\(s=s/\(s=s/\(s.aq=s.aq/\(s.aq=s.aq/\(s=s/\(s=s/\(s.bm=s.bm/\(s.bm=s.bm/\(suP p.sig (ag (bZ p k s.use).right) s.aq s.bm/\(((!(cg p.sig (c9 s.aq s.bm (ag (bZ p k s.use).left))))=false ->
 (((!(cg p.sig (c9 s.aq s.bm (ag (bZ p k s.use).right))))=true ->
 (zE=(iu p k e s)/\(3:Int)=(fY p k e s)))/\((!(cg p.sig (c9 s.aq s.bm (ag (bZ p k s.use).right))))=false ->
 (xX p k e s))))/\((!(cg p.sig (c9 s.aq s.bm (ag (bZ p k s.use).left))))=(!false) ->
 ((true=true ->
 (zE=(iu p k e s)/\(3:Int)=(fY p k e s)))/\(true=false ->
 (xX p k e s)))))))))))))))))))))))))))))))))))))
abbrev xZ(p:av)(k:Int)(e:J)(s:ai):Prop:=(((!(eH e s.path))=true ->
 (zE=(iu p k e s)/\(2:Int)=(fY p k e s)))/\((!(eH e s.path))=false ->
 (xY p k e s)))
abbrev x6(p:av)(k:Int)(e:J)(s:ai):Prop:=((true=true ->
 (zE=(iu p k e s)/\(2:Int)=(fY p k e s)))/\(true=false ->
 (xY p k e s)))
theorem NI(p:av)(k:Int)(e:J)(s:ai):ck (aL [nU,nR,sY,ei,nm]) (au jo) (CA p k e s) 0 (bg (aL [nU,nR,sY,ei,nm]) jo λ r=>bp r [⟨(.st .expr),iu p k e s⟩,⟨(.int .i64),fY p k e s⟩]) (aD jo [.ref ⟨(.st .proof),p⟩, .val ⟨(.int .i64),k⟩, .ref ⟨(.st .expr),e⟩, .ref ⟨(.st .proofStep),s⟩]) =
 ((O s.use ->
 ((s.use<=23 /\ -40<=s.use/\0<=k/\k<=(p.U.length:Int))/\(((!(qo k s.use))=true ->
 (zE=(iu p k e s)/\(2:Int)=(fY p k e s)))/\((!(qo k s.use))=false ->
 ((aZ 62 62 (bU (bZ p k s.use)).left=true/\aZ 62 62 (bU (bZ p k s.use)).right=true)/\(O ((bL [(bU (bZ p k s.use)).left,(bU (bZ p k s.use)).right]).1) ->
 (O ((bL [(bU (bZ p k s.use)).left,(bU (bZ p k s.use)).right]).2) ->
 (s.path.length<=140737488355328 ->
 (s.aq.length<=140737488355328 ->
 (O ((s.aq.length:Int)) ->
 (((!(decide (((s.aq.length:Int))=((bL [(bU (bZ p k s.use)).left,(bU (bZ p k s.use)).right]).1))))=false ->
 (s.bm.length<=140737488355328 ->
 (O ((s.bm.length:Int)) ->
 (((!(decide (((s.bm.length:Int))=((bL [(bU (bZ p k s.use)).left,(bU (bZ p k s.use)).right]).2))))=false ->
 (xZ p k e s))/\((!(decide (((s.bm.length:Int))=((bL [(bU (bZ p k s.use)).left,(bU (bZ p k s.use)).right]).2))))=(!false) ->
 (x6 p k e s))))))/\((!(decide (((s.aq.length:Int))=((bL [(bU (bZ p k s.use)).left,(bU (bZ p k s.use)).right]).1))))=(!false) ->
 ((true=false ->
 (xZ p k e s))/\(true=(!false) ->
 (x6 p k e s)))))))))))))))):=by kernel_rfl
theorem M0(hE:aG [nU,nR,sY,ei,nm]):aJ.Good mi:=by
 refine⟨aA zH rfl (by decide),?_⟩
 show ∀ (p:av) (k:Int) (e:J) (s:ai),(NS p k e s)->bh prog uj [.ref ⟨(.st .proof),p⟩, .val ⟨(.int .i64),k⟩, .ref ⟨(.st .expr),e⟩, .ref ⟨(.st .proofStep),s⟩] (·=[⟨(.st .expr),iu p k e s⟩,⟨(.int .i64),fY p k e s⟩])
 intro p k e s hp
 refine aM (wr:=[]) (cl:=[]) (ro:=[]) hE zH H6 (CA p k e s) ?_
 rewrite [NI p k e s]
 refine λ _=>⟨?_,λ _=>⟨?_,?_⟩,λ _=>⟨?_,λ _ _ _ _ _=>⟨λ _ _ _=>⟨λ _=>⟨λ _=>⟨?_,?_⟩,λ _ _ _=>⟨rfl,rfl,rfl,rfl,⟨?_,?_⟩,rfl,rfl,rfl,rfl,rfl,rfl,rfl,rfl,?_,λ _ _=>⟨rfl,rfl,rfl,rfl,⟨?_,?_⟩,rfl,rfl,rfl,rfl,rfl,rfl,rfl,rfl,?_,λ _=>⟨λ _=>⟨?_,?_⟩,λ _=>⟨λ _=>⟨λ _=>⟨?_,?_⟩,λ _=>⟨?_,λ _ _=>⟨?_,?_⟩⟩⟩,λ _=>⟨λ _=>⟨?_,?_⟩,λ _=>⟨?_,λ _ _=>⟨?_,?_⟩⟩⟩⟩⟩,λ _=>⟨λ _=>⟨?_,?_⟩,λ _=>⟨λ _=>⟨λ _=>⟨?_,?_⟩,λ _=>⟨?_,λ _ _=>⟨?_,?_⟩⟩⟩,λ _=>⟨λ _=>⟨?_,?_⟩,λ _=>⟨?_,λ _ _=>⟨?_,?_⟩⟩⟩⟩⟩⟩⟩⟩,λ _=>⟨λ _=>⟨?_,?_⟩,λ _ _ _=>⟨rfl,rfl,rfl,rfl,⟨?_,?_⟩,rfl,rfl,rfl,rfl,rfl,rfl,rfl,rfl,?_,λ _ _=>⟨rfl,rfl,rfl,rfl,⟨?_,?_⟩,rfl,rfl,rfl,rfl,rfl,rfl,rfl,rfl,?_,λ _=>⟨λ _=>⟨?_,?_⟩,λ _=>⟨λ _=>⟨λ _=>⟨?_,?_⟩,λ _=>⟨?_,λ _ _=>⟨?_,?_⟩⟩⟩,λ _=>⟨λ _=>⟨?_,?_⟩,λ _=>⟨?_,λ _ _=>⟨?_,?_⟩⟩⟩⟩⟩,λ _=>⟨λ _=>⟨?_,?_⟩,λ _=>⟨λ _=>⟨λ _=>⟨?_,?_⟩,λ _=>⟨?_,λ _ _=>⟨?_,?_⟩⟩⟩,λ _=>⟨λ _=>⟨?_,?_⟩,λ _=>⟨?_,λ _ _=>⟨?_,?_⟩⟩⟩⟩⟩⟩⟩⟩⟩,λ _=>⟨λ _=>⟨λ _=>⟨?_,?_⟩,λ _ _ _=>⟨rfl,rfl,rfl,rfl,⟨?_,?_⟩,rfl,rfl,rfl,rfl,rfl,rfl,rfl,rfl,?_,λ _ _=>⟨rfl,rfl,rfl,rfl,⟨?_,?_⟩,rfl,rfl,rfl,rfl,rfl,rfl,rfl,rfl,?_,λ _=>⟨λ _=>⟨?_,?_⟩,λ _=>⟨λ _=>⟨λ _=>⟨?_,?_⟩,λ _=>⟨?_,λ _ _=>⟨?_,?_⟩⟩⟩,λ _=>⟨λ _=>⟨?_,?_⟩,λ _=>⟨?_,λ _ _=>⟨?_,?_⟩⟩⟩⟩⟩,λ _=>⟨λ _=>⟨?_,?_⟩,λ _=>⟨λ _=>⟨λ _=>⟨?_,?_⟩,λ _=>⟨?_,λ _ _=>⟨?_,?_⟩⟩⟩,λ _=>⟨λ _=>⟨?_,?_⟩,λ _=>⟨?_,λ _ _=>⟨?_,?_⟩⟩⟩⟩⟩⟩⟩⟩,λ _=>⟨λ _=>⟨?_,?_⟩,λ _ _ _=>⟨rfl,rfl,rfl,rfl,⟨?_,?_⟩,rfl,rfl,rfl,rfl,rfl,rfl,rfl,rfl,?_,λ _ _=>⟨rfl,rfl,rfl,rfl,⟨?_,?_⟩,rfl,rfl,rfl,rfl,rfl,rfl,rfl,rfl,?_,λ _=>⟨λ _=>⟨?_,?_⟩,λ _=>⟨λ _=>⟨λ _=>⟨?_,?_⟩,λ _=>⟨?_,λ _ _=>⟨?_,?_⟩⟩⟩,λ _=>⟨λ _=>⟨?_,?_⟩,λ _=>⟨?_,λ _ _=>⟨?_,?_⟩⟩⟩⟩⟩,λ _=>⟨λ _=>⟨?_,?_⟩,λ _=>⟨λ _=>⟨λ _=>⟨?_,?_⟩,λ _=>⟨?_,λ _ _=>⟨?_,?_⟩⟩⟩,λ _=>⟨λ _=>⟨?_,?_⟩,λ _=>⟨?_,λ _ _=>⟨?_,?_⟩⟩⟩⟩⟩⟩⟩⟩⟩⟩⟩⟩
 all_goals try and_intros
 all_goals try (first|with_reducible rfl|with_reducible assumption)
 all_goals try simp only[J.eta,ae.eta,aj.eta,aP,bM,cn] at *
 all_goals first|with_reducible rfl|with_reducible assumption|exact True.intro|(simp only[a8B,a8w,a8x,a8v] at *;done)|((try simp only[a8T,J.eta,a8p,a8q,a8x,a8v,a8J,a8X,aw,O,br,a8K,a8C,a8N,a8R,a8U] at *);first|exact True.intro|omega|exact hp.u.1.1|exact hp.u.1.2|exact hp.k0|exact hp.k1|(have:=hp.u;omega)|exact (Hl hp.v hp.k1 hp.u.1.2 (by with_reducible assumption)).1|exact (Hl hp.v hp.k1 hp.u.1.2 (by with_reducible assumption)).2|exact (wy (p:=p) (e:=e) (.inl (by with_reducible assumption))).1|exact (wy (p:=p) (e:=e) (.inl (by with_reducible assumption))).2|exact (wy (p:=p) (e:=e) (.inl (by with_reducible assumption))).1.symm|exact (wy (p:=p) (e:=e) (.inl (by with_reducible assumption))).2.symm|exact (wy (p:=p) (k:=k) (.inr (by with_reducible assumption))).1|exact (wy (p:=p) (k:=k) (.inr (by with_reducible assumption))).2|exact (wy (p:=p) (k:=k) (.inr (by with_reducible assumption))).1.symm|exact (wy (p:=p) (k:=k) (.inr (by with_reducible assumption))).2.symm|exact (wz (e:=e) (FC (by omega))).1|exact (wz (e:=e) (FC (by omega))).2|exact (wz (e:=e) (FC (by omega))).1.symm|exact (wz (e:=e) (FC (by omega))).2.symm|exact (wz (e:=e) (FD (by omega))).1|exact (wz (e:=e) (FD (by omega))).2|exact (wz (e:=e) (FD (by omega))).1.symm|exact (wz (e:=e) (FD (by omega))).2.symm|(have A:yV p k e s:=⟨(by with_reducible assumption),(by with_reducible assumption),by omega,by omega⟩;first|exact (A.su hp).1|exact (A.su hp).2|exact (A.n3 (.inl (by with_reducible assumption))).1|exact (A.n3 (.inl (by with_reducible assumption))).2|exact (A.n3 (.inl (by with_reducible assumption))).1.symm|exact (A.n3 (.inl (by with_reducible assumption))).2.symm|exact (A.n3 (.inr (by with_reducible assumption))).1|exact (A.n3 (.inr (by with_reducible assumption))).2|exact (A.n3 (.inr (by with_reducible assumption))).1.symm|exact (A.n3 (.inr (by with_reducible assumption))).2.symm|(have B:=A.t1 (by with_reducible assumption) (by with_reducible assumption) (by with_reducible assumption);first|exact B.rq hp|exact (B.d6 (by with_reducible assumption)).1|exact (B.d6 (by with_reducible assumption)).2|exact (B.d6 (by with_reducible assumption)).1.symm|exact (B.d6 (by with_reducible assumption)).2.symm|exact (B.Xl (by with_reducible assumption)).1|exact (B.Xl (by with_reducible assumption)).2|exact (B.Xl (by with_reducible assumption)).1.symm|exact (B.Xl (by with_reducible assumption)).2.symm)|(have B:=A.t0 (by with_reducible assumption) (by with_reducible assumption) (by with_reducible assumption);first|exact B.rq hp|exact (B.d6 (by with_reducible assumption)).1|exact (B.d6 (by with_reducible assumption)).2|exact (B.d6 (by with_reducible assumption)).1.symm|exact (B.d6 (by with_reducible assumption)).2.symm|exact (B.Xl (by with_reducible assumption)).1|exact (B.Xl (by with_reducible assumption)).2|exact (B.Xl (by with_reducible assumption)).1.symm|exact (B.Xl (by with_reducible assumption)).2.symm)))
theorem Ip:aJ.Good mi:=M0 ⟨Ky,Ku,Ml,rm,E7,trivial⟩
end
end Go.Proofs.YtmjfpcajohhbeaaGreatDoor

set_option maxRecDepth 4000
set_option maxHeartbeats 4000000
namespace Go.Proofs.YtmjfpcajohhbeaaGreatDoor
noncomputable section
def stX(f:ae):J:=(f.left.M.getD 0 zE).M.getD 1 zE
def stQ(f:ae):J:=(f.left.M.getD 0 zE).M.getD 0 zE
def Uy(f:ae):J:=f.left.M.getD 1 zE
def Lb(f:ae):Bool:=decide (f.left.ak=6)&&(decide ((f.left.M.getD 0 zE).ak=6)&&decide (((f.left.M.getD 0 zE).M.getD 1 zE).ak=7))
def uC(c f:ae):Bool:=Lb f&&(if c.bO=3 then bw ((stX f).M.getD 0 zE) (Uy f)&&(bw f.right (Uy f)&&(bw c.right (Uy f)&&bw c.left (J.mk 6 0 [J.mk 7 0 [stQ f,J.mk 8 0 [(stX f).M.getD 1 zE]],Uy f])))
 else bw ((stX f).M.getD 1 zE) (Uy f)&&(bw f.right (Uy f)&&(bw c.right (Uy f)&&bw c.left (J.mk 6 0 [J.mk 7 0 [J.mk 8 0 [(stX f).M.getD 0 zE],stQ f],Uy f]))))
theorem TS{c f:ae}(h:Lb f=false):uC c f=false:=by unfold uC;rw[h];rfl
theorem a7x{c f:ae}(h:Lb f=true)(h3:c.bO=3):uC c f=(bw (((f.left.M.getD 0 zE).M.getD 1 zE).M.getD 0 zE) (f.left.M.getD 1 zE)&&(bw f.right (f.left.M.getD 1 zE)&&(bw c.right (f.left.M.getD 1 zE)&&bw c.left (J.mk 6 0 [J.mk 7 0 [(f.left.M.getD 0 zE).M.getD 0 zE,J.mk 8 0 [((f.left.M.getD 0 zE).M.getD 1 zE).M.getD 1 zE]],f.left.M.getD 1 zE])))):=by
 unfold uC;rw[h,if_pos h3];rfl
theorem a7w{c f:ae}(h:Lb f=true)(h3:¬ c.bO=3):uC c f=(bw (((f.left.M.getD 0 zE).M.getD 1 zE).M.getD 1 zE) (f.left.M.getD 1 zE)&&(bw f.right (f.left.M.getD 1 zE)&&(bw c.right (f.left.M.getD 1 zE)&&bw c.left (J.mk 6 0 [J.mk 7 0 [J.mk 8 0 [((f.left.M.getD 0 zE).M.getD 1 zE).M.getD 0 zE],(f.left.M.getD 0 zE).M.getD 0 zE],f.left.M.getD 1 zE])))):=by
 unfold uC;rw[h,if_neg h3];rfl
theorem a3h{f:ae}(h:¬ f.left.ak=6):Lb f=false:=by unfold Lb;rw[decide_eq_false h];rfl
theorem a3i{f:ae}(h:¬ (f.left.M.getD 0 zE).ak=6):Lb f=false:=by unfold Lb;rw[decide_eq_false h];simp
theorem a3j{f:ae}(h:¬ ((f.left.M.getD 0 zE).M.getD 1 zE).ak=7):Lb f=false:=by unfold Lb;rw[decide_eq_false h];simp
theorem a3k{f:ae}(h1:f.left.ak=6)(h2:(f.left.M.getD 0 zE).ak=6)(h3:((f.left.M.getD 0 zE).M.getD 1 zE).ak=7):Lb f=true:=by unfold Lb;rw[decide_eq_true h1,decide_eq_true h2,decide_eq_true h3];rfl
structure InR(c f:ae):Prop where
 q:Yu c f
 r:c.bO=2\/c.bO=3
 s1:ar f.left<=1048576
theorem a5X{c f:ae}(h:c.bO=2\/c.bO=3):uC c f=tO c f:=by
 by_cases hm:qF (aj.mk f.left f.right)=true
 .have e:=uP hm
  unfold qF at hm
  simp only[a8r,a8p] at hm
  obtain⟨⟨m1,m2⟩,m3⟩:=hm
  have hr:f.left.M.getD 1 zE=f.right:=F0.1 m3
  unfold tO uC Lb stX stQ Uy
  rw[e.1,e.2.1,show qF (aj.mk f.left f.right)=true by unfold qF;simp only[Bool.and_eq_true,decide_eq_true_eq];exact⟨⟨m1,m2⟩,m3⟩,decide_eq_true m1,decide_eq_true m2,hr]
  have hrr:bw f.right f.right=true:=F0.2 rfl
  unfold a0i inW
  rcases h with h|h
  .rw[a8O h,a8O h,a8y (show ¬ c.bO=3 by omega),hrr]
   simp only[a9B]
   cases decide (((f.left.M.getD 0 zE).M.getD 1 zE).ak=7)<;>simp only[a9B,a9L]
   cases bw (((f.left.M.getD 0 zE).M.getD 1 zE).M.getD 1 zE) f.right<;>simp only[a9B,a9L]
   rw[Bool.and_comm]
  .rw[a8y (show ¬ c.bO=2 by omega),a8y (show ¬ c.bO=2 by omega),a8O h,hrr]
   simp only[a9B]
   cases decide (((f.left.M.getD 0 zE).M.getD 1 zE).ak=7)<;>simp only[a9B,a9L]
   cases bw (((f.left.M.getD 0 zE).M.getD 1 zE).M.getD 0 zE) f.right<;>simp only[a9B,a9L]
   rw[Bool.and_comm]
 .have hm':qF (aj.mk f.left f.right)=false:=b1w.2 hm
  have hi:tO c f=false:=by unfold tO;rw[hm'];rfl
  rw[hi]
  by_cases hh:Lb f=true
  .have hn:bw f.right (Uy f)=false:=by
    refine b1w.2 λ q=>hm ?_
    have q:=F0.1 q
    unfold Lb at hh
    simp only[a8r,a8p] at hh
    unfold qF
    simp only[a8r,a8p]
    exact⟨⟨hh.1,hh.2.1⟩,F0.2 q.symm⟩
   unfold uC
   rw[hh,hn]
   simp
  .rw[TS (b1w.2 hh)]
theorem a7y{f:ae}(h:aZ 62 62 f.left=true)(hk:f.left.ak=6):f.left.M.length=2/\((f.left.M.getD 0 zE).ak=6->(f.left.M.getD 0 zE).M.length=2/\(((f.left.M.getD 0 zE).M.getD 1 zE).ak=7->((f.left.M.getD 0 zE).M.getD 1 zE).M.length=2)):=by
 have a:=TQ (q:=fQ f) h hk
 refine⟨a.1,λ h2=>⟨(a.2.2 h2).1,λ h3=>HL (a.2.2 h2).2 (.inr h3)⟩⟩
theorem HJ{x:J}(h:ar x<=1048576)(i:Nat):ar (x.M.getD i zE)<=1048576:=by
 rcases a9t i x.M.length with g|g
 .have:=sq ar zE x.M i g
  rw[sr] at h
  omega
 .rw[a8H,b0J g];exact a9u rfl
def nQ:aJ:=⟨wh,[.v (.int .i64), .v (.st .expr), .v (.st .expr)],λ (k:Int) (a:J) (b:J)=>⟨(none,[⟨(.st .expr),J.mk k 0 [a,b]⟩])⟩⟩
def EC(k:Int)(a:J)(b:J):Nat->aH:=λ _ => .none
theorem Pv(k:Int)(a:J)(b:J):ck (aL [] [] [] [4,5]) (au kq) (EC k a b) 0 (bg (aL [] [] [] [4,5]) kq λ r=>bp r [⟨(.st .expr),J.mk k 0 [a,b]⟩]) (aD kq [.val ⟨(.int .i64),k⟩, .val ⟨(.st .expr),a⟩, .val ⟨(.st .expr),b⟩]) =
 ((J.mk k (0:Int) ([a,b]))=(J.mk k 0 [a,b])):=by kernel_rfl
theorem OV(hE:aG []):aJ.Good nQ:=by
 refine⟨aA BJ rfl (by decide),?_⟩
 show ∀ (k:Int) (a:J) (b:J),True->bh prog wh [.val ⟨(.int .i64),k⟩, .val ⟨(.st .expr),a⟩, .val ⟨(.st .expr),b⟩] (·=[⟨(.st .expr),J.mk k 0 [a,b]⟩])
 intro k a b _
 refine aM (wr:=[]) (cl:=[]) (ro:=[4,5]) hE BJ JX (EC k a b) ?_
 rewrite [Pv k a b]
 refine ?_
 all_goals try and_intros
 all_goals first|rfl|trivial|omega|(simp only[a8p,a8q,aw,O,cr,cW,cH,br] at *;omega)|(simp[aw,O] at *;omega)|grind
theorem Kt:aJ.Good nQ:=OV trivial
def nS:aJ:=⟨wk,[.r (.st .claim), .r (.st .claim)],λ (f:ae) (c:ae)=>⟨(some (InR c f),[⟨.bool,uC c f⟩])⟩⟩
def EE(f:ae)(c:ae):Nat->aH:=λ _ => .none
abbrev sO(f:ae)(c:ae):Prop:=(ar (((f.left.M.getD 0 zE).M.getD 1 zE).M.getD 1 zE)<=1048576/\(ar ((f.left.M.getD 0 zE).M.getD 0 zE)<=1048576/\(O c.bO ->
 (((decide (c.bO=(3:Int)))=true ->
 (ar ((f.left.M.getD 0 zE).M.getD 0 zE)<=1048576/\(ar (f.left.M.getD 1 zE)<=1048576/\(bw c.left (ag (J.mk (6:Int) 0 [(ag (J.mk (7:Int) 0 [((f.left.M.getD 0 zE).M.getD 0 zE),(J.mk (8:Int) (0:Int) ([(((f.left.M.getD 0 zE).M.getD 1 zE).M.getD 1 zE)]))])),(f.left.M.getD 1 zE)])))=(uC c f))))/\((decide (c.bO=(3:Int)))=false ->
 (ar (f.left.M.getD 1 zE)<=1048576/\(bw c.left (ag (J.mk (6:Int) 0 [(ag (J.mk (7:Int) 0 [(J.mk (8:Int) (0:Int) ([(((f.left.M.getD 0 zE).M.getD 1 zE).M.getD 1 zE)])),((f.left.M.getD 0 zE).M.getD 0 zE)])),(f.left.M.getD 1 zE)])))=(uC c f)))))))
abbrev Aa(f:ae)(c:ae):Prop:=(((!(bw c.right (f.left.M.getD 1 zE)))=true ->
 false=(uC c f))/\((!(bw c.right (f.left.M.getD 1 zE)))=false ->
 (sO f c)))
abbrev sP(f:ae)(c:ae):Prop:=(ar (((f.left.M.getD 0 zE).M.getD 1 zE).M.getD 0 zE)<=1048576/\(ar ((f.left.M.getD 0 zE).M.getD 0 zE)<=1048576/\(O c.bO ->
 (((decide (c.bO=(3:Int)))=true ->
 (ar ((f.left.M.getD 0 zE).M.getD 0 zE)<=1048576/\(ar (f.left.M.getD 1 zE)<=1048576/\(bw c.left (ag (J.mk (6:Int) 0 [(ag (J.mk (7:Int) 0 [((f.left.M.getD 0 zE).M.getD 0 zE),(J.mk (8:Int) (0:Int) ([(((f.left.M.getD 0 zE).M.getD 1 zE).M.getD 0 zE)]))])),(f.left.M.getD 1 zE)])))=(uC c f))))/\((decide (c.bO=(3:Int)))=false ->
 (ar (f.left.M.getD 1 zE)<=1048576/\(bw c.left (ag (J.mk (6:Int) 0 [(ag (J.mk (7:Int) 0 [(J.mk (8:Int) (0:Int) ([(((f.left.M.getD 0 zE).M.getD 1 zE).M.getD 0 zE)])),((f.left.M.getD 0 zE).M.getD 0 zE)])),(f.left.M.getD 1 zE)])))=(uC c f)))))))
abbrev Ab(f:ae)(c:ae):Prop:=(((!(bw c.right (f.left.M.getD 1 zE)))=true ->
 false=(uC c f))/\((!(bw c.right (f.left.M.getD 1 zE)))=false ->
 (sP f c)))
abbrev sQ(f:ae)(c:ae):Prop:=(f.left.M.length<=140737488355328 ->
 (aw (0:Int) f.left.M.length/\((f.left.M.getD 0 zE).M.length<=140737488355328 ->
 (aw (0:Int) (f.left.M.getD 0 zE).M.length/\(f.left.M.length<=140737488355328 ->
 (aw (0:Int) f.left.M.length/\((f.left.M.getD 0 zE).M.length<=140737488355328 ->
 (aw (1:Int) (f.left.M.getD 0 zE).M.length/\(((f.left.M.getD 0 zE).M.getD 1 zE).M.length<=140737488355328 ->
 (aw (0:Int) ((f.left.M.getD 0 zE).M.getD 1 zE).M.length/\(f.left.M.length<=140737488355328 ->
 (aw (0:Int) f.left.M.length/\((f.left.M.getD 0 zE).M.length<=140737488355328 ->
 (aw (1:Int) (f.left.M.getD 0 zE).M.length/\(((f.left.M.getD 0 zE).M.getD 1 zE).M.length<=140737488355328 ->
 (aw (1:Int) ((f.left.M.getD 0 zE).M.getD 1 zE).M.length/\(f.left.M.length<=140737488355328 ->
 (aw (1:Int) f.left.M.length/\(O c.bO ->
 (((decide (c.bO=(3:Int)))=true ->
 (((!(bw (((f.left.M.getD 0 zE).M.getD 1 zE).M.getD 0 zE) (f.left.M.getD 1 zE)))=false ->
 (((!(bw f.right (f.left.M.getD 1 zE)))=false ->
 (Aa f c))/\((!(bw f.right (f.left.M.getD 1 zE)))=(!false) ->
 ((true=true ->
 false=(uC c f))/\(true=false ->
 (sO f c))))))/\((!(bw (((f.left.M.getD 0 zE).M.getD 1 zE).M.getD 0 zE) (f.left.M.getD 1 zE)))=(!false) ->
 ((true=false ->
 (Aa f c))/\(true=(!false) ->
 ((true=true ->
 false=(uC c f))/\(true=false ->
 (sO f c))))))))/\((decide (c.bO=(3:Int)))=false ->
 (((!(bw (((f.left.M.getD 0 zE).M.getD 1 zE).M.getD 1 zE) (f.left.M.getD 1 zE)))=false ->
 (((!(bw f.right (f.left.M.getD 1 zE)))=false ->
 (Ab f c))/\((!(bw f.right (f.left.M.getD 1 zE)))=(!false) ->
 ((true=true ->
 false=(uC c f))/\(true=false ->
 (sP f c))))))/\((!(bw (((f.left.M.getD 0 zE).M.getD 1 zE).M.getD 1 zE) (f.left.M.getD 1 zE)))=(!false) ->
 ((true=false ->
 (Ab f c))/\(true=(!false) ->
 ((true=true ->
 false=(uC c f))/\(true=false ->
 (sP f c))))))))))))))))))))))))))))
abbrev Ac(f:ae)(c:ae):Prop:=(f.left.M.length<=140737488355328 ->
 (aw (0:Int) f.left.M.length/\((f.left.M.getD 0 zE).M.length<=140737488355328 ->
 (aw (1:Int) (f.left.M.getD 0 zE).M.length/\(O ((f.left.M.getD 0 zE).M.getD 1 zE).ak ->
 (((!(decide (((f.left.M.getD 0 zE).M.getD 1 zE).ak=(7:Int))))=true ->
 false=(uC c f))/\((!(decide (((f.left.M.getD 0 zE).M.getD 1 zE).ak=(7:Int))))=false ->
 (sQ f c))))))))
theorem Px(f:ae)(c:ae):ck (aL [ei,dI,nQ] [] [] [112]) (au ku) (EE f c) 0 (bg (aL [ei,dI,nQ] [] [] [112]) ku λ r=>bp r [⟨.bool,uC c f⟩]) (aD ku [.ref ⟨(.st .claim),f⟩, .ref ⟨(.st .claim),c⟩]) =
 ((O f.left.ak ->
 (((!(decide (f.left.ak=(6:Int))))=false ->
 (f.left.M.length<=140737488355328 ->
 (aw (0:Int) f.left.M.length/\(O (f.left.M.getD 0 zE).ak ->
 (((!(decide ((f.left.M.getD 0 zE).ak=(6:Int))))=false ->
 (Ac f c))/\((!(decide ((f.left.M.getD 0 zE).ak=(6:Int))))=(!false) ->
 ((true=true ->
 false=(uC c f))/\(true=false ->
 (sQ f c)))))))))/\((!(decide (f.left.ak=(6:Int))))=(!false) ->
 ((true=false ->
 (Ac f c))/\(true=(!false) ->
 ((true=true ->
 false=(uC c f))/\(true=false ->
 (sQ f c))))))))):=by kernel_rfl
theorem OX(hE:aG [ei,dI,nQ]):aJ.Good nS:=by
 refine⟨aA BM rfl (by decide),?_⟩
 show ∀ (f:ae) (c:ae),(InR c f)->bh prog wk [.ref ⟨(.st .claim),f⟩, .ref ⟨(.st .claim),c⟩] (·=[⟨.bool,uC c f⟩])
 intro f c hp
 refine aM (wr:=[]) (cl:=[]) (ro:=[112]) hE BM J0 (EE f c) ?_
 rewrite [Px f c]
 refine λ _=>⟨λ _ _=>⟨?_,λ _=>⟨λ _ _=>⟨?_,λ _=>⟨?_,λ _=>⟨λ _=>?_,λ _ _=>⟨?_,λ _=>⟨?_,λ _=>⟨?_,λ _=>⟨?_,λ _=>⟨?_,λ _=>⟨?_,λ _=>⟨?_,λ _=>⟨?_,λ _=>⟨?_,λ _=>⟨λ _=>⟨λ _=>⟨λ _=>⟨λ _=>?_,λ _=>⟨?_,?_,λ _=>⟨λ _=>⟨?_,?_,?_⟩,λ _=>⟨?_,?_⟩⟩⟩⟩,λ _=>⟨λ _=>?_,λ _=>⟨?_,?_,λ _=>⟨λ _=>⟨?_,?_,?_⟩,λ _=>⟨?_,?_⟩⟩⟩⟩⟩,λ _=>⟨λ _=>⟨λ _=>?_,λ _=>⟨?_,?_,λ _=>⟨λ _=>⟨?_,?_,?_⟩,λ _=>⟨?_,?_⟩⟩⟩⟩,λ _=>⟨λ _=>?_,λ _=>⟨?_,?_,λ _=>⟨λ _=>⟨?_,?_,?_⟩,λ _=>⟨?_,?_⟩⟩⟩⟩⟩⟩,λ _=>⟨λ _=>⟨λ _=>⟨λ _=>?_,λ _=>⟨?_,?_,λ _=>⟨λ _=>⟨?_,?_,?_⟩,λ _=>⟨?_,?_⟩⟩⟩⟩,λ _=>⟨λ _=>?_,λ _=>⟨?_,?_,λ _=>⟨λ _=>⟨?_,?_,?_⟩,λ _=>⟨?_,?_⟩⟩⟩⟩⟩,λ _=>⟨λ _=>⟨λ _=>?_,λ _=>⟨?_,?_,λ _=>⟨λ _=>⟨?_,?_,?_⟩,λ _=>⟨?_,?_⟩⟩⟩⟩,λ _=>⟨λ _=>?_,λ _=>⟨?_,?_,λ _=>⟨λ _=>⟨?_,?_,?_⟩,λ _=>⟨?_,?_⟩⟩⟩⟩⟩⟩⟩⟩⟩⟩⟩⟩⟩⟩⟩⟩⟩⟩⟩,λ _=>⟨λ _=>?_,λ _ _=>⟨?_,λ _=>⟨?_,λ _=>⟨?_,λ _=>⟨?_,λ _=>⟨?_,λ _=>⟨?_,λ _=>⟨?_,λ _=>⟨?_,λ _=>⟨?_,λ _=>⟨λ _=>⟨λ _=>⟨λ _=>⟨λ _=>?_,λ _=>⟨?_,?_,λ _=>⟨λ _=>⟨?_,?_,?_⟩,λ _=>⟨?_,?_⟩⟩⟩⟩,λ _=>⟨λ _=>?_,λ _=>⟨?_,?_,λ _=>⟨λ _=>⟨?_,?_,?_⟩,λ _=>⟨?_,?_⟩⟩⟩⟩⟩,λ _=>⟨λ _=>⟨λ _=>?_,λ _=>⟨?_,?_,λ _=>⟨λ _=>⟨?_,?_,?_⟩,λ _=>⟨?_,?_⟩⟩⟩⟩,λ _=>⟨λ _=>?_,λ _=>⟨?_,?_,λ _=>⟨λ _=>⟨?_,?_,?_⟩,λ _=>⟨?_,?_⟩⟩⟩⟩⟩⟩,λ _=>⟨λ _=>⟨λ _=>⟨λ _=>?_,λ _=>⟨?_,?_,λ _=>⟨λ _=>⟨?_,?_,?_⟩,λ _=>⟨?_,?_⟩⟩⟩⟩,λ _=>⟨λ _=>?_,λ _=>⟨?_,?_,λ _=>⟨λ _=>⟨?_,?_,?_⟩,λ _=>⟨?_,?_⟩⟩⟩⟩⟩,λ _=>⟨λ _=>⟨λ _=>?_,λ _=>⟨?_,?_,λ _=>⟨λ _=>⟨?_,?_,?_⟩,λ _=>⟨?_,?_⟩⟩⟩⟩,λ _=>⟨λ _=>?_,λ _=>⟨?_,?_,λ _=>⟨λ _=>⟨?_,?_,?_⟩,λ _=>⟨?_,?_⟩⟩⟩⟩⟩⟩⟩⟩⟩⟩⟩⟩⟩⟩⟩⟩⟩⟩⟩,λ _=>⟨λ _ _=>⟨?_,λ _=>⟨?_,λ _=>⟨λ _=>?_,λ _ _=>⟨?_,λ _=>⟨?_,λ _=>⟨?_,λ _=>⟨?_,λ _=>⟨?_,λ _=>⟨?_,λ _=>⟨?_,λ _=>⟨?_,λ _=>⟨?_,λ _=>⟨λ _=>⟨λ _=>⟨λ _=>⟨λ _=>?_,λ _=>⟨?_,?_,λ _=>⟨λ _=>⟨?_,?_,?_⟩,λ _=>⟨?_,?_⟩⟩⟩⟩,λ _=>⟨λ _=>?_,λ _=>⟨?_,?_,λ _=>⟨λ _=>⟨?_,?_,?_⟩,λ _=>⟨?_,?_⟩⟩⟩⟩⟩,λ _=>⟨λ _=>⟨λ _=>?_,λ _=>⟨?_,?_,λ _=>⟨λ _=>⟨?_,?_,?_⟩,λ _=>⟨?_,?_⟩⟩⟩⟩,λ _=>⟨λ _=>?_,λ _=>⟨?_,?_,λ _=>⟨λ _=>⟨?_,?_,?_⟩,λ _=>⟨?_,?_⟩⟩⟩⟩⟩⟩,λ _=>⟨λ _=>⟨λ _=>⟨λ _=>?_,λ _=>⟨?_,?_,λ _=>⟨λ _=>⟨?_,?_,?_⟩,λ _=>⟨?_,?_⟩⟩⟩⟩,λ _=>⟨λ _=>?_,λ _=>⟨?_,?_,λ _=>⟨λ _=>⟨?_,?_,?_⟩,λ _=>⟨?_,?_⟩⟩⟩⟩⟩,λ _=>⟨λ _=>⟨λ _=>?_,λ _=>⟨?_,?_,λ _=>⟨λ _=>⟨?_,?_,?_⟩,λ _=>⟨?_,?_⟩⟩⟩⟩,λ _=>⟨λ _=>?_,λ _=>⟨?_,?_,λ _=>⟨λ _=>⟨?_,?_,?_⟩,λ _=>⟨?_,?_⟩⟩⟩⟩⟩⟩⟩⟩⟩⟩⟩⟩⟩⟩⟩⟩⟩⟩⟩,λ _=>⟨λ _=>?_,λ _ _=>⟨?_,λ _=>⟨?_,λ _=>⟨?_,λ _=>⟨?_,λ _=>⟨?_,λ _=>⟨?_,λ _=>⟨?_,λ _=>⟨?_,λ _=>⟨?_,λ _=>⟨λ _=>⟨λ _=>⟨λ _=>⟨λ _=>?_,λ _=>⟨?_,?_,λ _=>⟨λ _=>⟨?_,?_,?_⟩,λ _=>⟨?_,?_⟩⟩⟩⟩,λ _=>⟨λ _=>?_,λ _=>⟨?_,?_,λ _=>⟨λ _=>⟨?_,?_,?_⟩,λ _=>⟨?_,?_⟩⟩⟩⟩⟩,λ _=>⟨λ _=>⟨λ _=>?_,λ _=>⟨?_,?_,λ _=>⟨λ _=>⟨?_,?_,?_⟩,λ _=>⟨?_,?_⟩⟩⟩⟩,λ _=>⟨λ _=>?_,λ _=>⟨?_,?_,λ _=>⟨λ _=>⟨?_,?_,?_⟩,λ _=>⟨?_,?_⟩⟩⟩⟩⟩⟩,λ _=>⟨λ _=>⟨λ _=>⟨λ _=>?_,λ _=>⟨?_,?_,λ _=>⟨λ _=>⟨?_,?_,?_⟩,λ _=>⟨?_,?_⟩⟩⟩⟩,λ _=>⟨λ _=>?_,λ _=>⟨?_,?_,λ _=>⟨λ _=>⟨?_,?_,?_⟩,λ _=>⟨?_,?_⟩⟩⟩⟩⟩,λ _=>⟨λ _=>⟨λ _=>?_,λ _=>⟨?_,?_,λ _=>⟨λ _=>⟨?_,?_,?_⟩,λ _=>⟨?_,?_⟩⟩⟩⟩,λ _=>⟨λ _=>?_,λ _=>⟨?_,?_,λ _=>⟨λ _=>⟨?_,?_,?_⟩,λ _=>⟨?_,?_⟩⟩⟩⟩⟩⟩⟩⟩⟩⟩⟩⟩⟩⟩⟩⟩⟩⟩⟩
 all_goals try and_intros
 all_goals try (first|with_reducible rfl|with_reducible assumption)
 all_goals try simp only[J.eta,ae.eta,aj.eta,aP,bM,cn] at *
 all_goals first|with_reducible rfl|with_reducible assumption|exact True.intro|(simp only[a8B,a8w,a8x,a8v] at *;done)|((try simp only[a8T,J.eta,a8p,a8q,a8x,a8v,a8J,a8X,aw,O,br,a8K,a8C,a8N,a8R,a8U] at *);first|exact True.intro|omega|exact TS (c:=c) (a3h (by with_reducible assumption))|exact (TS (c:=c) (a3h (by with_reducible assumption))).symm|exact TS (c:=c) (a3i (by with_reducible assumption))|exact (TS (c:=c) (a3i (by with_reducible assumption))).symm|exact TS (c:=c) (a3j (by with_reducible assumption))|exact (TS (c:=c) (a3j (by with_reducible assumption))).symm|(have h:=a7y hp.q.f1 (by with_reducible assumption);have h2:=h.1;first|omega|(have h3:=h.2 (by with_reducible assumption);have h5:=h3.1;first|omega|(have h4:=h3.2 (by with_reducible assumption);omega)))|exact HJ (HJ (HJ hp.s1 _) _) _|exact HJ (HJ hp.s1 _) _|exact HJ hp.s1 _|(rw[a7x (a3k (by with_reducible assumption) (by with_reducible assumption) (by with_reducible assumption)) (by with_reducible assumption)];simp only[*,b0f,a9B,a9P,a9L];done)|(rw[a7w (a3k (by with_reducible assumption) (by with_reducible assumption) (by with_reducible assumption)) (by with_reducible assumption)];simp only[*,b0f,a9B,a9P,a9L];done))
theorem Kw:aJ.Good nS:=OX ⟨rm,zS,Kt,trivial⟩
end
end Go.Proofs.YtmjfpcajohhbeaaGreatDoor

set_option maxRecDepth 4000
set_option maxHeartbeats 4000000
namespace Go.Proofs.YtmjfpcajohhbeaaGreatDoor
noncomputable section
theorem EU.ir{p:av}{k:Int}(h:EU p k)(h1:¬ (dv p k).bO=1)(h2:(dv p k).ref<k):InR (dv p k) (dv p (dv p k).ref):=by
 have a:=h.i h2
 have b:=h.b.2.2.1
 exact⟨a.1,by omega,Dx _ _ (h.v.e (i:=(dv p k).ref) a.2.1 a.2.2).1⟩
theorem EU.st{p:av}{k:Int}(h:EU p k)(h1:¬ (dv p k).bO=1)(h2:(dv p k).ref<k):uC (dv p k) (dv p (dv p k).ref)=tO (dv p k) (dv p (dv p k).ref):=a5X (h.ir h1 h2).r
def mo:aJ:=⟨uo,[.r (.st .proof), .v (.int .i64)],λ (p:av) (k:Int)=>⟨(some (EU p k),[⟨.bool,jT p k⟩])⟩⟩
def CD(p:av)(k:Int):Nat->aH:=(λ zb=>if Nat.beq zb 0 then .mk (Nat) (λ j=>Bu p k j) (λ j=>(dv p k).steps.length - j) [] [2,3,10,11,12,13,14,15,16,17,18,19,20,21,22,23,24,25,26,27,28,29,30,31,32,33,34,35,36,37,38,39,40,41,42,43] (λ j=>[(7, .aW ⟨(.int .i64),((j:Int):Int)⟩)]) [0,1,4,5,7,8,9,44,45,46,47,48,49,50,51,52,53,54,55,56,57,58,59,60,61,62,63,64,65,66,67,68,69,70,71] (λ j=>[(6, .box [.aW ⟨(.int .i64),((dH p k j).ak:Int)⟩, .aW ⟨(.int .i64),((dH p k j).aI:Int)⟩, .aW ⟨(.slice (.st .expr)),((dH p k j).M:List J)⟩])]) [] [] (λ j=>λ _ => .none) else .none)
theorem NL(p:av)(k:Int):ck (aL [nS,mi,ei,dI]) (au jt) (CD p k) 0 (bg (aL [nS,mi,ei,dI]) jt λ r=>bp r [⟨.bool,jT p k⟩]) (aD jt [.ref ⟨(.st .proof),p⟩, .val ⟨(.int .i64),k⟩]) =
 ((p.U.length<=140737488355328 ->
 (aw k p.U.length/\(O (p.U.getD (Int.toNat k) (ae.mk zE zE (0:Int) (0:Int) [])).bO ->
 (((!(decide ((p.U.getD (Int.toNat k) (ae.mk zE zE (0:Int) (0:Int) [])).bO=(1:Int))))=true ->
 (((decide ((p.U.getD (Int.toNat k) (ae.mk zE zE (0:Int) (0:Int) [])).ref<k))=true ->
 (aw (p.U.getD (Int.toNat k) (ae.mk zE zE (0:Int) (0:Int) [])).ref p.U.length/\(O (p.U.getD (Int.toNat k) (ae.mk zE zE (0:Int) (0:Int) [])).ref ->
 (p.U.length<=140737488355328 ->
 (O (p.U.getD (Int.toNat k) (ae.mk zE zE (0:Int) (0:Int) [])).ref ->
 (InR (p.U.getD (Int.toNat k) (ae.mk zE zE (0:Int) (0:Int) [])) (p.U.getD (Int.toNat (p.U.getD (Int.toNat k) (ae.mk zE zE (0:Int) (0:Int) [])).ref) (ae.mk zE zE (0:Int) (0:Int) []))/\(uC (p.U.getD (Int.toNat k) (ae.mk zE zE (0:Int) (0:Int) [])) (p.U.getD (Int.toNat (p.U.getD (Int.toNat k) (ae.mk zE zE (0:Int) (0:Int) [])).ref) (ae.mk zE zE (0:Int) (0:Int) [])))=(jT p k)))))))/\((decide ((p.U.getD (Int.toNat k) (ae.mk zE zE (0:Int) (0:Int) [])).ref<k))=(!true) ->
 (O (p.U.getD (Int.toNat k) (ae.mk zE zE (0:Int) (0:Int) [])).ref ->
 false=(jT p k)))))/\((!(decide ((p.U.getD (Int.toNat k) (ae.mk zE zE (0:Int) (0:Int) [])).bO=(1:Int))))=false ->
 (ar (p.U.getD (Int.toNat k) (ae.mk zE zE (0:Int) (0:Int) [])).left<=1048576/\((∃ j1:Nat,(Bu p k j1/\((p=p/\(k=k/\((p.U.getD (Int.toNat k) (ae.mk zE zE (0:Int) (0:Int) []))=(p.U.getD (Int.toNat k) (ae.mk zE zE (0:Int) (0:Int) []))/\(True/\((0:Int)=(j1:Int)/\True)))))/\(((p.U.getD (Int.toNat k) (ae.mk zE zE (0:Int) (0:Int) [])).left.ak=((dH p k j1).ak)/\((p.U.getD (Int.toNat k) (ae.mk zE zE (0:Int) (0:Int) [])).left.aI=((dH p k j1).aI)/\((p.U.getD (Int.toNat k) (ae.mk zE zE (0:Int) (0:Int) [])).left.M=((dH p k j1).M)/\True)))/\True))))/\(∀ j1:Nat,(Bu p k j1 ->
 ((p.U.getD (Int.toNat k) (ae.mk zE zE (0:Int) (0:Int) [])).steps.length<=140737488355328 ->
 (O (((p.U.getD (Int.toNat k) (ae.mk zE zE (0:Int) (0:Int) [])).steps.length:Int)) ->
 (((decide ((j1:Int)<(((p.U.getD (Int.toNat k) (ae.mk zE zE (0:Int) (0:Int) [])).steps.length:Int))))=true ->
 ((p.U.getD (Int.toNat k) (ae.mk zE zE (0:Int) (0:Int) [])).steps.length<=140737488355328 ->
 (aw (j1:Int) (p.U.getD (Int.toNat k) (ae.mk zE zE (0:Int) (0:Int) [])).steps.length/\(NS p k (J.mk ((dH p k j1).ak) ((dH p k j1).aI) ((dH p k j1).M)) ((p.U.getD (Int.toNat k) (ae.mk zE zE (0:Int) (0:Int) [])).steps.getD j1 (ai.mk (0:Int) false [] [] []))/\(O (fY p k (J.mk ((dH p k j1).ak) ((dH p k j1).aI) ((dH p k j1).M)) ((p.U.getD (Int.toNat k) (ae.mk zE zE (0:Int) (0:Int) [])).steps.getD j1 (ai.mk (0:Int) false [] [] []))) ->
 (((!(decide ((fY p k (J.mk ((dH p k j1).ak) ((dH p k j1).aI) ((dH p k j1).M)) ((p.U.getD (Int.toNat k) (ae.mk zE zE (0:Int) (0:Int) [])).steps.getD j1 (ai.mk (0:Int) false [] [] [])))=(0:Int))))=true ->
 false=(jT p k))/\((!(decide ((fY p k (J.mk ((dH p k j1).ak) ((dH p k j1).aI) ((dH p k j1).M)) ((p.U.getD (Int.toNat k) (ae.mk zE zE (0:Int) (0:Int) [])).steps.getD j1 (ai.mk (0:Int) false [] [] [])))=(0:Int))))=false ->
 (O ((j1:Int)+(1:Int))/\(∃ j2:Nat,(Bu p k j2/\((dv p k).steps.length - j2<(dv p k).steps.length - j1/\((p=p/\(k=k/\((p.U.getD (Int.toNat k) (ae.mk zE zE (0:Int) (0:Int) []))=(p.U.getD (Int.toNat k) (ae.mk zE zE (0:Int) (0:Int) []))/\(True/\(((j1:Int)+(1:Int))=(j2:Int)/\True)))))/\(((iu p k (J.mk ((dH p k j1).ak) ((dH p k j1).aI) ((dH p k j1).M)) ((p.U.getD (Int.toNat k) (ae.mk zE zE (0:Int) (0:Int) [])).steps.getD j1 (ai.mk (0:Int) false [] [] []))).ak=((dH p k j2).ak)/\((iu p k (J.mk ((dH p k j1).ak) ((dH p k j1).aI) ((dH p k j1).M)) ((p.U.getD (Int.toNat k) (ae.mk zE zE (0:Int) (0:Int) [])).steps.getD j1 (ai.mk (0:Int) false [] [] []))).aI=((dH p k j2).aI)/\((iu p k (J.mk ((dH p k j1).ak) ((dH p k j1).aI) ((dH p k j1).M)) ((p.U.getD (Int.toNat k) (ae.mk zE zE (0:Int) (0:Int) [])).steps.getD j1 (ai.mk (0:Int) false [] [] []))).M=((dH p k j2).M)/\True)))/\True)))))))))))))/\((decide ((j1:Int)<(((p.U.getD (Int.toNat k) (ae.mk zE zE (0:Int) (0:Int) [])).steps.length:Int))))=false ->
 (bw (J.mk ((dH p k j1).ak) ((dH p k j1).aI) ((dH p k j1).M)) (p.U.getD (Int.toNat k) (ae.mk zE zE (0:Int) (0:Int) [])).right)=(jT p k))))))))))))))):=by kernel_rfl
theorem M4(hE:aG [nS,mi,ei,dI]):aJ.Good mo:=by
 refine⟨aA zK rfl (by decide),?_⟩
 show ∀ (p:av) (k:Int),(EU p k)->bh prog uo [.ref ⟨(.st .proof),p⟩, .val ⟨(.int .i64),k⟩] (·=[⟨.bool,jT p k⟩])
 intro p k hp
 refine aM (wr:=[]) (cl:=[]) (ro:=[]) hE zK H9 (CD p k) ?_
 rewrite [NL p k]
 refine λ _=>⟨?_,λ _=>⟨λ _=>⟨λ _=>⟨?_,λ _ _ _=>⟨?_,?_⟩⟩,λ _ _=>?_⟩,λ _=>⟨?_,⟨0,?_,⟨rfl,rfl,rfl,trivial,?_,trivial⟩,⟨?_,?_,?_,trivial⟩,trivial⟩,λ j1 _ _ _=>⟨λ _ _=>⟨?_,?_,λ _=>⟨λ _=>?_,λ _=>⟨?_,j1+1,?_,?_,⟨rfl,rfl,rfl,trivial,?_,trivial⟩,⟨?_,?_,?_,trivial⟩,trivial⟩⟩⟩,λ _=>?_⟩⟩⟩⟩
 all_goals try and_intros
 all_goals first|with_reducible rfl|with_reducible assumption|exact True.intro|(simp only[a8B,a8w,a8x,a8v] at *;done)|((try simp only[a8T,J.eta,a8p,a8q,a8x,a8v,a8J,a8X,aw,O,br,a8K,a8C,a8N,a8R,a8U] at *);(try simp only[Xf] at *);first|with_reducible exact True.intro|omega|(rw[a4U];done)|exact Dx _ _ hp.b.1|exact hp.k0|exact hp.k1|(have:=hp.k1;have:=hp.k0;omega)|exact hp.ir (by omega) (by omega)|(have:=(hp.i (by omega)).2;omega)|exact hp.z (by with_reducible assumption)|exact hp.z (by omega)|(rw[G9 (by omega),a8W (by omega),a9B,hp.st (by omega) (by omega)];done)|(rw[G9 (by omega),a8D (by omega),a9L];done)|(have h:Bu p k j1:=(by with_reducible assumption);first|exact h.ap (by omega)|exact h.no (by omega) (by with_reducible assumption)|exact (h.no (by omega) (by with_reducible assumption)).symm|exact h.end (by omega)|exact (h.end (by omega)).symm|exact h.next (by omega) (by with_reducible assumption)|(rw[a0v];done)|exact congrArg _ (a0v _ _ _).symm|(have:=h.jl;omega)))
theorem Is:aJ.Good mo:=M4 ⟨Kw,Ip,rm,zS,trivial⟩
def mj:aJ:=⟨uk,[.r (.st .proof)],λ (p:av)=>⟨(some (yW p),[⟨(.int .i64),(ss p:Int)⟩])⟩⟩
def CB(p:av):Nat->aH:=(λ zb=>if Nat.beq zb 0 then .mk (Nat) (λ k=>xr p k) (λ k=>p.U.length - k) [] [1] (λ k=>[(3, .aW ⟨(.int .i64),((k:Int):Int)⟩)]) [0,2,3,4,5,6,7,8,9,10,11,12,13,14,15,16,17,18,19,20,21,22] (λ k=>[]) [] [] (λ k=>λ _ => .none) else .none)
theorem NJ(p:av):ck (aL [mo]) (au jq) (CB p) 0 (bg (aL [mo]) jq λ r=>bp r [⟨(.int .i64),(ss p:Int)⟩]) (aD jq [.ref ⟨(.st .proof),p⟩]) =
 (((∃ k1:Nat,(xr p k1/\((p=p/\((0:Int)=(k1:Int)/\True))/\True)))/\(∀ k1:Nat,(xr p k1 ->
 (p.U.length<=140737488355328 ->
 (O ((p.U.length:Int)) ->
 (((decide ((k1:Int)<((p.U.length:Int))))=true ->
 (EU p (k1:Int)/\(((!(jT p (k1:Int)))=true ->
 (k1:Int)=(ss p:Int))/\((!(jT p (k1:Int)))=false ->
 (O ((k1:Int)+(1:Int))/\(∃ k2:Nat,(xr p k2/\(p.U.length - k2<p.U.length - k1/\((p=p/\(((k1:Int)+(1:Int))=(k2:Int)/\True))/\True)))))))))/\((decide ((k1:Int)<((p.U.length:Int))))=false ->
 (p.U.length<=140737488355328 ->
 (O ((p.U.length:Int)) ->
 ((p.U.length:Int))=(ss p:Int))))))))))):=by kernel_rfl
theorem M1(hE:aG [mo]):aJ.Good mj:=by
 refine⟨aA zI rfl (by decide),?_⟩
 show ∀ (p:av),(yW p)->bh prog uk [.ref ⟨(.st .proof),p⟩] (·=[⟨(.int .i64),(ss p:Int)⟩])
 intro p hp
 refine aM (wr:=[]) (cl:=[]) (ro:=[]) hE zI H7 (CB p) ?_
 rewrite [NJ p]
 refine⟨⟨0,?_,⟨rfl,?_,trivial⟩,trivial⟩,λ k1 _ _ _=>⟨λ _=>⟨?_,λ _=>?_,λ _=>⟨?_,k1+1,?_,?_,⟨rfl,?_,trivial⟩,trivial⟩⟩,λ _ _ _=>?_⟩⟩
 all_goals try and_intros
 all_goals first|with_reducible rfl|with_reducible assumption|exact True.intro|(simp only[a8B,a8w,a8x,a8v] at *;done)|((try simp only[a8T,J.eta,a8p,a8q,a8x,a8v,a8J,a8X,aw,O,br,a8K,a8C,a8N,a8R,a8U] at *);first|exact True.intro|omega|exact xr.zero (by with_reducible assumption)|(have h:xr p k1:=(by with_reducible assumption);first|exact h.sh (by omega)|exact h.no (by omega) (by with_reducible assumption)|exact (h.no (by omega) (by with_reducible assumption)).symm|exact h.end (by omega)|exact (h.end (by omega)).symm|exact h.next (by omega) (by with_reducible assumption)|(have:=h.kl;omega)))
theorem Iq:aJ.Good mj:=M1 ⟨Is,trivial⟩
def jF:aJ:=⟨rD,[.v (.st .proof)],λ (p:av)=>⟨(none,[⟨(.int .i64),wV p⟩,⟨(.int .i64),wU p⟩])⟩⟩
def yh(p:av):Nat->aH:=λ _ => .none
theorem IS(p:av):ck (aL [qw,mj] [] [] [1]) (au gF) (yh p) 0 (bg (aL [qw,mj] [] [] [1]) gF λ r=>bp r [⟨(.int .i64),wV p⟩,⟨(.int .i64),wU p⟩]) (aD gF [.val ⟨(.st .proof),p⟩]) =
 ((((!(gY p))=true ->
 ((0:Int)=(wV p)/\(1:Int)=(wU p)))/\((!(gY p))=false ->
 (yW p/\(O ((ss p:Int)) ->
 (p.U.length<=140737488355328 ->
 (O ((p.U.length:Int)) ->
 (((decide (((ss p:Int))<((p.U.length:Int))))=true ->
 (((ss p:Int))=(wV p)/\(8:Int)=(wU p)))/\((decide (((ss p:Int))<((p.U.length:Int))))=false ->
 (((ss p:Int))=(wV p)/\(0:Int)=(wU p))))))))))):=by kernel_rfl
theorem IG(hE:aG [qw,mj]):aJ.Good jF:=by
 refine⟨aA wE rfl (by decide),?_⟩
 show ∀ (p:av),True->bh prog rD [.val ⟨(.st .proof),p⟩] (·=[⟨(.int .i64),wV p⟩,⟨(.int .i64),wU p⟩])
 intro p _
 refine aM (wr:=[]) (cl:=[]) (ro:=[1]) hE wE E1 (yh p) ?_
 rewrite [IS p]
 refine⟨λ _=>⟨?_,?_⟩,λ _=>⟨?_,λ _ _ _=>⟨λ _=>⟨?_,?_⟩,λ _=>⟨?_,?_⟩⟩⟩⟩
 all_goals try and_intros
 all_goals first|with_reducible rfl|with_reducible assumption|exact True.intro|(simp only[a8B,a8w,a8x,a8v] at *;done)|((try simp only[a8T,J.eta,a8p,a8q,a8x,a8v,a8J,a8X,aw,O,br,a8K,a8C,a8N,a8R,a8U] at *);first|exact True.intro|exact⟨(by with_reducible assumption)⟩|exact (FU (by with_reducible assumption)).1|exact ((FU (by with_reducible assumption)).1).symm|exact (FU (by with_reducible assumption)).2|exact ((FU (by with_reducible assumption)).2).symm|exact (FT (by with_reducible assumption) (by omega)).1|exact ((FT (by with_reducible assumption) (by omega)).1).symm|exact (FT (by with_reducible assumption) (by omega)).2|exact ((FT (by with_reducible assumption) (by omega)).2).symm|exact (FR (by with_reducible assumption) (by omega)).1|exact ((FR (by with_reducible assumption) (by omega)).1).symm|exact (FR (by with_reducible assumption) (by omega)).2|exact ((FR (by with_reducible assumption) (by omega)).2).symm|omega)
theorem E6:aJ.Good jF:=IG ⟨Oh,Iq,trivial⟩
end
end Go.Proofs.YtmjfpcajohhbeaaGreatDoor

set_option maxRecDepth 4000
set_option maxHeartbeats 4000000
namespace Go.Proofs.YtmjfpcajohhbeaaGreatDoor
noncomputable section
def p6:aJ:=⟨gd,[.v (.st .proof)],λ (p:av)=>⟨(none,[⟨.bool,true⟩])⟩⟩
def p7(p:av):Nat->aH:=λ _ => .none
theorem yT(p:av):ck (aL [nM,nO,jF,jC,nK] [] [] [1]) (au dE) (p7 p) 0 (bg (aL [nM,nO,jF,jC,nK] [] [] [1]) dE λ r=>bp r [⟨.bool,true⟩]) (aD dE [.val ⟨(.st .proof),p⟩]) =
 (((0<=(1048576:Int)/\(1048576:Int)<=1048576)/\(O (bT (fV p) (1048576:Int)) ->
 (((decide ((bT (fV p) (1048576:Int))<(0:Int)))=true ->
 true=true)/\((decide ((bT (fV p) (1048576:Int))<(0:Int)))=false ->
 (fV p<=1048576/\(O (wV p) ->
 (O (wU p) ->
 (fV p<=1048576/\(O (wV p) ->
 (O (wU p) ->
 (((!(decide ((wV p)=(wV p))))=false ->
 (((!(decide ((wU p)=(wU p))))=true ->
 false=true)/\((!(decide ((wU p)=(wU p))))=false ->
 (fV p<=1048576/\(((!(bw p p))=true ->
 false=true)/\((!(bw p p))=false ->
 true=true))))))/\((!(decide ((wV p)=(wV p))))=(!false) ->
 ((true=true ->
 false=true)/\(true=false ->
 (fV p<=1048576/\(((!(bw p p))=true ->
 false=true)/\((!(bw p p))=false ->
 true=true)))))))))))))))))):=by kernel_rfl
theorem yF(hE:aG [nM,nO,jF,jC,nK]):aJ.Good p6:=by
 refine⟨aA oV rfl (by decide),?_⟩
 show ∀ (p:av),True->bh prog gd [.val ⟨(.st .proof),p⟩] (·=[⟨.bool,true⟩])
 intro p _
 refine aM (wr:=[]) (cl:=[]) (ro:=[1]) hE oV vJ (p7 p) ?_
 rewrite [yT p]
 have f0:=eF (fV p) 1048576
 refine⟨?_,λ _=>⟨λ _=>rfl,λ _=>⟨?_,λ _ _=>⟨?_,λ _ _=>⟨λ _=>⟨λ _=>?_,λ _=>⟨?_,λ _=>?_,λ _=>rfl⟩⟩,λ _=>⟨λ _=>?_,λ _=>⟨?_,λ _=>?_,λ _=>rfl⟩⟩⟩⟩⟩⟩⟩
 all_goals try and_intros
 all_goals first|rfl|trivial|omega|(simp only[a8p,a8q,aw,O,cr,cW,cH,br] at *;omega)|(simp[aw,O] at *;omega)|grind|(simp_all;done)
theorem vM:aJ.Good p6:=yF ⟨Kl,Ko,E6,E3,Ki,trivial⟩
theorem Dz:∀ Nw:List TV,Nw.map TV.τ=[(.st .proof)]->bh prog gd (Nw.map .val) (·=[⟨.bool,true⟩]):=by
 intro Nw h
 match Nw,h with
 | [⟨t0,a0⟩],h =>
  simp only[a9k,b0j,a8z,a8F] at h
  obtain rfl:=h
  exact vM.2 a0 trivial
end
end Go.Proofs.YtmjfpcajohhbeaaGreatDoor

/- VmPf2, VmPf3, VmPf4, VmPf5, VmPf6, VmPf7, VmLnx, VmPf8, VmPf9, VmPf10, VmPf11, VmPf12, VmPf13, VmPf14, VmPf15, VmPf16, VmPf17, VmPf18, VmPf19, VmPf21. -/
import Derived.Test.YtmjfpcajohhbeaaGreatDoorVmAxi
import Derived.WalkKit
import Derived.Deep.QuietTactic
import Derived.BigQuiet
import Derived.LoopTactic
import Derived.Deep.RegionWith
import Derived.Lib.Walk
import Derived.Lib.SliceRun
import Derived.Deep.LoopGhost
set_option linter.all false
set_option maxRecDepth 4000
set_option maxHeartbeats 4000000
namespace Go.Proofs.YtmjfpcajohhbeaaGreatDoor
def b6o:=@List.getElem?_take_of_lt
def b4D:=@Array.getElem?_push
def b5p:=@Array.size_push
def b6U:=@Go.heap_setCell_same
def b6L:=@Go.heap_setCell_other
def b6u:=@Go.Lib.run_eql_slice_nil
def b6M:=@Go.World.ownsRow_made
def b7q:=@Go.Lib.cell?_alloc_some
noncomputable section
def mi(gg:aU)(s:U):Bool:=decide (-40<=s.use/\s.use<=23)&&decide ((s.path.length:Int)<=40)&&bp (wi 2) s.path&&decide ((s.av.length:Int)<=3)&&decide ((s.bd.length:Int)<=4)&&bp (cD gg) s.av&&bp bq s.av&&bp (cD gg) s.bd
def mF(gg:aU)(c:ag):Bool:=cD gg c.left&&cD gg c.right&&decide (1<=c.aH/\c.aH<=3)&&decide (0<=c.ref/\c.ref<=39)&&decide (c.steps.length<=60) && !(decide (c.aH=1) && !decide (c.ref=0) || !decide (c.aH=1)&&decide (0<c.steps.length))&&bp (mi gg) c.steps
def dz(p:aj):Bool:=bP p.sig&&decide (p.af.length<=40)&&bp (mF p.sig) p.af
abbrev gn:ag:=ag.mk zE zE (0:Int) (0:Int) []
def c7(p:aj)(i:Int):ag:=p.af.getD i.toNat (ag.mk zE zE (0:Int) (0:Int) [])
def oY(k u:Int):Bool:=decide (0<=u)||decide (-1 - u<k)
def dv(p:aj)(k u:Int):au:=if 0<=u then GU.getD u.toNat (au.mk zE zE) else if -1 - u<k then au.mk (c7 p (-1 - u)).left (c7 p (-1 - u)).right else au.mk zE zE
def apX(q:au)(s:U):J:=dr s.av s.bd (bif s.back then q.right else q.left)
def U3(q:au)(s:U):J:=dr s.av s.bd (bif s.back then q.left else q.right)
def ZI(q:au)(s:U):Bool:=decide ((cu [q.left,q.right]).1=(s.av.length:Int))&&decide ((cu [q.left,q.right]).2=(s.bd.length:Int))
def U2(gg:aU)(q:au)(s:U):Bool:=cD gg (dr s.av s.bd q.left)&&cD gg (dr s.av s.bd q.right)
def iQ(p:aj)(k:Int)(e:J)(s:U):Int :=
 bif !(oY k s.use&&eC e s.path) then 2 else bif !ZI (dv p k s.use) s then 2 else bif !U2 p.sig (dv p k s.use) s then 3 else
 bif !bF (dN e s.path) (apX (dv p k s.use) s) then 6 else pD p.sig e s.path (U3 (dv p k s.use) s)
def kx(p:aj)(k:Int)(e:J)(s:U):J:=if iQ p k e s=0 then fU (U3 (dv p k s.use) s) e s.path else J.mk (0:Int) (0:Int) []
def pE(q:au):Bool:=decide (q.left.aq=6)&&decide ((q.left.M.getD 0 zE).aq=6)&&bF (q.left.M.getD 1 zE) q.right
def Us(q:au):J:=bif pE q then (q.left.M.getD 0 zE).M.getD 0 zE else J.mk (0:Int) (0:Int) []
def Aa(q:au):J:=bif pE q then (q.left.M.getD 0 zE).M.getD 1 zE else J.mk (0:Int) (0:Int) []
def NV(q:au):J:=bif pE q then q.right else J.mk (0:Int) (0:Int) []
def inW(r:Int)(q x:J):J:=if r=2 then J.mk 7 0 [J.mk 8 0 [x.M.getD 0 zE],q] else J.mk 7 0 [q,J.mk 8 0 [x.M.getD 1 zE]]
def a4y(r:Int)(x:J):J:=if r=2 then x.M.getD 1 zE else x.M.getD 0 zE
def uR(c f:ag):Bool:=pE (au.mk f.left f.right)&&decide ((Aa (au.mk f.left f.right)).aq=7)&&bF (a4y c.aH (Aa (au.mk f.left f.right))) f.right &&
 bF c.left (J.mk 6 0 [inW c.aH (Us (au.mk f.left f.right)) (Aa (au.mk f.left f.right)),f.right])&&bF c.right f.right
def lG(p:aj)(k:Int):Nat->J
 | 0=>(c7 p k).left
 | i+1=>kx p k (lG p k i) ((c7 p k).steps.getD i (U.mk 0 false [] [] []))
def Yi(p:aj)(k:Int):Nat->Bool
 | 0=>true
 | i+1=>Yi p k i&&decide (iQ p k (lG p k i) ((c7 p k).steps.getD i (U.mk 0 false [] [] []))=0)
def ic(p:aj)(k:Int):Bool:=if (c7 p k).aH=1 then Yi p k (c7 p k).steps.length&&bF (lG p k (c7 p k).steps.length) (c7 p k).right else decide ((c7 p k).ref<k)&&uR (c7 p k) (c7 p (c7 p k).ref)
def Tq(f:Nat->Bool):Nat->Nat
 | 0=>0
 | n+1=>if Tq f n<n then Tq f n else if f n then n+1 else n
def Z5(f:Nat->Bool):∀ n,Tq f n<=n
 | 0=>b4h _
 | n+1=>by
  have:=Z5 f n;rw[Tq];split
  .omega
  .split<;>omega
def VL(f:Nat->Bool):∀ n,Yu f n=true->Tq f n=n
 | 0,_=>rfl
 | n+1,h=>by
  rw[Yu,b3A] at h;rw[Tq,VL f n h.1,b3H (by omega),b4d h.2]
def a4q(f:Nat->Bool)(k:Nat)(h:Yu f k=true)(hk:f k=false):∀ n,k<n->Tq f n=k
 | 0,hn=>by omega
 | n+1,hn=>by
  rw[Tq];rcases b4y k n with g|g
  .rw[a4q f k h hk n g,b4d g]
  .have:k=n:=by omega
   subst this;rw[VL f k h,b3H (by omega),b3H (by rw[hk];decide)]
def zR(p:aj):Nat:=Tq (λ k=>ic p (k:Int)) p.af.length
def BI(gg:aU)(c:ag):Bool:=cD gg c.left&&cD gg c.right&&decide (1<=c.aH/\c.aH<=3)&&decide (0<=c.ref/\c.ref<=39)&&decide (c.steps.length<=60) && !(decide (c.aH=1) && !decide (c.ref=0) || !decide (c.aH=1)&&decide (0<c.steps.length))
def EI(gg:aU)(c:ag):mF gg c=(BI gg c&&bp (mi gg) c.steps):=rfl
def clG(gg:aU)(c:ag):Bool:=bp (cD gg) [c.left,c.right]&&(decide (1<=c.aH/\c.aH<=3)&&(decide (0<=c.ref/\c.ref<=39)&&(!decide (60<(c.steps.length:Int))&&(!(decide (c.aH=1) && !decide (c.ref=0)) && !(!decide (c.aH=1)&&decide (0<(c.steps.length:Int)))))))
def a4i(gg:aU)(c:ag):BI gg c=clG gg c:=by
 unfold BI clG;rw[show decide (c.steps.length<=60) = !decide (60<(c.steps.length:Int)) by
  by_cases h:c.steps.length<=60
  .rw[b4k h,b3K (by omega)];rfl
  .rw[b3K h,b4k (by omega)];rfl,
  show decide (0<c.steps.length)=decide (0<(c.steps.length:Int)) by
  by_cases h:0<c.steps.length
  .rw[b4k h,b4k (by omega)]
  .rw[b3K h,b3K (by omega)]]
 simp only[bp,b5f,Bool.not_or,b6F]
structure tZ(p:aj)(k:Nat):Prop where
 sg:bP p.sig=true
 ln:p.af.length<=40
 le:k<=p.af.length
 al:bp (mF p.sig) (p.af.take k)=true
structure En(gg:aU)(c:ag):Prop where
 l:cD gg c.left=true
 r:cD gg c.right=true
 u:1<=c.aH/\c.aH<=3
 f:0<=c.ref/\c.ref<=39
def Mr{gg:aU}{c:ag}(h:BI gg c=false):mF gg c=false:=by rw[EI,h];rfl
def a6C{gg:aU}{c:ag}(h:cD gg c.left=false):mF gg c=false:=Mr (by unfold BI;rw[h];rfl)
def a6D{gg:aU}{c:ag}(h:cD gg c.right=false):mF gg c=false:=Mr (by unfold BI;rw[h];simp)
def a2L{gg:aU}{c:ag}(h:¬ (1<=c.aH/\c.aH<=3)):mF gg c=false:=Mr (by unfold BI;rw[decide_eq_false h];simp)
def a2M{gg:aU}{c:ag}(h:¬ (0<=c.ref/\c.ref<=39)):mF gg c=false:=Mr (by unfold BI;rw[decide_eq_false h];simp)
def En.h{gg:aU}{c:ag}(h:En gg c):BI gg c=(decide (c.steps.length<=60) && !(decide (c.aH=1) && !decide (c.ref=0) || !decide (c.aH=1)&&decide (0<c.steps.length))):=by
 unfold BI;rw[h.l,h.r,decide_eq_true h.u,decide_eq_true h.f];rfl
def En.n1{gg:aU}{c:ag}(h:En gg c)(h1:c.aH=1)(h2:¬ c.ref=0):mF gg c=false:=Mr (by rw[h.h,b4k h1,b3K h2];simp)
def En.n2{gg:aU}{c:ag}(h:En gg c)(h1:¬ c.aH=1)(h2:0<c.steps.length):mF gg c=false:=Mr (by rw[h.h,b3K h1,b4k h2];simp)
def En.n3{gg:aU}{c:ag}(h:En gg c)(h1:¬ c.steps.length<=60):mF gg c=false:=Mr (by rw[h.h,b3K h1];rfl)
def En.y1{gg:aU}{c:ag}(h:En gg c)(h1:c.aH=1)(h2:c.ref=0)(h3:c.steps.length<=60):BI gg c=true:=by rw[h.h,b4k h1,b4k h2,b4k h3];rfl
def En.y2{gg:aU}{c:ag}(h:En gg c)(h1:¬ c.aH=1)(h2:¬ 0<c.steps.length):BI gg c=true:=by rw[h.h,b3K h1,b3K h2,b4k (show c.steps.length<=60 by omega)];rfl
structure LZ(p:aj)(k:Nat):Prop where
 pp:tZ p k
 lt:k<p.af.length
 a:En p.sig (p.af.getD k gn)
 n:(p.af.getD k gn).steps.length<=60
structure UU(p:aj)(k:Nat):Prop where
 pp:tZ p k
 lt:k<p.af.length
 hd:BI p.sig (p.af.getD k gn)=true
structure QR(p:aj)(k j:Nat):Prop where
 h:UU p k
 le:j<=(p.af.getD k gn).steps.length
 al:bp (mi p.sig) ((p.af.getD k gn).steps.take j)=true
def tZ.zero{p:aj}(h:bP p.sig=true)(h2:¬ 40<(p.af.length:Int)):tZ p 0:=⟨h,by omega,b4G _,by simp[bp]⟩
def tZ.end{p:aj}{k:Nat}(h:tZ p k)(hk:p.af.length<=k):dz p=true:=by
 have:=h.al;rw[List.take_of_length_le hk] at this;unfold dz;rw[h.sg,this,decide_eq_true h.ln];rfl
def tZ.bad{p:aj}{k:Nat}(h:tZ p k)(hk:k<p.af.length)(hb:mF p.sig (p.af.getD k gn)=false):dz p=false:=by
 unfold dz;rw[dL (mF p.sig) gn p.af k hk hb,Bool.and_false]
def tZ.a{p:aj}{k:Nat}(h:tZ p k)(hk:k<p.af.length)(h1:bp (cD p.sig) [(p.af.getD k gn).left,(p.af.getD k gn).right]=true)(hu:1<=(p.af.getD k gn).aH/\(p.af.getD k gn).aH<=3)(hf:0<=(p.af.getD k gn).ref/\(p.af.getD k gn).ref<=39)(hn:(p.af.getD k gn).steps.length<=60):LZ p k:=by
 simp only[bp,b3A,b3L] at h1;exact⟨h,hk,⟨h1.1,h1.2,hu,hf⟩,hn⟩
def tZ.b{p:aj}{k:Nat}(h:tZ p k)(hk:k<p.af.length)(hb:mF p.sig (p.af.getD k gn)=false):dz p=false:=h.bad hk hb
def tZ.b1{p:aj}{k:Nat}(h:tZ p k)(hk:k<p.af.length)(h1:bp (cD p.sig) [(p.af.getD k gn).left,(p.af.getD k gn).right]=false):dz p=false:=by
 refine h.b hk ?_;rw[EI,a4i];unfold clG;rw[h1];rfl
def LZ.n1{p:aj}{k:Nat}(h:LZ p k)(h1:(p.af.getD k gn).aH=1)(h2:¬ (p.af.getD k gn).ref=0):dz p=false:=h.pp.b h.lt (h.a.n1 h1 h2)
def LZ.n2{p:aj}{k:Nat}(h:LZ p k)(h1:¬ (p.af.getD k gn).aH=1)(h2:0<(p.af.getD k gn).steps.length):dz p=false:=h.pp.b h.lt (h.a.n2 h1 h2)
def LZ.y1{p:aj}{k:Nat}(h:LZ p k)(h1:(p.af.getD k gn).aH=1)(h2:(p.af.getD k gn).ref=0):UU p k:=⟨h.pp,h.lt,h.a.y1 h1 h2 h.n⟩
def LZ.y2{p:aj}{k:Nat}(h:LZ p k)(h1:¬ (p.af.getD k gn).aH=1)(h2:¬ 0<(p.af.getD k gn).steps.length):UU p k:=⟨h.pp,h.lt,h.a.y2 h1 h2⟩
def tZ.b2z{p:aj}{k:Nat}(h:tZ p k)(hk:k<p.af.length)(hb:BI p.sig (p.af.getD k gn)=false):dz p=false:=h.bad hk (by rw[EI,hb];rfl)
def UU.zero{p:aj}{k:Nat}(h:UU p k):QR p k 0:=⟨h,b4G _,by simp[bp]⟩
def QR.bad{p:aj}{k j:Nat}(h:QR p k j)(hj:j<(p.af.getD k gn).steps.length)(hb:mi p.sig ((p.af.getD k gn).steps.getD j (U.mk (0:Int) false [] [] []))=false):dz p=false :=
 h.h.pp.bad h.h.lt (by rw[EI,dL (mi p.sig) _ _ j hj hb,b4U])
def QR.next{p:aj}{k j:Nat}(h:QR p k j)(hj:j<(p.af.getD k gn).steps.length)(hb:mi p.sig ((p.af.getD k gn).steps.getD j (U.mk (0:Int) false [] [] []))=true):QR p k (j+1) :=
 ⟨h.h,hj,by rw[di (mi p.sig) (U.mk (0:Int) false [] [] []) _ j hj,h.al,hb];rfl⟩
def QR.done{p:aj}{k j:Nat}(h:QR p k j)(hj:(p.af.getD k gn).steps.length<=j):tZ p (k+1):=by
 have h1:=h.al;rw[b3U hj] at h1;exact⟨h.h.pp.sg,h.h.pp.ln,h.h.lt,by rw[di (mF p.sig) gn _ k h.h.lt,h.h.pp.al,EI,h.h.hd,h1];rfl⟩
def a4M{p:aj}(h:bP p.sig=false):dz p=false:=by unfold dz;rw[h];rfl
def a4N{p:aj}(h:40<(p.af.length:Int)):dz p=false:=by unfold dz;rw[decide_eq_false (show ¬ p.af.length<=40 by omega)];simp
def qX:aL:=⟨rh,[.v (.slice (.st .expr))],λ (xs:List J)=>⟨(none,[⟨.bool,bp bq xs⟩])⟩⟩
def Hq(xs:List J):Nat->az:=(cP 0 (.b (Nat) (λ k=>k<=xs.length/\bp bq (xs.take k)=true) (λ k=>xs.length - k) [0] (λ k=>[(7, .aF ⟨(.int .i64),((k:Int):Int)⟩)])) bI)
def BV:aL.Good qX:=by
 refine⟨ar pH,?_⟩;intro (xs:List J) _;refine aV [fh] [] [] [] ⟨gu,ae⟩ pH BD (Hq xs) (let v0:=(xs.length:Int);((O v0->((∃ k1:Nat,((k1<=xs.length/\bp bq (xs.take k1)=true)/\((xs=xs/\(v0=v0/\((0:Int)=(k1:Int)/\True)))/\True)))/\(∀ k1:Nat,let v1 := !(bq (aI (xs.getD k1 zE)));((k1<=xs.length/\bp bq (xs.take k1)=true)->(((decide ((k1:Int)<v0))=true->(ak (k1:Int) xs.length/\((v1=true->false=(bp bq xs))/\(v1=false->(O ((k1:Int)+(1:Int))/\(∃ k2:Nat,((k2<=xs.length/\bp bq (xs.take k2)=true)/\(xs.length - k2<xs.length - k1/\((xs=xs/\(v0=v0/\(((k1:Int)+(1:Int))=(k2:Int)/\True)))/\True)))))))))/\((decide ((k1:Int)<v0))=false->true=(bp bq xs))))))))) ?_;have f1:=all_zero bq xs;refine λ _=>⟨⟨0,?_,⟨rfl,rfl,?_,ae⟩,ae⟩,λ k1 _=>have HO:=di bq zE xs k1;have HP:=dL bq zE xs k1;have HQ:=dU bq xs k1;⟨λ _=>⟨?_,λ _=>?_,λ _=>⟨?_,k1+1,?_,?_,⟨rfl,rfl,?_,ae⟩,ae⟩⟩,λ _=>?_⟩⟩;all_goals try and_intros
 all_goals try (first|with_reducible rfl|with_reducible assumption)
 all_goals try simp only[J.eta,ag.eta,au.eta,aJ,bm,bH] at *
 all_goals first|rfl|trivial|(simp only[b3v,b3u,ak,O] at *;omega)|(simp_all;done)|(simp_all [ak,O];omega)
def IF:aL:=⟨I7,[.v (.st .sig), .v (.st .proofStep)],λ (gg:aU) (s:U)=>⟨(some (bP gg=true),[⟨.bool,mi gg s⟩])⟩⟩
def Wp(gg:aU)(s:U):Nat->az:=bI
abbrev r6(gg:aU)(s:U):Prop:=(s.av.length<=140737488355328 ->
 (((bp bq s.av)=true ->
 (s.bd.length<=140737488355328 ->
 (bp (cD gg) s.bd&&bP gg)=(mi gg s)))/\((bp bq s.av)=(!true) ->
 false=(mi gg s))))
abbrev r7(gg:aU)(s:U):Prop:=((false=true ->
 (s.bd.length<=140737488355328 ->
 (bp (cD gg) s.bd&&bP gg)=(mi gg s)))/\(false=(!true) ->
 false=(mi gg s)))
abbrev Dn(gg:aU)(s:U):Prop:=(let v0:=bp (cD gg) s.av&&bP gg;(s.av.length<=140737488355328 ->
 ((v0=true ->
 (r6 gg s))/\(v0=(!true) ->
 (r7 gg s)))))
abbrev r8(gg:aU)(s:U):Prop:=(let v0:=decide (((s.bd.length:Int))<=(4:Int));(s.bd.length<=140737488355328 ->
 (O ((s.bd.length:Int)) ->
 ((v0=true ->
 (Dn gg s))/\(v0=(!true) ->
 ((false=true ->
 (r6 gg s))/\(false=(!true) ->
 (r7 gg s))))))))
abbrev r9(gg:aU)(s:U):Prop:=((false=true ->
 (Dn gg s))/\(false=(!true) ->
 ((false=true ->
 (r6 gg s))/\(false=(!true) ->
 (r7 gg s)))))
abbrev Dp(gg:aU)(s:U):Prop:=(let v0:=decide (((s.av.length:Int))<=(3:Int));(s.av.length<=140737488355328 ->
 (O ((s.av.length:Int)) ->
 ((v0=true ->
 (r8 gg s))/\(v0=(!true) ->
 (r9 gg s))))))
abbrev Dq(gg:aU)(s:U):Prop:=(s.path.length<=140737488355328 ->
 ((0<=(2:Int)/\(2:Int)<=4096)/\(((bp (wi (2:Int)) s.path)=true ->
 (Dp gg s))/\((bp (wi (2:Int)) s.path)=(!true) ->
 ((false=true ->
 (r8 gg s))/\(false=(!true) ->
 (r9 gg s)))))))
abbrev Dr(gg:aU)(s:U):Prop:=((false=true ->
 (Dp gg s))/\(false=(!true) ->
 ((false=true ->
 (r8 gg s))/\(false=(!true) ->
 (r9 gg s)))))
def Pb:aL.Good IF:=by
 refine⟨ar FH,?_⟩;intro (gg:aU) (s:U) (hp:bP gg=true);refine aV [fO,F3,oL,qX] [] [] [2,3] ⟨fW,MB,qS,BV,ae⟩ FH Oz (Wp gg s) (let v0:=decide ((-40:Int)<=s.use/\s.use<=(23:Int));let v1:=decide (((s.path.length:Int))<=(40:Int));((O s.use->(((v0=true)->(s.path.length<=140737488355328->(O ((s.path.length:Int))->((v1=true->(Dq gg s))/\(v1=(!true)->(Dr gg s))))))/\((v0=(!true))->((false=true->(Dq gg s))/\(false=(!true)->(Dr gg s)))))))) ?_;refine λ _=>⟨λ _ _ _=>⟨λ _ _=>⟨?_,λ _ _ _=>⟨λ _ _ _=>⟨λ _ _=>⟨λ _ _=>⟨λ _ _=>?_,λ _=>?_⟩,λ _=>⟨λ _ _=>?_,λ _=>?_⟩⟩,λ _=>⟨λ _ _=>⟨λ _ _=>?_,λ _=>?_⟩,λ _=>⟨λ _ _=>?_,λ _=>?_⟩⟩⟩,λ _=>⟨λ _ _=>⟨λ _ _=>⟨λ _ _=>?_,λ _=>?_⟩,λ _=>⟨λ _ _=>?_,λ _=>?_⟩⟩,λ _=>⟨λ _ _=>⟨λ _ _=>?_,λ _=>?_⟩,λ _=>⟨λ _ _=>?_,λ _=>?_⟩⟩⟩⟩,λ _=>⟨λ _ _ _=>⟨λ _ _=>⟨λ _ _=>⟨λ _ _=>?_,λ _=>?_⟩,λ _=>⟨λ _ _=>?_,λ _=>?_⟩⟩,λ _=>⟨λ _ _=>⟨λ _ _=>?_,λ _=>?_⟩,λ _=>⟨λ _ _=>?_,λ _=>?_⟩⟩⟩,λ _=>⟨λ _ _=>⟨λ _ _=>⟨λ _ _=>?_,λ _=>?_⟩,λ _=>⟨λ _ _=>?_,λ _=>?_⟩⟩,λ _=>⟨λ _ _=>⟨λ _ _=>?_,λ _=>?_⟩,λ _=>⟨λ _ _=>?_,λ _=>?_⟩⟩⟩⟩⟩,λ _=>⟨λ _ _ _=>⟨λ _ _ _=>⟨λ _ _=>⟨λ _ _=>⟨λ _ _=>?_,λ _=>?_⟩,λ _=>⟨λ _ _=>?_,λ _=>?_⟩⟩,λ _=>⟨λ _ _=>⟨λ _ _=>?_,λ _=>?_⟩,λ _=>⟨λ _ _=>?_,λ _=>?_⟩⟩⟩,λ _=>⟨λ _ _=>⟨λ _ _=>⟨λ _ _=>?_,λ _=>?_⟩,λ _=>⟨λ _ _=>?_,λ _=>?_⟩⟩,λ _=>⟨λ _ _=>⟨λ _ _=>?_,λ _=>?_⟩,λ _=>⟨λ _ _=>?_,λ _=>?_⟩⟩⟩⟩,λ _=>⟨λ _ _ _=>⟨λ _ _=>⟨λ _ _=>⟨λ _ _=>?_,λ _=>?_⟩,λ _=>⟨λ _ _=>?_,λ _=>?_⟩⟩,λ _=>⟨λ _ _=>⟨λ _ _=>?_,λ _=>?_⟩,λ _=>⟨λ _ _=>?_,λ _=>?_⟩⟩⟩,λ _=>⟨λ _ _=>⟨λ _ _=>⟨λ _ _=>?_,λ _=>?_⟩,λ _=>⟨λ _ _=>?_,λ _=>?_⟩⟩,λ _=>⟨λ _ _=>⟨λ _ _=>?_,λ _=>?_⟩,λ _=>⟨λ _ _=>?_,λ _=>?_⟩⟩⟩⟩⟩⟩,λ _=>⟨λ _ _=>⟨?_,λ _ _ _=>⟨λ _ _ _=>⟨λ _ _=>⟨λ _ _=>⟨λ _ _=>?_,λ _=>?_⟩,λ _=>⟨λ _ _=>?_,λ _=>?_⟩⟩,λ _=>⟨λ _ _=>⟨λ _ _=>?_,λ _=>?_⟩,λ _=>⟨λ _ _=>?_,λ _=>?_⟩⟩⟩,λ _=>⟨λ _ _=>⟨λ _ _=>⟨λ _ _=>?_,λ _=>?_⟩,λ _=>⟨λ _ _=>?_,λ _=>?_⟩⟩,λ _=>⟨λ _ _=>⟨λ _ _=>?_,λ _=>?_⟩,λ _=>⟨λ _ _=>?_,λ _=>?_⟩⟩⟩⟩,λ _=>⟨λ _ _ _=>⟨λ _ _=>⟨λ _ _=>⟨λ _ _=>?_,λ _=>?_⟩,λ _=>⟨λ _ _=>?_,λ _=>?_⟩⟩,λ _=>⟨λ _ _=>⟨λ _ _=>?_,λ _=>?_⟩,λ _=>⟨λ _ _=>?_,λ _=>?_⟩⟩⟩,λ _=>⟨λ _ _=>⟨λ _ _=>⟨λ _ _=>?_,λ _=>?_⟩,λ _=>⟨λ _ _=>?_,λ _=>?_⟩⟩,λ _=>⟨λ _ _=>⟨λ _ _=>?_,λ _=>?_⟩,λ _=>⟨λ _ _=>?_,λ _=>?_⟩⟩⟩⟩⟩,λ _=>⟨λ _ _ _=>⟨λ _ _ _=>⟨λ _ _=>⟨λ _ _=>⟨λ _ _=>?_,λ _=>?_⟩,λ _=>⟨λ _ _=>?_,λ _=>?_⟩⟩,λ _=>⟨λ _ _=>⟨λ _ _=>?_,λ _=>?_⟩,λ _=>⟨λ _ _=>?_,λ _=>?_⟩⟩⟩,λ _=>⟨λ _ _=>⟨λ _ _=>⟨λ _ _=>?_,λ _=>?_⟩,λ _=>⟨λ _ _=>?_,λ _=>?_⟩⟩,λ _=>⟨λ _ _=>⟨λ _ _=>?_,λ _=>?_⟩,λ _=>⟨λ _ _=>?_,λ _=>?_⟩⟩⟩⟩,λ _=>⟨λ _ _ _=>⟨λ _ _=>⟨λ _ _=>⟨λ _ _=>?_,λ _=>?_⟩,λ _=>⟨λ _ _=>?_,λ _=>?_⟩⟩,λ _=>⟨λ _ _=>⟨λ _ _=>?_,λ _=>?_⟩,λ _=>⟨λ _ _=>?_,λ _=>?_⟩⟩⟩,λ _=>⟨λ _ _=>⟨λ _ _=>⟨λ _ _=>?_,λ _=>?_⟩,λ _=>⟨λ _ _=>?_,λ _=>?_⟩⟩,λ _=>⟨λ _ _=>⟨λ _ _=>?_,λ _=>?_⟩,λ _=>⟨λ _ _=>?_,λ _=>?_⟩⟩⟩⟩⟩⟩⟩;all_goals try and_intros
 all_goals first|with_reducible rfl|with_reducible assumption|exact True.intro|(simp only[Bool.true_eq_false,Bool.false_eq_true,Bool.not_true,Bool.not_false] at *;done)|omega|(simp only[hp,Bool.and_true,Bool.not_true,Bool.not_false] at *;unfold mi;simp only[*,Bool.and_true,Bool.true_and,Bool.and_false,Bool.false_and];done)|(simp only[ak,O,aY] at *;omega)
def yH:aL:=⟨yV,[.v (.st .proof)],λ (p:aj)=>⟨(none,[⟨.bool,dz p⟩])⟩⟩
def Nj(p:aj):Nat->az:=(cP 0 (.mk (Nat) (λ k=>tZ p k) (λ k=>p.af.length - k) [] [0,7,8,9,10,11,12,13,14,15,16,17] (λ k=>[(20, .aF ⟨(.int .i64),((k:Int):Int)⟩)]) [] (λ k=>[]) [] [] (λ k=>(cP 100008 (.u (LZ p k) [21,22,23] [] [4] [] (cP 100010 (.u (UU p k) [] [] [4] [] (cP 2 (.a (Nat) (λ j=>QR p k j) (λ j=>(p.af.getD k (ag.mk zE zE (0:Int) (0:Int) [])).steps.length - j) [4,70] (λ j=>[(73, .aF ⟨(.int .i64),((j:Int):Int)⟩)]) [4] (λ j=>[])) bI)) bI)) bI))) bI)
abbrev l8(p:aj)(k1:Nat):Prop:=(let v0:=p.af.getD k1 (ag.mk zE zE (0:Int) (0:Int) []);((v0.left.aq=v0.left.aq/\(v0.left.aN=v0.left.aN/\(v0.left.M=v0.left.M/\(v0.right.aq=v0.right.aq/\(v0.right.aN=v0.right.aN/\(v0.right.M=v0.right.M/\(v0.aH=v0.aH/\(v0.ref=v0.ref/\(v0.steps=v0.steps/\True)))))))))/\True))
abbrev fN(p:aj)(k1:Nat):Prop:=((p=p/\(True/\(p.af=p.af/\(((p.af.length:Int))=((p.af.length:Int))/\((k1:Int)=(k1:Int)/\True)))))/\(l8 p k1))
abbrev ti(p:aj)(k1:Nat):Prop:=(let v0:=p.af.getD k1 (ag.mk zE zE (0:Int) (0:Int) []);let v1:=decide ((60:Int)<((v0.steps.length:Int)));(v0.steps.length<=140737488355328 ->
 (O ((v0.steps.length:Int)) ->
 ((v1=true ->
 false=(dz p))/\(v1=false ->
 (∃ u2:Unit,(LZ p k1/\(fN p k1))))))))
abbrev tj(p:aj)(k1:Nat):Prop:=(let v0:=p.af.getD k1 (ag.mk zE zE (0:Int) (0:Int) []);let v1 := !(decide ((0:Int)<=v0.ref/\v0.ref<=(39:Int)));(O v0.ref ->
 (((v1=false) ->
 (ti p k1))/\((v1=(!false)) ->
 ((true=true ->
 false=(dz p))/\(true=false ->
 (∃ u2:Unit,(LZ p k1/\(fN p k1)))))))))
abbrev tl(p:aj)(k1:Nat):Prop:=((true=false ->
 (ti p k1))/\(true=(!false) ->
 ((true=true ->
 false=(dz p))/\(true=false ->
 (∃ u2:Unit,(LZ p k1/\(fN p k1)))))))
abbrev tm(p:aj)(k1:Nat):Prop:=(let v0:=p.af.getD k1 (ag.mk zE zE (0:Int) (0:Int) []);let v1:=decide ((0:Int)<((v0.steps.length:Int)));let v2:=UU p k1/\(fN p k1);let v3 := !(decide (v0.aH=(1:Int)));(O v0.aH ->
 ((v3=true ->
 (v0.steps.length<=140737488355328 ->
 (O ((v0.steps.length:Int)) ->
 ((v1=true ->
 false=(dz p))/\(v1=false ->
 (∃ u3:Unit,v2))))))/\(v3=(!true) ->
 ((false=true ->
 false=(dz p))/\(false=false ->
 (∃ u3:Unit,v2)))))))
abbrev tn(p:aj):Prop:=(let v1:=(p.af.length:Int);let v2:=(0:Int);let v0:=ag.mk zE zE v2 v2 [];let v3:=(1:Int);let v4:=U.mk v2 false [] [] [];(p.af.length<=140737488355328 ->
 (O v1 ->
 ((∃ k1:Nat,(tZ p k1/\((p=p/\(p.af=p.af/\(v1=v1/\(v2=(k1:Int)/\True))))/\True)))/\(∀ k1:Nat,let v5:=p.af.getD k1 v0;let v6:=(v5.steps.length:Int);let v7 := !(bp (cD p.sig) ([(aI v5.left),(aI v5.right)])&&bP p.sig);let v8:=(k1:Int);let v9 := !(decide (v3<=v5.aH/\v5.aH<=(3:Int)));let va:=UU p k1/\(fN p k1);(tZ p k1 ->
 (((decide (v8<v1))=true ->
 (ak v8 p.af.length/\(((v7=false ->
 (O v5.aH ->
 (((v9=false) ->
 (tj p k1))/\((v9=(!false)) ->
 (tl p k1)))))/\(v7=(!false) ->
 ((true=false ->
 (tj p k1))/\(true=(!false) ->
 (tl p k1)))))/\(∀ u2:Unit,(LZ p k1 ->
 ((O v5.aH ->
 (((decide (v5.aH=v3))=true ->
 (O v5.ref ->
 (((!(decide (v5.ref=v2)))=false ->
 (tm p k1))/\((!(decide (v5.ref=v2)))=(!false) ->
 ((true=true ->
 false=(dz p))/\(true=false ->
 (∃ u3:Unit,va)))))))/\((decide (v5.aH=v3))=(!true) ->
 ((false=false ->
 (tm p k1))/\(false=(!false) ->
 ((true=true ->
 false=(dz p))/\(true=false ->
 (∃ u3:Unit,va))))))))/\(∀ u3:Unit,(UU p k1 ->
 (v5.steps.length<=140737488355328 ->
 (O v6 ->
 ((∃ j4:Nat,(QR p k1 j4/\((p=p/\(p.af=p.af/\(v1=v1/\(v8=v8/\(v5.steps=v5.steps/\(v6=v6/\(v2=(j4:Int)/\True)))))))/\(l8 p k1))))/\(∀ j4:Nat,let vb := !(mi p.sig (v5.steps.getD j4 v4));(QR p k1 j4 ->
 (((decide ((j4:Int)<v6))=true ->
 (ak (j4:Int) v5.steps.length/\(bP p.sig=true/\((vb=true ->
 false=(dz p))/\(vb=false ->
 (O ((j4:Int)+v3)/\(∃ j5:Nat,(QR p k1 j5/\(v5.steps.length - j5<v5.steps.length - j4/\((p=p/\(p.af=p.af/\(v1=v1/\(v8=v8/\(v5.steps=v5.steps/\(v6=v6/\(((j4:Int)+v3)=(j5:Int)/\True)))))))/\(l8 p k1)))))))))))/\((decide ((j4:Int)<v6))=false ->
 (O (v8+v3)/\(∃ k5:Nat,(tZ p k5/\(p.af.length - k5<p.af.length - k1/\((p=p/\(p.af=p.af/\(v1=v1/\((v8+v3)=(k5:Int)/\True))))/\True))))))))))))))))))))/\((decide (v8<v1))=false ->
 true=(dz p)))))))))
def He:aL.Good yH:=by
 refine⟨ar vN,?_⟩;intro (p:aj) _;refine aV [sa,oL,fO,IF] [] [] [1] ⟨we,qS,fW,Pb,ae⟩ vN GX (Nj p) (let v0:=decide ((40:Int)<((p.af.length:Int)));((((!(bP p.sig))=false->(p.af.length<=140737488355328->(O ((p.af.length:Int))->((v0=true->false=(dz p))/\(v0=false->(tn p))))))/\((!(bP p.sig))=(!false)->((true=true->false=(dz p))/\(true=false->(tn p))))))) ?_;refine⟨λ _ _ _=>⟨λ _=>?_,λ _ _ _=>⟨⟨0,?_,⟨rfl,rfl,rfl,?_,ae⟩,ae⟩,λ k1 _=>⟨λ _=>⟨?_,⟨λ _ _=>⟨λ _ _=>⟨λ _ _ _=>⟨λ _=>?_,λ _=>⟨(),?_,⟨rfl,ae,rfl,rfl,rfl,ae⟩,⟨rfl,rfl,rfl,rfl,rfl,rfl,rfl,rfl,rfl,ae⟩,ae⟩⟩,λ _=>⟨λ _=>?_,λ _=>⟨(),?_,⟨rfl,ae,rfl,rfl,rfl,ae⟩,⟨rfl,rfl,rfl,rfl,rfl,rfl,rfl,rfl,rfl,ae⟩,ae⟩⟩⟩,λ _=>⟨λ _ _ _=>⟨λ _=>?_,λ _=>⟨(),?_,⟨rfl,ae,rfl,rfl,rfl,ae⟩,⟨rfl,rfl,rfl,rfl,rfl,rfl,rfl,rfl,rfl,ae⟩,ae⟩⟩,λ _=>⟨λ _=>?_,λ _=>⟨(),?_,⟨rfl,ae,rfl,rfl,rfl,ae⟩,⟨rfl,rfl,rfl,rfl,rfl,rfl,rfl,rfl,rfl,ae⟩,ae⟩⟩⟩⟩,λ _=>⟨λ _ _=>⟨λ _ _ _=>⟨λ _=>?_,λ _=>⟨(),?_,⟨rfl,ae,rfl,rfl,rfl,ae⟩,⟨rfl,rfl,rfl,rfl,rfl,rfl,rfl,rfl,rfl,ae⟩,ae⟩⟩,λ _=>⟨λ _=>?_,λ _=>⟨(),?_,⟨rfl,ae,rfl,rfl,rfl,ae⟩,⟨rfl,rfl,rfl,rfl,rfl,rfl,rfl,rfl,rfl,ae⟩,ae⟩⟩⟩,λ _=>⟨λ _ _ _=>⟨λ _=>?_,λ _=>⟨(),?_,⟨rfl,ae,rfl,rfl,rfl,ae⟩,⟨rfl,rfl,rfl,rfl,rfl,rfl,rfl,rfl,rfl,ae⟩,ae⟩⟩,λ _=>⟨λ _=>?_,λ _=>⟨(),?_,⟨rfl,ae,rfl,rfl,rfl,ae⟩,⟨rfl,rfl,rfl,rfl,rfl,rfl,rfl,rfl,rfl,ae⟩,ae⟩⟩⟩⟩⟩,λ u2 _=>⟨λ _=>⟨λ _ _=>⟨λ _ _=>⟨λ _ _ _=>⟨λ _=>?_,λ _=>⟨(),?_,⟨rfl,ae,rfl,rfl,rfl,ae⟩,⟨rfl,rfl,rfl,rfl,rfl,rfl,rfl,rfl,rfl,ae⟩,ae⟩⟩,λ _=>⟨λ _=>?_,λ _=>⟨(),?_,⟨rfl,ae,rfl,rfl,rfl,ae⟩,⟨rfl,rfl,rfl,rfl,rfl,rfl,rfl,rfl,rfl,ae⟩,ae⟩⟩⟩,λ _=>⟨λ _=>?_,λ _=>⟨(),?_,⟨rfl,ae,rfl,rfl,rfl,ae⟩,⟨rfl,rfl,rfl,rfl,rfl,rfl,rfl,rfl,rfl,ae⟩,ae⟩⟩⟩,λ _=>⟨λ _ _=>⟨λ _ _ _=>⟨λ _=>?_,λ _=>⟨(),?_,⟨rfl,ae,rfl,rfl,rfl,ae⟩,⟨rfl,rfl,rfl,rfl,rfl,rfl,rfl,rfl,rfl,ae⟩,ae⟩⟩,λ _=>⟨λ _=>?_,λ _=>⟨(),?_,⟨rfl,ae,rfl,rfl,rfl,ae⟩,⟨rfl,rfl,rfl,rfl,rfl,rfl,rfl,rfl,rfl,ae⟩,ae⟩⟩⟩,λ _=>⟨λ _=>?_,λ _=>⟨(),?_,⟨rfl,ae,rfl,rfl,rfl,ae⟩,⟨rfl,rfl,rfl,rfl,rfl,rfl,rfl,rfl,rfl,ae⟩,ae⟩⟩⟩⟩,λ u3 _ _ _=>⟨⟨0,?_,⟨rfl,rfl,rfl,rfl,rfl,rfl,?_,ae⟩,⟨rfl,rfl,rfl,rfl,rfl,rfl,rfl,rfl,rfl,ae⟩,ae⟩,λ j4 _=>⟨λ _=>⟨?_,?_,λ _=>?_,λ _=>⟨?_,j4+1,?_,?_,⟨rfl,rfl,rfl,rfl,rfl,rfl,?_,ae⟩,⟨rfl,rfl,rfl,rfl,rfl,rfl,rfl,rfl,rfl,ae⟩,ae⟩⟩,λ _=>⟨?_,k1+1,?_,?_,⟨rfl,rfl,rfl,?_,ae⟩,ae⟩⟩⟩⟩⟩,λ _=>?_⟩⟩⟩,λ _=>⟨λ _=>?_,λ _ _ _=>⟨⟨0,?_,⟨rfl,rfl,rfl,?_,ae⟩,ae⟩,λ k1 _=>⟨λ _=>⟨?_,⟨λ _ _=>⟨λ _ _=>⟨λ _ _ _=>⟨λ _=>?_,λ _=>⟨(),?_,⟨rfl,ae,rfl,rfl,rfl,ae⟩,⟨rfl,rfl,rfl,rfl,rfl,rfl,rfl,rfl,rfl,ae⟩,ae⟩⟩,λ _=>⟨λ _=>?_,λ _=>⟨(),?_,⟨rfl,ae,rfl,rfl,rfl,ae⟩,⟨rfl,rfl,rfl,rfl,rfl,rfl,rfl,rfl,rfl,ae⟩,ae⟩⟩⟩,λ _=>⟨λ _ _ _=>⟨λ _=>?_,λ _=>⟨(),?_,⟨rfl,ae,rfl,rfl,rfl,ae⟩,⟨rfl,rfl,rfl,rfl,rfl,rfl,rfl,rfl,rfl,ae⟩,ae⟩⟩,λ _=>⟨λ _=>?_,λ _=>⟨(),?_,⟨rfl,ae,rfl,rfl,rfl,ae⟩,⟨rfl,rfl,rfl,rfl,rfl,rfl,rfl,rfl,rfl,ae⟩,ae⟩⟩⟩⟩,λ _=>⟨λ _ _=>⟨λ _ _ _=>⟨λ _=>?_,λ _=>⟨(),?_,⟨rfl,ae,rfl,rfl,rfl,ae⟩,⟨rfl,rfl,rfl,rfl,rfl,rfl,rfl,rfl,rfl,ae⟩,ae⟩⟩,λ _=>⟨λ _=>?_,λ _=>⟨(),?_,⟨rfl,ae,rfl,rfl,rfl,ae⟩,⟨rfl,rfl,rfl,rfl,rfl,rfl,rfl,rfl,rfl,ae⟩,ae⟩⟩⟩,λ _=>⟨λ _ _ _=>⟨λ _=>?_,λ _=>⟨(),?_,⟨rfl,ae,rfl,rfl,rfl,ae⟩,⟨rfl,rfl,rfl,rfl,rfl,rfl,rfl,rfl,rfl,ae⟩,ae⟩⟩,λ _=>⟨λ _=>?_,λ _=>⟨(),?_,⟨rfl,ae,rfl,rfl,rfl,ae⟩,⟨rfl,rfl,rfl,rfl,rfl,rfl,rfl,rfl,rfl,ae⟩,ae⟩⟩⟩⟩⟩,λ u2 _=>⟨λ _=>⟨λ _ _=>⟨λ _ _=>⟨λ _ _ _=>⟨λ _=>?_,λ _=>⟨(),?_,⟨rfl,ae,rfl,rfl,rfl,ae⟩,⟨rfl,rfl,rfl,rfl,rfl,rfl,rfl,rfl,rfl,ae⟩,ae⟩⟩,λ _=>⟨λ _=>?_,λ _=>⟨(),?_,⟨rfl,ae,rfl,rfl,rfl,ae⟩,⟨rfl,rfl,rfl,rfl,rfl,rfl,rfl,rfl,rfl,ae⟩,ae⟩⟩⟩,λ _=>⟨λ _=>?_,λ _=>⟨(),?_,⟨rfl,ae,rfl,rfl,rfl,ae⟩,⟨rfl,rfl,rfl,rfl,rfl,rfl,rfl,rfl,rfl,ae⟩,ae⟩⟩⟩,λ _=>⟨λ _ _=>⟨λ _ _ _=>⟨λ _=>?_,λ _=>⟨(),?_,⟨rfl,ae,rfl,rfl,rfl,ae⟩,⟨rfl,rfl,rfl,rfl,rfl,rfl,rfl,rfl,rfl,ae⟩,ae⟩⟩,λ _=>⟨λ _=>?_,λ _=>⟨(),?_,⟨rfl,ae,rfl,rfl,rfl,ae⟩,⟨rfl,rfl,rfl,rfl,rfl,rfl,rfl,rfl,rfl,ae⟩,ae⟩⟩⟩,λ _=>⟨λ _=>?_,λ _=>⟨(),?_,⟨rfl,ae,rfl,rfl,rfl,ae⟩,⟨rfl,rfl,rfl,rfl,rfl,rfl,rfl,rfl,rfl,ae⟩,ae⟩⟩⟩⟩,λ u3 _ _ _=>⟨⟨0,?_,⟨rfl,rfl,rfl,rfl,rfl,rfl,?_,ae⟩,⟨rfl,rfl,rfl,rfl,rfl,rfl,rfl,rfl,rfl,ae⟩,ae⟩,λ j4 _=>⟨λ _=>⟨?_,?_,λ _=>?_,λ _=>⟨?_,j4+1,?_,?_,⟨rfl,rfl,rfl,rfl,rfl,rfl,?_,ae⟩,⟨rfl,rfl,rfl,rfl,rfl,rfl,rfl,rfl,rfl,ae⟩,ae⟩⟩,λ _=>⟨?_,k1+1,?_,?_,⟨rfl,rfl,rfl,?_,ae⟩,ae⟩⟩⟩⟩⟩,λ _=>?_⟩⟩⟩⟩;all_goals try and_intros
 all_goals try (first|with_reducible rfl|with_reducible assumption)
 all_goals try simp only[J.eta,ag.eta,au.eta,aJ,bm,bH] at *
 all_goals first|with_reducible rfl|with_reducible assumption|exact True.intro|(simp only[Bool.true_eq_false,Bool.false_eq_true,Bool.not_true,Bool.not_false] at *;done)|(have h:tZ p k1:=(by with_reducible assumption);have sg:=h.sg;simp only[sg,Bool.and_true,Bool.not_true,Bool.not_false,Bool.not_eq_true',Bool.not_eq_false'] at *;first|exact True.intro|exact (h.b1 (by simp only[decide_eq_true_eq] at *;omega) (by with_reducible assumption)).symm|exact (h.b (by simp only[decide_eq_true_eq] at *;omega) (a2L (by simp only[gn,decide_eq_true_eq,decide_eq_false_iff_not] at *;omega))).symm|exact (h.b (by simp only[decide_eq_true_eq] at *;omega) (a2M (by simp only[gn,decide_eq_true_eq,decide_eq_false_iff_not] at *;omega))).symm|exact h.a (by simp only[decide_eq_true_eq] at *;omega) (by with_reducible assumption) (by simp only[gn,decide_eq_true_eq,decide_eq_false_iff_not] at *;omega) (by simp only[gn,decide_eq_true_eq,decide_eq_false_iff_not] at *;omega) (by simp only[gn,decide_eq_true_eq,decide_eq_false_iff_not] at *;omega)|(refine (h.b2z (by simp only[decide_eq_true_eq] at *;omega) ?_).symm;(rw[a4i];unfold clG;simp only[gn, *,Bool.and_true,Bool.true_and,Bool.and_false,Bool.false_and,Bool.not_true,Bool.not_false];done)))|((try simp only[gn,List.nil_append,J.eta,decide_eq_true_eq,decide_eq_false_iff_not,Bool.not_true,Bool.not_false,Bool.not_eq_true',Bool.not_eq_false',ak,O,aY,List.length_append,List.length_cons,List.length_nil,List.length_map,List.length_take] at *);first|exact True.intro|omega|exact (a4M (by with_reducible assumption)).symm|exact (a4N (by omega)).symm|exact tZ.zero (by with_reducible assumption) (by omega)|exact (tZ.end (by with_reducible assumption) (by omega)).symm|exact UU.zero (by with_reducible assumption)|(have h:tZ p k1:=(by with_reducible assumption);have:=h.le;have:=h.ln;omega)|(have h:LZ p k1:=(by with_reducible assumption);have l:=h.lt;first|omega|exact (h.n1 (by simp only[gn];omega) (by simp only[gn];omega)).symm|exact (h.n2 (by simp only[gn];omega) (by simp only[gn];omega)).symm|exact h.y1 (by simp only[gn];omega) (by simp only[gn];omega)|exact h.y2 (by simp only[gn];omega) (by simp only[gn];omega))|(have h:UU p k1:=(by with_reducible assumption);have:=h.lt;omega)|(have h:QR p k1 j4:=(by with_reducible assumption);first|exact h.h.pp.sg|exact (h.bad (by simp only[gn];omega) (by with_reducible assumption)).symm|exact h.next (by simp only[gn];omega) (by with_reducible assumption)|exact h.done (by simp only[gn];omega)|(have:=h.le;have:=h.h.lt;omega)))
def Y9{gg:aU}{x:J}(hg:bP gg=true)(h:cD gg x=true):bg 62 62 x=true:=by
 rw[yq] at h;rw[Xr] at hg;rw[Ft _ (by omega),Ft _ (by omega)] at h;exact JK _ _ _ _ (by omega) (by omega) x h.1
def ZA{t a:Int}{x:J}(h:bg t a x=true):cV x.aq=(x.M.length:Int):=by
 rw[il,Bool.and_eq_true] at h;have h1:=h.1;unfold oJ at h1;simp only[Bool.and_eq_true,decide_eq_true_eq] at h1;exact h1.1.1
def Ka{t a:Int}{x:J}(h:bg t a x=true)(hk:x.aq=6\/x.aq=7):x.M.length=2:=by
 have:=ZA h;rcases hk with hk|hk<;>rw[hk] at this<;>simp[cV] at this<;>omega
def xl{α:Type}(f:α->Bool)(z:α)(xs:List α)(i:Nat)(h:bp f xs=true)(hi:i<xs.length):f (xs.getD i z)=true:=by
 refine xb f xs h _ ?_;rw[b3N,b3Z hi];exact b4Q _
structure mo(p:aj):Prop where
 v:dz p=true
def mo.sg{p:aj}(h:mo p):bP p.sig=true:=by
 have:=h.v;simp only[dz,b3A] at this;exact this.1.1
def mo.ln{p:aj}(h:mo p):p.af.length<=40:=by
 have:=h.v;simp only[dz,b3A,b3v] at this;exact this.1.2
def mo.cl{p:aj}(h:mo p){i:Int}(h0:0<=i)(hi:i<(p.af.length:Int)):mF p.sig (c7 p i)=true:=by
 have:=h.v;simp only[dz,b3A] at this;exact xl _ _ _ _ this.2 (by omega)
def mo.e{p:aj}(h:mo p){i:Int}(h0:0<=i)(hi:i<(p.af.length:Int)):cD p.sig (c7 p i).left=true/\cD p.sig (c7 p i).right=true/\(1<=(c7 p i).aH/\(c7 p i).aH<=3)/\(0<=(c7 p i).ref/\(c7 p i).ref<=39)/\(c7 p i).steps.length<=60/\bp (mi p.sig) (c7 p i).steps=true:=by
 have:=h.cl h0 hi;simp only[mF,b3A,b3v] at this;exact⟨this.1.1.1.1.1.1,this.1.1.1.1.1.2,this.1.1.1.1.2,this.1.1.1.2,this.1.1.2,this.2⟩
def mo.t{p:aj}(h:mo p){i:Int}(h0:0<=i)(hi:i<(p.af.length:Int)):bg 62 62 (c7 p i).left=true/\bg 62 62 (c7 p i).right=true:=⟨Y9 h.sg (h.e h0 hi).1,Y9 h.sg (h.e h0 hi).2.1⟩
def Vf:GU.length=24:=by unfold GU;rw[List.length_map];rfl
def a5g:GU.all (λ q=>bg 62 62 q.left&&bg 62 62 q.right)=true:=by kernel_rfl
def JL{p:aj}{k u:Int}(h:mo p)(hk:k<=(p.af.length:Int))(hu:u<=23)(ho:oY k u=true):bg 62 62 (dv p k u).left=true/\bg 62 62 (dv p k u).right=true:=by
 unfold dv;by_cases h0:0<=u
 .rw[b4d h0];have hm:GU.getD u.toNat (au.mk zE zE)∈GU:=by
   rw[b3N,b3Z (by rw[Vf];omega)];exact b4Q _
  have:=b4r.1 a5g _ hm;rwa [b3A] at this
 .rw[b3H h0];simp only[oY,b5o,b3v] at ho;rw[b4d (by omega)];exact h.t (by omega) (by omega)
def a8i{p:aj}{k u:Int}(h:0<=u):dv p k u=GU.getD u.toNat (au.mk zE zE)/\oY k u=true:=by
 unfold dv oY;rw[if_pos h,decide_eq_true h];exact⟨rfl,rfl⟩
def a8j{p:aj}{k u:Int}(h:¬ 0<=u)(h2 : -1 - u<k):dv p k u=au.mk (c7 p (-1 - u)).left (c7 p (-1 - u)).right/\oY k u=true:=by
 unfold dv oY;rw[if_neg h,if_pos h2,decide_eq_true h2,Bool.or_true];exact⟨rfl,rfl⟩
def a8k{p:aj}{k u:Int}(h:¬ 0<=u)(h2:¬ -1 - u<k):dv p k u=au.mk zE zE/\oY k u=false:=by
 unfold dv oY;rw[if_neg h,if_neg h2,decide_eq_false h,decide_eq_false h2];exact⟨rfl,rfl⟩
def a3P{q:au}(h:pE q=false):Us q=J.mk (0:Int) (0:Int) []/\Aa q=J.mk (0:Int) (0:Int) []/\NV q=J.mk (0:Int) (0:Int) []:=by unfold Us Aa NV;rw[h];exact⟨rfl,rfl,rfl⟩
def Qz{q:au}(h:pE q=true):Us q=(q.left.M.getD 0 zE).M.getD 0 zE/\Aa q=(q.left.M.getD 0 zE).M.getD 1 zE/\NV q=q.right:=by unfold Us Aa NV;rw[h];exact⟨rfl,rfl,rfl⟩
def a7V{q:au}(h1:q.left.aq=6)(h2:(q.left.M.getD 0 zE).aq=6)(h3:bF (q.left.M.getD 1 zE) q.right=true):pE q=true:=by unfold pE;rw[decide_eq_true h1,decide_eq_true h2,h3];rfl
def a7S{q:au}(h1:¬ q.left.aq=6):pE q=false:=by unfold pE;rw[decide_eq_false h1];rfl
def a7T{q:au}(h1:¬ (q.left.M.getD 0 zE).aq=6):pE q=false:=by unfold pE;rw[decide_eq_false h1,Bool.and_false];rfl
def a7U{q:au}(h1:bF (q.left.M.getD 1 zE) q.right=false):pE q=false:=by unfold pE;rw[h1,Bool.and_false]
def Xt{q:au}(ht:bg 62 62 q.left=true)(h:q.left.aq=6):q.left.M.length=2/\bg 62 62 (q.left.M.getD 0 zE)=true/\((q.left.M.getD 0 zE).aq=6->(q.left.M.getD 0 zE).M.length=2/\bg 62 62 ((q.left.M.getD 0 zE).M.getD 1 zE)=true):=by
 have h2:=Ka ht (.inl h);have h3:=sD ht 0 (by omega);refine⟨h2,h3,λ hk=>?_⟩;have h4:=Ka h3 (.inl hk);exact⟨h4,sD h3 1 (by omega)⟩
def O9:aL.Good uV:=NA.plain
def II:aL:=⟨Jb,[.v (.st .proof), .v (.int .i64), .v (.int .i64)],λ (p:aj) (k:Int) (u:Int)=>⟨(some (u<=23 /\ -40<=u/\0<=k/\k<=(p.af.length:Int)),[⟨(.st .equation),dv p k u⟩,⟨.bool,oY k u⟩])⟩⟩
def Wu(p:aj)(k:Int)(u:Int):Nat->az:=bI
def Pf:aL.Good II:=by
 refine⟨ar FK,?_⟩;intro (p:aj) (k:Int) (u:Int) (hp:u<=23 /\ -40<=u/\0<=k/\k<=(p.af.length:Int));refine aV [uV] [] [] [3] ⟨O9,ae⟩ FK OD (Wu p k u) (let v1:=(-1:Int) - u;let v0:=p.af.getD (Int.toNat v1) (ag.mk zE zE (0:Int) (0:Int) []);((((decide ((0:Int)<=u))=true->((GU).length<=140737488355328->(ak u (GU).length/\((lL ((GU).getD (Int.toNat u) (au.mk zE zE)))=(dv p k u)/\true=(oY k u)))))/\((decide ((0:Int)<=u))=false->(O v1/\(((decide (k<=v1))=true->((au.mk zE zE)=(dv p k u)/\false=(oY k u)))/\((decide (k<=v1))=false->(p.af.length<=140737488355328->(O v1/\(ak v1 p.af.length/\((au.mk (aI v0.left) (aI v0.right))=(dv p k u)/\true=(oY k u)))))))))))) ?_;refine⟨λ _ _=>⟨?_,?_,?_⟩,λ _=>⟨?_,λ _=>⟨?_,?_⟩,λ _ _=>⟨?_,?_,?_,?_⟩⟩⟩;all_goals try and_intros
 all_goals try (first|with_reducible rfl|with_reducible assumption)
 all_goals try simp only[J.eta,ag.eta,au.eta,aJ,bm,bH] at *
 all_goals first|with_reducible rfl|with_reducible assumption|exact True.intro|(simp only[b3D,b3C,b3B,b3z] at *;done)|((try simp only[b3Y,J.eta,b3v,b3u,b3B,b3z,b3I,b3Q,ak,O,aY,b3J,b3G,b3T,b3M,b3R] at *);first|exact True.intro|omega|((first|have Q:=a8i (p:=p) (k:=k) (u:=u) (by omega)|have Q:=a8j (p:=p) (k:=k) (u:=u) (by omega) (by omega)|have Q:=a8k (p:=p) (k:=k) (u:=u) (by omega) (by omega));first|exact Q.1|exact Q.2|exact Q.1.symm|exact Q.2.symm)|(have:=Vf;omega))
def F5:aL:=⟨GA,[.v (.st .equation)],λ (q:au)=>⟨(some (bg 62 62 q.left=true),[⟨(.st .expr),Us q⟩,⟨(.st .expr),Aa q⟩,⟨(.st .expr),NV q⟩,⟨.bool,pE q⟩])⟩⟩
def TJ(q:au):Nat->az:=bI
abbrev qc(q:au):Prop:=(zE=(Us q)/\(zE=(Aa q)/\(zE=(NV q)/\false=(pE q))))
abbrev qd(q:au):Prop:=(let v0:=q.left.M.getD 0 zE;let v1:=v0.M.getD 1 zE;let v2:=v0.M.getD 0 zE;let v3:=(0:Int);(q.left.M.length<=140737488355328 ->
 (ak v3 q.left.M.length/\(v0.M.length<=140737488355328 ->
 (ak v3 v0.M.length/\(q.left.M.length<=140737488355328 ->
 (ak v3 q.left.M.length/\(v0.M.length<=140737488355328 ->
 (ak (1:Int) v0.M.length/\(q.left=q.left/\(q.left.M=q.left.M/\(q.left.M=q.left.M/\(ak v3 q.left.M.length/\(v0=v0/\(v0.M=v0.M/\(v0.M=v0.M/\(ak v3 v0.M.length/\(v2=v2/\(v2=v2/\(q.left=q.left/\(q.left.M=q.left.M/\(q.left.M=q.left.M/\(ak v3 q.left.M.length/\(v0=v0/\(v0.M=v0.M/\(v0.M=v0.M/\(ak (1:Int) v0.M.length/\(v1=v1/\(v1=v1/\(q.right=q.right/\(q.right=q.right/\(q.left=q.left/\(q.left.M=q.left.M/\(q.left.M=q.left.M/\(ak v3 q.left.M.length/\(v0=v0/\(v0.M=v0.M/\(v0.M=v0.M/\(ak (1:Int) v0.M.length/\(v1=v1/\(v1=v1/\(q.right=q.right/\(q.right=q.right/\(q.right=q.right/\(q.right=q.right/\((aI v2)=(Us q)/\((aI v1)=(Aa q)/\((aI q.right)=(NV q)/\true=(pE q)))))))))))))))))))))))))))))))))))))))))))))))))
abbrev AL(q:au):Prop:=(let v0 := !(bF (q.left.M.getD 1 zE) q.right);(q.left.M.length<=140737488355328 ->
 ((v0=true ->
 (qc q))/\(v0=false ->
 (qd q)))))
def MD:aL.Good F5:=by
 refine⟨ar Cy,?_⟩;intro (q:au) (hp:bg 62 62 q.left=true);refine aV [jt] [] [] [1] ⟨jc,ae⟩ Cy L6 (TJ q) (let v0:=q.left.M.getD 0 zE;let v1 := !(decide (q.left.aq=(6:Int)));let v2 := !(decide (v0.aq=(6:Int)));(((v1=false->(ak (0:Int) q.left.M.length/\((v2=false->(ak (1:Int) q.left.M.length/\(O q.left.aq->(q.left.M.length<=140737488355328->(O v0.aq->(AL q))))))/\(v2=(!false)->(O q.left.aq->(q.left.M.length<=140737488355328->(O v0.aq->((true=true->(qc q))/\(true=false->(qd q))))))))))/\(v1=(!false)->((true=false->(ak (1:Int) q.left.M.length/\(O q.left.aq->(AL q))))/\(true=(!false)->(O q.left.aq->((true=true->(qc q))/\(true=false->(qd q)))))))))) ?_;refine⟨λ _=>⟨?_,λ _=>⟨?_,λ _ _ _ _=>⟨λ _=>⟨?_,?_,?_,?_⟩,λ _ _=>⟨?_,λ _=>⟨?_,λ _=>⟨?_,λ _=>⟨?_,rfl,rfl,rfl,?_,rfl,rfl,rfl,?_,rfl,rfl,rfl,rfl,rfl,?_,rfl,rfl,rfl,?_,rfl,rfl,rfl,rfl,rfl,rfl,rfl,?_,rfl,rfl,rfl,?_,rfl,rfl,rfl,rfl,rfl,rfl,?_,?_,?_,?_⟩⟩⟩⟩⟩⟩,λ _ _ _ _=>⟨λ _=>⟨?_,?_,?_,?_⟩,λ _ _=>⟨?_,λ _=>⟨?_,λ _=>⟨?_,λ _=>⟨?_,rfl,rfl,rfl,?_,rfl,rfl,rfl,?_,rfl,rfl,rfl,rfl,rfl,?_,rfl,rfl,rfl,?_,rfl,rfl,rfl,rfl,rfl,rfl,rfl,?_,rfl,rfl,rfl,?_,rfl,rfl,rfl,rfl,rfl,rfl,?_,?_,?_,?_⟩⟩⟩⟩⟩⟩,λ _=>⟨λ _=>⟨?_,λ _ _=>⟨λ _=>⟨?_,?_,?_,?_⟩,λ _ _=>⟨?_,λ _=>⟨?_,λ _=>⟨?_,λ _=>⟨?_,rfl,rfl,rfl,?_,rfl,rfl,rfl,?_,rfl,rfl,rfl,rfl,rfl,?_,rfl,rfl,rfl,?_,rfl,rfl,rfl,rfl,rfl,rfl,rfl,?_,rfl,rfl,rfl,?_,rfl,rfl,rfl,rfl,rfl,rfl,?_,?_,?_,?_⟩⟩⟩⟩⟩⟩,λ _ _=>⟨λ _=>⟨?_,?_,?_,?_⟩,λ _ _=>⟨?_,λ _=>⟨?_,λ _=>⟨?_,λ _=>⟨?_,rfl,rfl,rfl,?_,rfl,rfl,rfl,?_,rfl,rfl,rfl,rfl,rfl,?_,rfl,rfl,rfl,?_,rfl,rfl,rfl,rfl,rfl,rfl,rfl,?_,rfl,rfl,rfl,?_,rfl,rfl,rfl,rfl,rfl,rfl,?_,?_,?_,?_⟩⟩⟩⟩⟩⟩⟩;all_goals try and_intros
 all_goals try (first|with_reducible rfl|with_reducible assumption)
 all_goals try simp only[J.eta,ag.eta,au.eta,aJ,bm,bH] at *
 all_goals first|with_reducible rfl|with_reducible assumption|exact True.intro|(simp only[b3D,b3C,b3B,b3z] at *;done)|((try simp only[b3Y,J.eta,b3v,b3u,b3B,b3z,b3I,b3Q,ak,O,aY,b3J,b3G,b3T,b3M,b3R] at *);first|exact True.intro|omega|(have h:=Xt hp (by with_reducible assumption);have h2:=h.1;first|omega|(have h3:=(h.2.2 (by with_reducible assumption)).1;omega))|((first|have Q:=a3P (q:=q) (a7S (by with_reducible assumption))|have Q:=a3P (q:=q) (a7T (by with_reducible assumption))|have Q:=a3P (q:=q) (a7U (by with_reducible assumption))|have Q:=Qz (q:=q) (a7V (by with_reducible assumption) (by with_reducible assumption) (by with_reducible assumption)));first|exact Q.1|exact Q.1.symm|exact Q.2.1|exact Q.2.1.symm|exact Q.2.2|exact Q.2.2.symm)|((first|have Q:=a7S (q:=q) (by with_reducible assumption)|have Q:=a7T (q:=q) (by with_reducible assumption)|have Q:=a7U (q:=q) (by with_reducible assumption)|have Q:=a7V (q:=q) (by with_reducible assumption) (by with_reducible assumption) (by with_reducible assumption));first|exact Q|exact Q.symm))
structure QP(p:aj)(k:Int)(e:J)(s:U):Prop where
 v:mo p
 k0:0<=k
 k1:k<=(p.af.length:Int)
 e:cD p.sig e=true
 s:mi p.sig s=true
def QP.u{p:aj}{k:Int}{e:J}{s:U}(h:QP p k e s):(-40<=s.use/\s.use<=23)/\s.path.length<=40/\s.av.length<=3/\s.bd.length<=4/\bp (cD p.sig) s.av=true/\bp (cD p.sig) s.bd=true:=by
 have:=h.s;simp only[mi,b3A,b3v] at this;have h1:=this.1.1.1.1.1.1.2;have h2:=this.1.1.1.1.2;have h3:=this.1.1.1.2;exact⟨this.1.1.1.1.1.1.1,by omega,by omega,by omega,this.1.1.2,this.2⟩
def QP.fl{p:aj}{k:Int}{e:J}{s:U}(h:QP p k e s):N8 s.av s.bd :=
 ⟨λ y hy=>E8 p.sig y (xb _ _ h.u.2.2.2.2.1 y hy),λ y hy=>E8 p.sig y (xb _ _ h.u.2.2.2.2.2 y hy)⟩
def Ih{q:au}{s:U}(h1:(cu [q.left,q.right]).1=(s.av.length:Int))(h2:(cu [q.left,q.right]).2=(s.bd.length:Int)):gb s.av s.bd q.left/\gb s.av s.bd q.right:=by
 simp only[cu] at h1 h2;exact⟨⟨by omega,by omega⟩,⟨by omega,by omega⟩⟩
def a0O{p:aj}{k:Int}{e:J}{s:U}{c:Int}(h:iQ p k e s=c)(hc:c≠0):kx p k e s=J.mk (0:Int) (0:Int) []/\iQ p k e s=c:=⟨by unfold kx;rw[if_neg (by rw[h];exact hc)],h⟩
def a4c{p:aj}{k:Int}{e:J}{s:U}(h:oY k s.use=false\/eC e s.path=false):kx p k e s=J.mk (0:Int) (0:Int) []/\iQ p k e s=2:=by
 refine a0O ?_ (by decide);unfold iQ;rcases h with h|h<;>rw[h]<;>simp
def a4d{p:aj}{k:Int}{e:J}{s:U}(h:ZI (dv p k s.use) s=false):kx p k e s=J.mk (0:Int) (0:Int) []/\iQ p k e s=2:=by
 refine a0O ?_ (by decide);unfold iQ;rw[h];cases oY k s.use&&eC e s.path<;>rfl
def a6o{q:au}{s:U}(h:¬ (cu [q.left,q.right]).1=(s.av.length:Int)):ZI q s=false:=by unfold ZI;rw[decide_eq_false h];rfl
def a6p{q:au}{s:U}(h:¬ (cu [q.left,q.right]).2=(s.bd.length:Int)):ZI q s=false:=by unfold ZI;rw[decide_eq_false h,Bool.and_false]
structure zH(p:aj)(k:Int)(e:J)(s:U):Prop where
 u:oY k s.use=true
 n:eC e s.path=true
 t:(cu [(dv p k s.use).left,(dv p k s.use).right]).1=(s.av.length:Int)
 a:(cu [(dv p k s.use).left,(dv p k s.use).right]).2=(s.bd.length:Int)
def zH.c{p:aj}{k:Int}{e:J}{s:U}(h:zH p k e s):iQ p k e s=bif !U2 p.sig (dv p k s.use) s then 3 else bif !bF (dN e s.path) (apX (dv p k s.use) s) then 6 else pD p.sig e s.path (U3 (dv p k s.use) s):=by
 unfold iQ;rw[h.u,h.n,show ZI (dv p k s.use) s=true by unfold ZI;rw[decide_eq_true h.t,decide_eq_true h.a];rfl];rfl
def JX{gg:aU}{x:J}{ts as_:List J}(h:qb gg x ts as_=0):cD gg (dr ts as_ x)=true/\wj gg x ts as_=dr ts as_ x:=by
 cases hb:cD gg (dr ts as_ x) with
 | true=>exact⟨rfl,(a0j hb).1⟩
 | false=>rw[(a3k hb).2] at h;cases h
def a7m{gg:aU}{x:J}{ts as_:List J}(h:¬ qb gg x ts as_=0):cD gg (dr ts as_ x)=false:=by
 cases hb:cD gg (dr ts as_ x) with
 | true=>exact absurd (a0j hb).2 h
 | false=>rfl
def zH.c3{p:aj}{k:Int}{e:J}{s:U}(h:zH p k e s)(h2:¬ qb p.sig (dv p k s.use).left s.av s.bd=0\/¬ qb p.sig (dv p k s.use).right s.av s.bd=0):kx p k e s=J.mk (0:Int) (0:Int) []/\iQ p k e s=3:=by
 refine a0O ?_ (by decide);rw[h.c];unfold U2;rcases h2 with h2|h2<;>rw[a7m h2]<;>simp
def zH.i{p:aj}{k:Int}{e:J}{s:U}(h1:qb p.sig (dv p k s.use).left s.av s.bd=0)(h2:qb p.sig (dv p k s.use).right s.av s.bd=0):U2 p.sig (dv p k s.use) s=true:=by
 unfold U2;rw[(JX h1).1,(JX h2).1];rfl
structure Cn(p:aj)(k:Int)(e:J)(s:U)(x y:J):Prop where
 r:zH p k e s
 i:U2 p.sig (dv p k s.use) s=true
 x:x=apX (dv p k s.use) s
 y:y=U3 (dv p k s.use) s
def zH.s1{p:aj}{k:Int}{e:J}{s:U}(h:zH p k e s)(h1:qb p.sig (dv p k s.use).left s.av s.bd=0)(h2:qb p.sig (dv p k s.use).right s.av s.bd=0)(hb:s.back=true):Cn p k e s (wj p.sig (dv p k s.use).right s.av s.bd) (wj p.sig (dv p k s.use).left s.av s.bd) :=
 ⟨h,zH.i (e:=e) h1 h2,by rw[(JX h2).2];unfold apX;rw[hb];rfl,by rw[(JX h1).2];unfold U3;rw[hb];rfl⟩
def zH.s0{p:aj}{k:Int}{e:J}{s:U}(h:zH p k e s)(h1:qb p.sig (dv p k s.use).left s.av s.bd=0)(h2:qb p.sig (dv p k s.use).right s.av s.bd=0)(hb:s.back=false):Cn p k e s (wj p.sig (dv p k s.use).left s.av s.bd) (wj p.sig (dv p k s.use).right s.av s.bd) :=
 ⟨h,zH.i (e:=e) h1 h2,by rw[(JX h1).2];unfold apX;rw[hb];rfl,by rw[(JX h2).2];unfold U3;rw[hb];rfl⟩
def Cn.c6{p:aj}{k:Int}{e:J}{s:U}{x y:J}(h:Cn p k e s x y)(h2:bF (Jj e s.path) x=false):kx p k e s=J.mk (0:Int) (0:Int) []/\iQ p k e s=6:=by
 refine a0O ?_ (by decide);have e1:Jj e s.path=dN e s.path:=by unfold Jj;rw[h.r.n];rfl
 rw[h.r.c,h.i,<-h.x,<-e1,h2];rfl
def Cn.go{p:aj}{k:Int}{e:J}{s:U}{x y:J}(h:Cn p k e s x y)(h2:bF (Jj e s.path) x=true):kx p k e s=z8 p.sig e s.path y/\iQ p k e s=pD p.sig e s.path y:=by
 have e1:Jj e s.path=dN e s.path:=by unfold Jj;rw[h.r.n];rfl
 have c:iQ p k e s=pD p.sig e s.path y:=by rw[h.r.c,h.i,<-h.x,<-e1,h2,h.y];rfl
 refine⟨?_,c⟩;unfold kx;rw[c,<-h.y];unfold z8 pD;cases eC e s.path<;>cases oS e s.path<;>cases bq y<;>cases cD p.sig (fU y e s.path)<;>rfl
def Cn.c4{p:aj}{k:Int}{e:J}{s:U}{x y:J}(h:Cn p k e s x y)(h2:bF (Jj e s.path) x=true)(h3:Fk e s.path=true)(h4:bq y=false):kx p k e s=J.mk (0:Int) (0:Int) []/\iQ p k e s=4:=by
 have g:=h.go h2;have g2:=a3N (gg:=p.sig) (y:=y) h.r.n h3 h4;rw[g.1,g.2];exact g2
def Cn.sz{p:aj}{k:Int}{e:J}{s:U}{x y:J}(h:Cn p k e s x y):aB y<=1048576:=by
 have:=h.i;rw[U2,Bool.and_eq_true] at this;refine E8 p.sig y ?_;rw[h.y];unfold U3;cases s.back
 .exact this.2
 .exact this.1
def KF:aL.Good qn:=Jp.plain
def oN:aL:=⟨Bi,[.v (.st .proof), .v (.int .i64), .v (.st .expr), .v (.st .proofStep)],λ (p:aj) (k:Int) (e:J) (s:U)=>⟨(some (QP p k e s),[⟨(.st .expr),kx p k e s⟩,⟨(.int .i64),iQ p k e s⟩])⟩⟩
def Ns(p:aj)(k:Int)(e:J)(s:U):Nat->az:=bI
abbrev tp(p:aj)(k:Int)(e:J)(s:U):Prop:=(let v0:=aI (wj p.sig (aI (dv p k s.use).left) s.av s.bd);(s.path.length<=140737488355328 ->
 ((aB e<=1048576/\aB v0<=1048576/\s.path.length<=1000)/\(O (pD p.sig e s.path v0) ->
 ((aI (z8 p.sig e s.path v0))=(kx p k e s)/\(pD p.sig e s.path v0)=(iQ p k e s))))))
abbrev tq(p:aj)(k:Int)(e:J)(s:U):Prop:=(let v0:=aI (wj p.sig (aI (dv p k s.use).right) s.av s.bd);(s.path.length<=140737488355328 ->
 ((aB e<=1048576/\aB v0<=1048576/\s.path.length<=1000)/\(O (pD p.sig e s.path v0) ->
 ((aI (z8 p.sig e s.path v0))=(kx p k e s)/\(pD p.sig e s.path v0)=(iQ p k e s))))))
abbrev tu(p:aj)(k:Int)(e:J)(s:U):Prop:=(let v0:=aI (wj p.sig (aI (dv p k s.use).right) s.av s.bd);let v1:=aI (wj p.sig (aI (dv p k s.use).left) s.av s.bd);let v2:=zE=(kx p k e s)/\(4:Int)=(iQ p k e s);let v3:=aI (Jj e s.path);let v4:=zE=(kx p k e s)/\(6:Int)=(iQ p k e s);let v5:=Fk e s.path;((s.back=true ->
 (((!(bF v3 v0))=true ->
 v4)/\((!(bF v3 v0))=false ->
 ((v5=true ->
 (((!(bq v1))=true ->
 v2)/\((!(bq v1))=false ->
 (tp p k e s))))/\(v5=(!true) ->
 ((false=true ->
 v2)/\(false=false ->
 (tp p k e s))))))))/\(s.back=false ->
 (((!(bF v3 v1))=true ->
 v4)/\((!(bF v3 v1))=false ->
 ((v5=true ->
 (((!(bq v0))=true ->
 v2)/\((!(bq v0))=false ->
 (tq p k e s))))/\(v5=(!true) ->
 ((false=true ->
 v2)/\(false=false ->
 (tq p k e s))))))))))
abbrev tv(p:aj)(k:Int)(e:J)(s:U):Prop:=(let v2:=dv p k s.use;let v1:=qb p.sig (aI v2.left) s.av s.bd;let v3:=zE=(kx p k e s)/\(3:Int)=(iQ p k e s);let v4:=aI v2.right;let v0:=qb p.sig v4 s.av s.bd;(s.av.length<=140737488355328 ->
 (s.bd.length<=140737488355328 ->
 ((gb s.av s.bd (aI v2.left)/\bg 62 62 (aI v2.left)=true/\N8 s.av s.bd/\s.av.length<=1000/\s.bd.length<=1000)/\(O v1 ->
 (s.av.length<=140737488355328 ->
 (s.bd.length<=140737488355328 ->
 ((gb s.av s.bd v4/\bg 62 62 v4=true/\N8 s.av s.bd/\s.av.length<=1000/\s.bd.length<=1000)/\(O v0 ->
 (((!(decide (v1=(0:Int))))=false ->
 (((!(decide (v0=(0:Int))))=true ->
 v3)/\((!(decide (v0=(0:Int))))=false ->
 (tu p k e s))))/\((!(decide (v1=(0:Int))))=(!false) ->
 ((true=true ->
 v3)/\(true=false ->
 (tu p k e s))))))))))))))
abbrev tw(p:aj)(k:Int)(e:J)(s:U):Prop:=(let v1:=lL (dv p k s.use);let v0:=cu [v1.left,v1.right];let v2:=zE=(kx p k e s)/\(2:Int)=(iQ p k e s);let v3 := !(decide ((v0.1)=((s.av.length:Int))));let v4 := !(decide ((v0.2)=((s.bd.length:Int))));((bg 62 62 v1.left=true/\bg 62 62 v1.right=true)/\(O (v0.1) ->
 (O (v0.2) ->
 (s.av.length<=140737488355328 ->
 (O ((s.av.length:Int)) ->
 ((v3=false ->
 (s.bd.length<=140737488355328 ->
 (O ((s.bd.length:Int)) ->
 ((v4=true ->
 v2)/\(v4=false ->
 (tv p k e s))))))/\(v3=(!false) ->
 ((true=true ->
 v2)/\(true=false ->
 (tv p k e s)))))))))))
def Hx:aL.cS oN:=by
 refine⟨ar xo,?_⟩;intro (p:aj) (k:Int) (e:J) (s:U) (hp:QP p k e s);refine bX [II,yJ,IE,qn,jt,fh] [yQ] [] [] [115] [] [] [4,6,7] ⟨Pf,AD,Pa,KF,jc,gu,ae⟩ ⟨HA,ae⟩ trivial trivial xo HR (Ns p k e s) (let v0:=zE=(kx p k e s)/\(2:Int)=(iQ p k e s);((O s.use->((s.use<=23 /\ -40<=s.use/\0<=k/\k<=(p.af.length:Int))/\(s.path.length<=140737488355328->(((!(oY k s.use))=false->(((!(eC e s.path))=true->v0)/\((!(eC e s.path))=false->(tw p k e s))))/\((!(oY k s.use))=(!false)->((true=true->v0)/\(true=false->(tw p k e s)))))))))) ?_;refine λ _=>⟨?_,λ _=>⟨λ _=>⟨λ _=>⟨?_,?_⟩,λ _=>⟨?_,λ _ _ _ _=>⟨λ _ _ _=>⟨λ _=>⟨?_,?_⟩,λ _ _ _=>⟨?_,λ _ _ _=>⟨?_,λ _=>⟨λ _=>⟨λ _=>⟨?_,?_⟩,λ _=>⟨λ _=>⟨λ _=>⟨?_,?_⟩,λ _=>⟨λ _=>⟨λ _=>⟨?_,?_⟩,λ _ _=>⟨?_,λ _=>⟨?_,?_⟩⟩⟩,λ _=>⟨λ _=>⟨?_,?_⟩,λ _ _=>⟨?_,λ _=>⟨?_,?_⟩⟩⟩⟩⟩,λ _=>⟨λ _=>⟨?_,?_⟩,λ _=>⟨λ _=>⟨λ _=>⟨?_,?_⟩,λ _ _=>⟨?_,λ _=>⟨?_,?_⟩⟩⟩,λ _=>⟨λ _=>⟨?_,?_⟩,λ _ _=>⟨?_,λ _=>⟨?_,?_⟩⟩⟩⟩⟩⟩⟩,λ _=>⟨λ _=>⟨?_,?_⟩,λ _=>⟨λ _=>⟨λ _=>⟨?_,?_⟩,λ _=>⟨λ _=>⟨λ _=>⟨?_,?_⟩,λ _ _=>⟨?_,λ _=>⟨?_,?_⟩⟩⟩,λ _=>⟨λ _=>⟨?_,?_⟩,λ _ _=>⟨?_,λ _=>⟨?_,?_⟩⟩⟩⟩⟩,λ _=>⟨λ _=>⟨?_,?_⟩,λ _=>⟨λ _=>⟨λ _=>⟨?_,?_⟩,λ _ _=>⟨?_,λ _=>⟨?_,?_⟩⟩⟩,λ _=>⟨λ _=>⟨?_,?_⟩,λ _ _=>⟨?_,λ _=>⟨?_,?_⟩⟩⟩⟩⟩⟩⟩⟩⟩⟩⟩,λ _=>⟨λ _=>⟨?_,?_⟩,λ _ _ _=>⟨?_,λ _ _ _=>⟨?_,λ _=>⟨λ _=>⟨λ _=>⟨?_,?_⟩,λ _=>⟨λ _=>⟨λ _=>⟨?_,?_⟩,λ _=>⟨λ _=>⟨λ _=>⟨?_,?_⟩,λ _ _=>⟨?_,λ _=>⟨?_,?_⟩⟩⟩,λ _=>⟨λ _=>⟨?_,?_⟩,λ _ _=>⟨?_,λ _=>⟨?_,?_⟩⟩⟩⟩⟩,λ _=>⟨λ _=>⟨?_,?_⟩,λ _=>⟨λ _=>⟨λ _=>⟨?_,?_⟩,λ _ _=>⟨?_,λ _=>⟨?_,?_⟩⟩⟩,λ _=>⟨λ _=>⟨?_,?_⟩,λ _ _=>⟨?_,λ _=>⟨?_,?_⟩⟩⟩⟩⟩⟩⟩,λ _=>⟨λ _=>⟨?_,?_⟩,λ _=>⟨λ _=>⟨λ _=>⟨?_,?_⟩,λ _=>⟨λ _=>⟨λ _=>⟨?_,?_⟩,λ _ _=>⟨?_,λ _=>⟨?_,?_⟩⟩⟩,λ _=>⟨λ _=>⟨?_,?_⟩,λ _ _=>⟨?_,λ _=>⟨?_,?_⟩⟩⟩⟩⟩,λ _=>⟨λ _=>⟨?_,?_⟩,λ _=>⟨λ _=>⟨λ _=>⟨?_,?_⟩,λ _ _=>⟨?_,λ _=>⟨?_,?_⟩⟩⟩,λ _=>⟨λ _=>⟨?_,?_⟩,λ _ _=>⟨?_,λ _=>⟨?_,?_⟩⟩⟩⟩⟩⟩⟩⟩⟩⟩⟩⟩⟩⟩,λ _=>⟨λ _=>⟨?_,?_⟩,λ _=>⟨?_,λ _ _ _ _=>⟨λ _ _ _=>⟨λ _=>⟨?_,?_⟩,λ _ _ _=>⟨?_,λ _ _ _=>⟨?_,λ _=>⟨λ _=>⟨λ _=>⟨?_,?_⟩,λ _=>⟨λ _=>⟨λ _=>⟨?_,?_⟩,λ _=>⟨λ _=>⟨λ _=>⟨?_,?_⟩,λ _ _=>⟨?_,λ _=>⟨?_,?_⟩⟩⟩,λ _=>⟨λ _=>⟨?_,?_⟩,λ _ _=>⟨?_,λ _=>⟨?_,?_⟩⟩⟩⟩⟩,λ _=>⟨λ _=>⟨?_,?_⟩,λ _=>⟨λ _=>⟨λ _=>⟨?_,?_⟩,λ _ _=>⟨?_,λ _=>⟨?_,?_⟩⟩⟩,λ _=>⟨λ _=>⟨?_,?_⟩,λ _ _=>⟨?_,λ _=>⟨?_,?_⟩⟩⟩⟩⟩⟩⟩,λ _=>⟨λ _=>⟨?_,?_⟩,λ _=>⟨λ _=>⟨λ _=>⟨?_,?_⟩,λ _=>⟨λ _=>⟨λ _=>⟨?_,?_⟩,λ _ _=>⟨?_,λ _=>⟨?_,?_⟩⟩⟩,λ _=>⟨λ _=>⟨?_,?_⟩,λ _ _=>⟨?_,λ _=>⟨?_,?_⟩⟩⟩⟩⟩,λ _=>⟨λ _=>⟨?_,?_⟩,λ _=>⟨λ _=>⟨λ _=>⟨?_,?_⟩,λ _ _=>⟨?_,λ _=>⟨?_,?_⟩⟩⟩,λ _=>⟨λ _=>⟨?_,?_⟩,λ _ _=>⟨?_,λ _=>⟨?_,?_⟩⟩⟩⟩⟩⟩⟩⟩⟩⟩⟩,λ _=>⟨λ _=>⟨?_,?_⟩,λ _ _ _=>⟨?_,λ _ _ _=>⟨?_,λ _=>⟨λ _=>⟨λ _=>⟨?_,?_⟩,λ _=>⟨λ _=>⟨λ _=>⟨?_,?_⟩,λ _=>⟨λ _=>⟨λ _=>⟨?_,?_⟩,λ _ _=>⟨?_,λ _=>⟨?_,?_⟩⟩⟩,λ _=>⟨λ _=>⟨?_,?_⟩,λ _ _=>⟨?_,λ _=>⟨?_,?_⟩⟩⟩⟩⟩,λ _=>⟨λ _=>⟨?_,?_⟩,λ _=>⟨λ _=>⟨λ _=>⟨?_,?_⟩,λ _ _=>⟨?_,λ _=>⟨?_,?_⟩⟩⟩,λ _=>⟨λ _=>⟨?_,?_⟩,λ _ _=>⟨?_,λ _=>⟨?_,?_⟩⟩⟩⟩⟩⟩⟩,λ _=>⟨λ _=>⟨?_,?_⟩,λ _=>⟨λ _=>⟨λ _=>⟨?_,?_⟩,λ _=>⟨λ _=>⟨λ _=>⟨?_,?_⟩,λ _ _=>⟨?_,λ _=>⟨?_,?_⟩⟩⟩,λ _=>⟨λ _=>⟨?_,?_⟩,λ _ _=>⟨?_,λ _=>⟨?_,?_⟩⟩⟩⟩⟩,λ _=>⟨λ _=>⟨?_,?_⟩,λ _=>⟨λ _=>⟨λ _=>⟨?_,?_⟩,λ _ _=>⟨?_,λ _=>⟨?_,?_⟩⟩⟩,λ _=>⟨λ _=>⟨?_,?_⟩,λ _ _=>⟨?_,λ _=>⟨?_,?_⟩⟩⟩⟩⟩⟩⟩⟩⟩⟩⟩⟩⟩⟩⟩⟩;all_goals try and_intros
 all_goals try (first|with_reducible rfl|with_reducible assumption)
 all_goals try simp only[J.eta,ag.eta,au.eta,aJ,bm,bH] at *
 all_goals first|with_reducible rfl|with_reducible assumption|exact True.intro|(simp only[b3D,b3C,b3B,b3z] at *;done)|((try simp only[b3Y,J.eta,b3v,b3u,b3B,b3z,b3I,b3Q,ak,O,aY,b3J,b3G,b3T,b3M,b3R] at *);first|exact True.intro|omega|exact hp.u.1.1|exact hp.u.1.2|exact hp.k0|exact hp.k1|exact hp.fl|(have:=hp.u;omega)|exact E8 _ _ hp.e|exact (JL hp.v hp.k1 hp.u.1.2 (by with_reducible assumption)).1|exact (JL hp.v hp.k1 hp.u.1.2 (by with_reducible assumption)).2|((first|have Q:=a4c (p:=p) (k:=k) (e:=e) (s:=s) (.inl (by with_reducible assumption))|have Q:=a4c (p:=p) (k:=k) (e:=e) (s:=s) (.inr (by with_reducible assumption))|have Q:=a4d (p:=p) (k:=k) (e:=e) (s:=s) (a6o (by omega))|have Q:=a4d (p:=p) (k:=k) (e:=e) (s:=s) (a6p (by omega)));first|exact Q.1|exact Q.2|exact Q.1.symm|exact Q.2.symm)|(have A:zH p k e s:=⟨(by with_reducible assumption),(by with_reducible assumption),by omega,by omega⟩;first|exact (Ih A.t A.a).1|exact (Ih A.t A.a).2|((first|have Q:=(A.c3 (.inl (by with_reducible assumption)))|have Q:=(A.c3 (.inr (by with_reducible assumption))));first|exact Q.1|exact Q.2|exact Q.1.symm|exact Q.2.symm)|(have B:=A.s1 (by with_reducible assumption) (by with_reducible assumption) (by with_reducible assumption);first|exact B.sz|((first|have Q:=(B.c6 (by with_reducible assumption))|have Q:=(B.c4 (by with_reducible assumption) (by with_reducible assumption) (by with_reducible assumption))|have Q:=(B.go (by with_reducible assumption)));first|exact Q.1|exact Q.2|exact Q.1.symm|exact Q.2.symm))|(have B:=A.s0 (by with_reducible assumption) (by with_reducible assumption) (by with_reducible assumption);first|exact B.sz|((first|have Q:=(B.c6 (by with_reducible assumption))|have Q:=(B.c4 (by with_reducible assumption) (by with_reducible assumption) (by with_reducible assumption))|have Q:=(B.go (by with_reducible assumption)));first|exact Q.1|exact Q.2|exact Q.1.symm|exact Q.2.symm)))|exact (Ih (by omega) (by omega)).1|exact (Ih (by omega) (by omega)).2)
end
end Go.Proofs.YtmjfpcajohhbeaaGreatDoor

set_option maxRecDepth 4000
set_option maxHeartbeats 4000000
namespace Go.Proofs.YtmjfpcajohhbeaaGreatDoor
noncomputable section
structure InQ(c f:ag):Prop where
 c1:bg 62 62 c.left=true
 f1:bg 62 62 f.left=true
 f2:bg 62 62 f.right=true
abbrev fQ(f:ag):au:=au.mk f.left f.right
def InQ.x{c f:ag}(h:InQ c f)(h2:pE (au.mk f.left f.right)=true)(h3:(Aa (au.mk f.left f.right)).aq=7):(Aa (au.mk f.left f.right)).M.length=2:=by
 have e:=(Qz h2).2.1;rw[e] at h3 ⊢;unfold pE at h2;simp only[Bool.and_eq_true,decide_eq_true_eq] at h2;exact Ka ((Xt (q:=fQ f) h.f1 h2.1.1).2.2 h2.1.2).2 (.inr h3)
def in_1{c f:ag}(h:pE (au.mk f.left f.right)=false):uR c f=false:=by unfold uR;rw[h];rfl
def a9R{c f:ag}(h:¬ (Aa (au.mk f.left f.right)).aq=7):uR c f=false:=by unfold uR;rw[decide_eq_false h,Bool.and_false];rfl
def b2x{c f:ag}(h:pE (au.mk f.left f.right)=true)(h3:(Aa (au.mk f.left f.right)).aq=7)(h2:c.aH=2):uR c f=(bF ((Aa (au.mk f.left f.right)).M.getD 1 zE) (NV (au.mk f.left f.right))&&(bF c.left (J.mk 6 0 [J.mk 7 0 [J.mk 8 0 [(Aa (au.mk f.left f.right)).M.getD 0 zE],Us (au.mk f.left f.right)],NV (au.mk f.left f.right)])&&bF c.right (NV (au.mk f.left f.right)))):=by
 have e:=(Qz h).2.2;unfold uR a4y inW;rw[h,decide_eq_true h3,if_pos h2,if_pos h2,e];simp only[Bool.true_and,Bool.and_assoc]
def b2y{c f:ag}(h:pE (au.mk f.left f.right)=true)(h3:(Aa (au.mk f.left f.right)).aq=7)(h2:¬ c.aH=2):uR c f=(bF ((Aa (au.mk f.left f.right)).M.getD 0 zE) (NV (au.mk f.left f.right))&&(bF c.left (J.mk 6 0 [J.mk 7 0 [Us (au.mk f.left f.right),J.mk 8 0 [(Aa (au.mk f.left f.right)).M.getD 1 zE]],NV (au.mk f.left f.right)])&&bF c.right (NV (au.mk f.left f.right)))):=by
 have e:=(Qz h).2.2;unfold uR a4y inW;rw[h,decide_eq_true h3,if_neg h2,if_neg h2,e];simp only[Bool.true_and,Bool.and_assoc]
def Dw:aL:=⟨D0,[.v (.st .claim), .v (.st .claim)],λ (c:ag) (f:ag)=>⟨(some (InQ c f),[⟨.bool,uR c f⟩])⟩⟩
def RA(c:ag)(f:ag):Nat->az:=bI
abbrev yv(c:ag)(f:ag):Prop:=((false=true ->
 (bF c.right (aI (NV (au.mk (aI f.left) (aI f.right)))))=(uR c f))/\(false=(!true) ->
 false=(uR c f)))
abbrev yw(c:ag)(f:ag):Prop:=(let v0:=au.mk (aI f.left) (aI f.right);let v3:=aI (NV v0);let v4:=Aa v0;let v5:=v4.M.getD 1 zE;let v2:=bF c.left (J.mk (6:Int) 0 ([(aI (J.mk (7:Int) 0 ([(aI (Us v0)),(J.mk (8:Int) 0 ([v5]))]))),v3]));let v6:=v4.M.getD 0 zE;let v1:=bF c.left (J.mk (6:Int) 0 ([(aI (J.mk (7:Int) 0 ([(J.mk (8:Int) 0 ([v6])),(aI (Us v0))]))),v3]));(O c.aH ->
 (((decide (c.aH=(2:Int)))=true ->
 (ak (1:Int) v4.M.length/\(v4.M.length<=140737488355328 ->
 (ak (0:Int) v4.M.length/\(v4.M.length<=140737488355328 ->
 (((bF v5 v3)=true ->
 ((v1=true ->
 (bF c.right v3)=(uR c f))/\(v1=(!true) ->
 false=(uR c f))))/\((bF v5 v3)=(!true) ->
 (yv c f))))))))/\((decide (c.aH=(2:Int)))=false ->
 (ak (0:Int) v4.M.length/\(v4.M.length<=140737488355328 ->
 (ak (1:Int) v4.M.length/\(v4.M.length<=140737488355328 ->
 (((bF v6 v3)=true ->
 ((v2=true ->
 (bF c.right v3)=(uR c f))/\(v2=(!true) ->
 false=(uR c f))))/\((bF v6 v3)=(!true) ->
 (yv c f)))))))))))
def KE:aL.Good Dw:=by
 refine⟨ar Ak,?_⟩;intro (c:ag) (f:ag) (hp:InQ c f);refine aV [F5,E9,jt] [] [] [2,3,42,45,58,60,68] ⟨MD,FW,jc,ae⟩ Ak Kk (RA c f) (let v0:=au.mk (aI f.left) (aI f.right);let v1 := !(decide ((Aa v0).aq=(7:Int)));((bg 62 62 v0.left=true/\(((!(pE v0))=false->(O (Aa v0).aq->((v1=true->false=(uR c f))/\(v1=false->(yw c f)))))/\((!(pE v0))=(!false)->((true=true->false=(uR c f))/\(true=false->(yw c f)))))))) ?_;refine⟨?_,λ _ _=>⟨λ _=>?_,λ _ _=>⟨λ _=>⟨?_,λ _=>⟨?_,λ _=>⟨λ _=>⟨λ _=>?_,λ _=>?_⟩,λ _=>⟨λ _=>?_,λ _=>?_⟩⟩⟩⟩,λ _=>⟨?_,λ _=>⟨?_,λ _=>⟨λ _=>⟨λ _=>?_,λ _=>?_⟩,λ _=>⟨λ _=>?_,λ _=>?_⟩⟩⟩⟩⟩⟩,λ _=>⟨λ _=>?_,λ _ _=>⟨λ _=>⟨?_,λ _=>⟨?_,λ _=>⟨λ _=>⟨λ _=>?_,λ _=>?_⟩,λ _=>⟨λ _=>?_,λ _=>?_⟩⟩⟩⟩,λ _=>⟨?_,λ _=>⟨?_,λ _=>⟨λ _=>⟨λ _=>?_,λ _=>?_⟩,λ _=>⟨λ _=>?_,λ _=>?_⟩⟩⟩⟩⟩⟩⟩;all_goals try and_intros
 all_goals try (first|with_reducible rfl|with_reducible assumption)
 all_goals try simp only[J.eta,ag.eta,au.eta,aJ,bm,bH] at *
 all_goals first|with_reducible rfl|with_reducible assumption|exact True.intro|(simp only[b3D,b3C,b3B,b3z] at *;done)|((try simp only[b3Y,J.eta,b3v,b3u,b3B,b3z,b3I,b3Q,ak,O,aY,b3J,b3G,b3T,b3M,b3R] at *);first|exact True.intro|omega|exact hp.f1|(have:=hp.x (by with_reducible assumption) (by with_reducible assumption);omega)|exact in_1 (by with_reducible assumption)|exact (in_1 (by with_reducible assumption)).symm|exact a9R (by with_reducible assumption)|exact (a9R (by with_reducible assumption)).symm|(rw[b2x (by with_reducible assumption) (by with_reducible assumption) (by with_reducible assumption)];simp only[*,b5f,b4F,b4U,b4P];done)|(rw[b2y (by with_reducible assumption) (by with_reducible assumption) (by with_reducible assumption)];simp only[*,b5f,b4F,b4U,b4P];done))
def a6n{p:aj}{k:Int}{e:J}{s:U}(h:iQ p k e s=0):cD p.sig (kx p k e s)=true:=by
 unfold kx;rw[if_pos h];unfold iQ at h;cases h1 : !(oY k s.use&&eC e s.path)<;>rw[h1] at h
 .cases h2 : !ZI (dv p k s.use) s<;>rw[h2] at h
  .cases h3 : !U2 p.sig (dv p k s.use) s<;>rw[h3] at h
   .cases h4 : !bF (dN e s.path) (apX (dv p k s.use) s)<;>rw[h4] at h
    .simp only[cond_false] at h;unfold pD at h;cases h5:eC e s.path<;>rw[h5] at h
     .cases h
     .cases h6:oS e s.path && !bq (U3 (dv p k s.use) s)<;>rw[h6] at h
      .cases h7:cD p.sig (fU (U3 (dv p k s.use) s) e s.path)<;>rw[h7] at h;cases h
      .cases h
    .cases h
   .cases h
  .cases h
 .cases h
structure GS(p:aj)(k:Int):Prop where
 v:mo p
 k0:0<=k
 k1:k<(p.af.length:Int)
def GS.b{p:aj}{k:Int}(h:GS p k):cD p.sig (c7 p k).left=true/\cD p.sig (c7 p k).right=true/\(1<=(c7 p k).aH/\(c7 p k).aH<=3)/\(0<=(c7 p k).ref/\(c7 p k).ref<=39)/\(c7 p k).steps.length<=60/\bp (mi p.sig) (c7 p k).steps=true:=h.v.e h.k0 h.k1
def a0Y(p:aj)(i:Int):p.af.getD i.toNat (ag.mk zE zE (0:Int) (0:Int) [])=c7 p i:=rfl
structure Cs(p:aj)(k:Int)(j:Nat):Prop where
 h:GS p k
 r:(c7 p k).aH=1
 jl:j<=(c7 p k).steps.length
 o:Yi p k j=true
 e:cD p.sig (lG p k j)=true
def JF{p:aj}{k:Int}(h:¬ (c7 p k).aH=1):ic p k=(decide ((c7 p k).ref<k)&&uR (c7 p k) (c7 p (c7 p k).ref)):=by unfold ic;rw[if_neg h]
def GS.i{p:aj}{k:Int}(h:GS p k)(h2:(c7 p k).ref<k):InQ (c7 p k) (c7 p (c7 p k).ref)/\0<=(c7 p k).ref/\(c7 p k).ref<(p.af.length:Int):=by
 have b:=h.b.2.2.2.1;have:=h.k1;exact⟨⟨(h.v.t h.k0 h.k1).1,(h.v.t (i:=(c7 p k).ref) b.1 (by omega)).1,(h.v.t (i:=(c7 p k).ref) b.1 (by omega)).2⟩,b.1,by omega⟩
def GS.z{p:aj}{k:Int}(h:GS p k)(h2:(c7 p k).aH=1):Cs p k 0:=⟨h,h2,b4G _,rfl,h.b.1⟩
def a2e{p:aj}{k:Int}{j:Nat}(h:Yi p k (j+1)=false):∀ n,j<n->Yi p k n=false
 | 0,hn=>by omega
 | n+1,hn=>by
  rcases b4y j n with g|g
  .rw[Yi,a2e h n g];rfl
  .have:j=n:=by omega
   subst this;exact h
def Cs.ap{p:aj}{k:Int}{j:Nat}(h:Cs p k j)(hj:j<(c7 p k).steps.length):QP p k (lG p k j) ((c7 p k).steps.getD j (U.mk (0:Int) false [] [] [])) :=
 ⟨h.h.v,h.h.k0,by have:=h.h.k1;omega,h.e,xl _ _ _ _ h.h.b.2.2.2.2.2 hj⟩
def Cs.no{p:aj}{k:Int}{j:Nat}(h:Cs p k j)(hj:j<(c7 p k).steps.length)(hc:¬ iQ p k (lG p k j) ((c7 p k).steps.getD j (U.mk (0:Int) false [] [] []))=0):ic p k=false:=by
 unfold ic;rw[if_pos h.r,a2e (j:=j) (by rw[Yi,decide_eq_false hc,Bool.and_false]) _ hj];rfl
def Cs.next{p:aj}{k:Int}{j:Nat}(h:Cs p k j)(hj:j<(c7 p k).steps.length)(hc:iQ p k (lG p k j) ((c7 p k).steps.getD j (U.mk (0:Int) false [] [] []))=0):Cs p k (j+1) :=
 ⟨h.h,h.r,hj,by rw[Yi,h.o,b4k hc];rfl,by rw[lG];exact a6n hc⟩
def Cs.end{p:aj}{k:Int}{j:Nat}(h:Cs p k j)(hj:(c7 p k).steps.length<=j):ic p k=bF (lG p k j) (c7 p k).right:=by
 have:(c7 p k).steps.length=j:=by have:=h.jl;omega
 unfold ic;rw[if_pos h.r,this,h.o];rfl
def a9U(p:aj)(k:Int):lG p k 0=(c7 p k).left:=rfl
def a4T(p:aj)(k:Int)(j:Nat):lG p k (j+1)=kx p k (lG p k j) ((c7 p k).steps.getD j (U.mk (0:Int) false [] [] [])):=rfl
structure xj(p:aj)(k:Nat):Prop where
 v:mo p
 kl:k<=p.af.length
 a:Yu (λ k=>ic p (k:Int)) k=true
def xj.zero{p:aj}(h:mo p):xj p 0:=⟨h,b4G _,rfl⟩
def xj.sh{p:aj}{k:Nat}(h:xj p k)(hk:k<p.af.length):GS p (k:Int):=⟨h.v,by omega,by omega⟩
def xj.next{p:aj}{k:Nat}(h:xj p k)(hk:k<p.af.length)(hb:ic p (k:Int)=true):xj p (k+1):=⟨h.v,hk,by rw[Yu,h.a,hb];rfl⟩
def xj.no{p:aj}{k:Nat}(h:xj p k)(hk:k<p.af.length)(hb:ic p (k:Int)=false):(zR p:Int)=(k:Int):=by
 unfold zR;rw[a4q (λ k=>ic p (k:Int)) k h.a hb _ hk]
def xj.end{p:aj}{k:Nat}(h:xj p k)(hk:p.af.length<=k):(zR p:Int)=(p.af.length:Int):=by
 have:k=p.af.length:=by have:=h.kl;omega
 subst this;unfold zR;rw[VL (λ k=>ic p (k:Int)) _ h.a]
def Io:aL.Good oN:=Hx.plain
def F4:aL:=⟨Gz,[.v (.st .proof), .v (.int .i64)],λ (p:aj) (k:Int)=>⟨(some (GS p k),[⟨.bool,ic p k⟩])⟩⟩
def TI(p:aj)(k:Int):Nat->az:=(cP 0 (.a (Nat) (λ j=>Cs p k j) (λ j=>(c7 p k).steps.length - j) [0,11,12,13,14,15,16,17,18,33,34,35] (λ j=>[(38, .aF ⟨(.int .i64),((j:Int):Int)⟩)]) [5] (λ j=>[(6, .box [.aF ⟨(.int .i64),((lG p k j).aq:Int)⟩, .aF ⟨(.int .i64),((lG p k j).aN:Int)⟩, .aF ⟨(.slice (.st .expr)),((lG p k j).M:List J)⟩])])) bI)
abbrev AK(p:aj)(k:Int):Prop:=(let v0:=p.af.getD (Int.toNat k) (ag.mk zE zE (0:Int) (0:Int) []);((v0.left.aq=v0.left.aq/\(v0.left.aN=v0.left.aN/\(v0.left.M=v0.left.M/\(v0.right.aq=v0.right.aq/\(v0.right.aN=v0.right.aN/\(v0.right.M=v0.right.M/\(v0.aH=v0.aH/\(v0.ref=v0.ref/\(v0.steps=v0.steps/\True)))))))))/\True))
def MC:aL.Good F4:=by
 refine⟨ar Cx,?_⟩;intro (p:aj) (k:Int) (hp:GS p k);refine aV [Dw,oN,jt] [] [] [2] ⟨KE,Io,jc,ae⟩ Cx L5 (TI p k) (let v6:=(0:Int);let v1:=U.mk v6 false [] [] [];let v3:=ag.mk zE zE v6 v6 [];let v0:=p.af.getD (Int.toNat k) v3;let v2:=(v0.steps.length:Int);let v4:=p.af.getD (Int.toNat v0.ref) v3;let v5 := !(decide (v0.aH=(1:Int)));((p.af.length<=140737488355328->(ak k p.af.length/\(O v0.aH->((v5=true->(((decide (v0.ref<k))=true->(ak v0.ref p.af.length/\(O v0.ref->(p.af.length<=140737488355328->(O v0.ref->(InQ (kz v0) v4/\(uR (kz v0) v4)=(ic p k)))))))/\((decide (v0.ref<k))=(!true)->(O v0.ref->false=(ic p k)))))/\(v5=false->(v0.steps.length<=140737488355328->(O v2->((∃ j1:Nat,(Cs p k j1/\((k=k/\(p=p/\(True/\(True/\(v0.steps=v0.steps/\(v2=v2/\(v6=(j1:Int)/\True)))))))/\((v0.left.aq=((lG p k j1).aq)/\(v0.left.aN=((lG p k j1).aN)/\(v0.left.M=((lG p k j1).M)/\True)))/\(AK p k)))))/\(∀ j1:Nat,let v7:=J.mk ((lG p k j1).aq) ((lG p k j1).aN) ((lG p k j1).M);let v8:=v0.steps.getD j1 v1;let v9 := !(decide ((iQ p k v7 v8)=v6));(Cs p k j1->(((decide ((j1:Int)<v2))=true->(ak (j1:Int) v0.steps.length/\(QP p k v7 v8/\(O (iQ p k v7 v8)->((v9=true->false=(ic p k))/\(v9=false->(O ((j1:Int)+(1:Int))/\(∃ j2:Nat,(Cs p k j2/\((c7 p k).steps.length - j2<(c7 p k).steps.length - j1/\((k=k/\(p=p/\(True/\(True/\(v0.steps=v0.steps/\(v2=v2/\(((j1:Int)+(1:Int))=(j2:Int)/\True)))))))/\(((kx p k v7 v8).aq=((lG p k j2).aq)/\((kx p k v7 v8).aN=((lG p k j2).aN)/\((kx p k v7 v8).M=((lG p k j2).M)/\True)))/\(AK p k)))))))))))))/\((decide ((j1:Int)<v2))=false->(bF v7 (aI v0.right))=(ic p k))))))))))))))) ?_;refine λ _=>⟨?_,λ _=>⟨λ _=>⟨λ _=>⟨?_,λ _ _ _=>⟨?_,?_⟩⟩,λ _ _=>?_⟩,λ _ _ _=>⟨⟨0,?_,⟨rfl,rfl,ae,ae,rfl,rfl,?_,ae⟩,⟨?_,?_,?_,ae⟩,⟨rfl,rfl,rfl,rfl,rfl,rfl,rfl,rfl,rfl,ae⟩,ae⟩,λ j1 _=>⟨λ _=>⟨?_,?_,λ _=>⟨λ _=>?_,λ _=>⟨?_,j1+1,?_,?_,⟨rfl,rfl,ae,ae,rfl,rfl,?_,ae⟩,⟨?_,?_,?_,ae⟩,⟨rfl,rfl,rfl,rfl,rfl,rfl,rfl,rfl,rfl,ae⟩,ae⟩⟩⟩,λ _=>?_⟩⟩⟩⟩;all_goals try and_intros
 all_goals try (first|with_reducible rfl|with_reducible assumption)
 all_goals try simp only[J.eta,ag.eta,au.eta,aJ,bm,bH] at *
 all_goals first|with_reducible rfl|with_reducible assumption|exact True.intro|(simp only[b3D,b3C,b3B,b3z] at *;done)|((try simp only[b3Y,J.eta,b3v,b3u,b3B,b3z,b3I,b3Q,ak,O,aY,b3J,b3G,b3T,b3M,b3R] at *);(try simp only[a0Y] at *);first|with_reducible exact True.intro|omega|(rw[a9U];done)|exact hp.k0|exact hp.k1|(have:=hp.k1;have:=hp.k0;omega)|exact (hp.i (by omega)).1|(have:=(hp.i (by omega)).2;omega)|exact hp.z (by with_reducible assumption)|exact hp.z (by omega)|(rw[JF (by with_reducible assumption)];simp only[*,b5f,b4F,b4U,b4P];done)|(rw[JF (by with_reducible assumption),b4k (by omega),b4F];done)|(rw[JF (by with_reducible assumption),b3K (by omega),b4P];done)|(have h:Cs p k j1:=(by with_reducible assumption);first|exact h.ap (by omega)|exact h.no (by omega) (by with_reducible assumption)|exact (h.no (by omega) (by with_reducible assumption)).symm|exact h.end (by omega)|exact (h.end (by omega)).symm|exact h.next (by omega) (by with_reducible assumption)|(rw[a4T];done)|exact congrArg _ (a4T _ _ _).symm|(have:=h.jl;omega)))
def F2:aL:=⟨Gx,[.v (.st .proof)],λ (p:aj)=>⟨(some (mo p),[⟨(.int .i64),(zR p:Int)⟩])⟩⟩
def TG(p:aj):Nat->az:=(cP 0 (.b (Nat) (λ k=>xj p k) (λ k=>p.af.length - k) [0,4,5] (λ k=>[(7, .aF ⟨(.int .i64),((k:Int):Int)⟩)])) bI)
def MA:aL.Good F2:=by
 refine⟨ar Cv,?_⟩;intro (p:aj) (hp:mo p);refine aV [F4] [] [] [1] ⟨MC,ae⟩ Cv L3 (TG p) (let v0:=(p.af.length:Int);((p.af.length<=140737488355328->(O v0->((∃ k1:Nat,(xj p k1/\((p=p/\(v0=v0/\((0:Int)=(k1:Int)/\True)))/\True)))/\(∀ k1:Nat,let v1:=(k1:Int);(xj p k1->(((decide (v1<v0))=true->(GS p v1/\(((!(ic p v1))=true->v1=(zR p:Int))/\((!(ic p v1))=false->(O (v1+(1:Int))/\(∃ k2:Nat,(xj p k2/\(p.af.length - k2<p.af.length - k1/\((p=p/\(v0=v0/\((v1+(1:Int))=(k2:Int)/\True)))/\True)))))))))/\((decide (v1<v0))=false->(p.af.length<=140737488355328->(O v0->v0=(zR p:Int)))))))))))) ?_;refine λ _ _=>⟨⟨0,?_,⟨rfl,rfl,?_,ae⟩,ae⟩,λ k1 _=>⟨λ _=>⟨?_,λ _=>?_,λ _=>⟨?_,k1+1,?_,?_,⟨rfl,rfl,?_,ae⟩,ae⟩⟩,λ _ _ _=>?_⟩⟩;all_goals try and_intros
 all_goals first|with_reducible rfl|with_reducible assumption|exact True.intro|(simp only[b3D,b3C,b3B,b3z] at *;done)|((try simp only[b3Y,J.eta,b3v,b3u,b3B,b3z,b3I,b3Q,ak,O,aY,b3J,b3G,b3T,b3M,b3R] at *);first|exact True.intro|omega|exact xj.zero (by with_reducible assumption)|(have h:xj p k1:=(by with_reducible assumption);first|exact h.sh (by omega)|exact h.no (by omega) (by with_reducible assumption)|exact (h.no (by omega) (by with_reducible assumption)).symm|exact h.end (by omega)|exact (h.end (by omega)).symm|exact h.next (by omega) (by with_reducible assumption)|(have:=h.kl;omega)))
end
end Go.Proofs.YtmjfpcajohhbeaaGreatDoor

set_option maxRecDepth 4000
set_option maxHeartbeats 4000000
namespace Go.Proofs.YtmjfpcajohhbeaaGreatDoor
noncomputable section
def Qj{gg:aU}(h:bP gg=true)(x:J):z6 gg x=cD gg x:=by unfold z6;rw[h];rfl
def b2w(x:Int):decide (0<=x/\x<=1)=wi 2 x:=rfl
def a3o(n m:Int):decide (n<=m) = !decide (m<n):=by
 by_cases h:n<=m
 .rw[b4k h,b3K (by omega)];rfl
 .rw[b3K h,b4k (by omega)];rfl
def stG(s:U):Bool:=decide (-40<=s.use/\s.use<=23)&&(!decide (40<(s.path.length:Int))&&(!decide (3<(s.av.length:Int)) && !decide (4<(s.bd.length:Int))))
def a0D(gg:aU)(s:U):mi gg s=(stG s&&(bp (wi 2) s.path&&(bp (cD gg) s.av&&(bp bq s.av&&bp (cD gg) s.bd)))):=by
 unfold mi stG;rw[a3o (s.path.length:Int) 40,a3o (s.av.length:Int) 3,a3o (s.bd.length:Int) 4];cases decide (-40<=s.use/\s.use<=23)<;>cases decide (40<(s.path.length:Int))<;>cases decide (3<(s.av.length:Int))<;>cases decide (4<(s.bd.length:Int))<;>cases bp (wi 2) s.path<;>cases bp (cD gg) s.av<;>cases bp bq s.av<;>cases bp (cD gg) s.bd<;>rfl
structure lI{α:Type}(f:α->Bool)(xs:List α)(k:Nat):Prop where
 le:k<=xs.length
 al:bp f (xs.take k)=true
def lI.zero{α:Type}(f:α->Bool)(xs:List α):lI f xs 0:=⟨b4G _,all_zero f xs⟩
def lI.next{α:Type}{f:α->Bool}{xs:List α}{k:Nat}(h:lI f xs k)(z:α)(hk:k<xs.length)(hb:f (xs.getD k z)=true):lI f xs (k+1):=⟨hk,by rw[di f z xs k hk,h.al,hb];rfl⟩
def lI.bad{α:Type}{f:α->Bool}{xs:List α}{k:Nat}(_:lI f xs k)(z:α)(hk:k<xs.length)(hb:f (xs.getD k z)=false):bp f xs=false:=dL f z xs k hk hb
def lI.done{α:Type}{f:α->Bool}{xs:List α}{k:Nat}(h:lI f xs k)(hk:xs.length<=k):bp f xs=true:=by
 have:=h.al;rwa [b3U hk] at this
def qY:aL:=⟨rj,[.v (.slice (.st .expr))],λ (xs:List J)=>⟨(none,[⟨.bool,bp bq xs⟩])⟩⟩
def Hs(xs:List J):Nat->az:=(cP 0 (.b (Nat) (λ k=>lI bq xs k) (λ k=>xs.length - k) [] (λ k=>[(3, .aF ⟨(.int .i64),((k:Int):Int)⟩)])) bI)
def BW:aL.Good qY:=by
 refine⟨ar pJ,?_⟩;intro (xs:List J) _;refine aV [iF] [] [] [] ⟨jo,ae⟩ pJ BF (Hs xs) (let v0:=(xs.length:Int);(((∃ k1:Nat,(lI bq xs k1/\((xs=xs/\((0:Int)=(k1:Int)/\True))/\True)))/\(∀ k1:Nat,(lI bq xs k1->(O v0->(((decide ((k1:Int)<v0))=true->(ak (k1:Int) xs.length/\(((!(bq (xs.getD k1 zE)))=true->false=(bp bq xs))/\((!(bq (xs.getD k1 zE)))=false->(O ((k1:Int)+(1:Int))/\(∃ k2:Nat,(lI bq xs k2/\(xs.length - k2<xs.length - k1/\((xs=xs/\(((k1:Int)+(1:Int))=(k2:Int)/\True))/\True)))))))))/\((decide ((k1:Int)<v0))=false->true=(bp bq xs))))))))) ?_;refine⟨⟨0,?_,⟨rfl,?_,ae⟩,ae⟩,λ k1 _ _=>⟨λ _=>⟨?_,λ _=>?_,λ _=>⟨?_,k1+1,?_,?_,⟨rfl,?_,ae⟩,ae⟩⟩,λ _=>?_⟩⟩;all_goals try and_intros
 all_goals first|with_reducible rfl|with_reducible assumption|exact True.intro|(simp only[b3D,b3C,b3B,b3z] at *;done)|((try simp only[b3Y,J.eta,b3v,b3u,b3B,b3z,b3I,b3Q,ak,O,aY,b3J,b3G,b3T,b3M,b3R] at *);  first|with_reducible exact True.intro|omega|exact lI.zero _ _|(have h:lI bq xs k1:=(by with_reducible assumption);first|exact h.bad _ (by omega) (by with_reducible assumption)|exact (h.bad _ (by omega) (by with_reducible assumption)).symm|exact h.done (by omega)|exact (h.done (by omega)).symm|exact h.next _ (by omega) (by with_reducible assumption)|(have:=h.le;omega)))
def DI:aL:=⟨Ee,[.v (.st .sig), .v (.slice (.st .expr))],λ (gg:aU) (xs:List J)=>⟨(some (bP gg=true),[⟨.bool,bp (cD gg) xs⟩])⟩⟩
def RP(gg:aU)(xs:List J):Nat->az:=(cP 0 (.b (Nat) (λ k=>lI (cD gg) xs k) (λ k=>xs.length - k) [0] (λ k=>[(5, .aF ⟨(.int .i64),((k:Int):Int)⟩)])) bI)
def KR:aL.Good DI:=by
 refine⟨ar Ay,?_⟩;intro (gg:aU) (xs:List J) (hp:bP gg=true);refine aV [sK] [] [] [2] ⟨mH,ae⟩ Ay KA (RP gg xs) (let v0:=(xs.length:Int);(((∃ k1:Nat,(lI (cD gg) xs k1/\((xs=xs/\(gg=gg/\((0:Int)=(k1:Int)/\True)))/\True)))/\(∀ k1:Nat,(lI (cD gg) xs k1->(O v0->(((decide ((k1:Int)<v0))=true->(ak (k1:Int) xs.length/\(((!(z6 gg (xs.getD k1 zE)))=true->false=(bp (cD gg) xs))/\((!(z6 gg (xs.getD k1 zE)))=false->(O ((k1:Int)+(1:Int))/\(∃ k2:Nat,(lI (cD gg) xs k2/\(xs.length - k2<xs.length - k1/\((xs=xs/\(gg=gg/\(((k1:Int)+(1:Int))=(k2:Int)/\True)))/\True)))))))))/\((decide ((k1:Int)<v0))=false->true=(bp (cD gg) xs))))))))) ?_;have ok:=Qj hp;refine⟨⟨0,?_,⟨rfl,rfl,?_,ae⟩,ae⟩,λ k1 _ _=>⟨λ _=>⟨?_,λ _=>?_,λ _=>⟨?_,k1+1,?_,?_,⟨rfl,rfl,?_,ae⟩,ae⟩⟩,λ _=>?_⟩⟩;all_goals try and_intros
 all_goals first|with_reducible rfl|with_reducible assumption|exact True.intro|(simp only[b3D,b3C,b3B,b3z] at *;done)|((try simp only[b3Y,J.eta,b3v,b3u,b3B,b3z,b3I,b3Q,ak,O,aY,b3J,b3G,b3T,b3M,b3R] at *);(try simp only[ok] at *);first|with_reducible exact True.intro|omega|exact lI.zero _ _|(have h:lI (cD gg) xs k1:=(by with_reducible assumption);first|exact h.bad _ (by omega) (by with_reducible assumption)|exact (h.bad _ (by omega) (by with_reducible assumption)).symm|exact h.done (by omega)|exact (h.done (by omega)).symm|exact h.next _ (by omega) (by with_reducible assumption)|(have:=h.le;omega)))
structure ZD(gg:aU)(s:U)(j:Nat):Prop where
 t:lI (wi 2) s.path j
 g:stG s=true
def b1g{gg:aU}{s:U}(h:stG s=false):mi gg s=false:=by rw[a0D,h];rfl
def ZD.bad{gg:aU}{s:U}{j:Nat}(h:ZD gg s j)(hj:j<s.path.length)(hb:wi 2 (s.path.getD j 0)=false):mi gg s=false:=by rw[a0D,h.t.bad 0 hj hb,b4P,b4U]
def ZD.end{gg:aU}{s:U}{j:Nat}(h:ZD gg s j)(hj:s.path.length<=j):mi gg s=(bp (cD gg) s.av&&(bp bq s.av&&bp (cD gg) s.bd)):=by rw[a0D,h.g,h.t.done hj];rfl
def Gm:aL:=⟨GN,[.v (.st .sig), .r (.st .proofStep)],λ (gg:aU) (s:U)=>⟨(some (bP gg=true),[⟨.bool,mi gg s⟩])⟩⟩
def T6(gg:aU)(s:U):Nat->az:=(cP 0 (.b (Nat) (λ j=>ZD gg s j) (λ j=>s.path.length - j) [0,6,7,8,9,10,11,12,13,14,15,16,17,18,19,20,21,22,23,24,25,26,27,28,29,30,31,32,33,34,35,36,37,38] (λ j=>[(5, .aF ⟨(.int .i64),((j:Int):Int)⟩)])) bI)
abbrev qj(gg:aU)(s:U):Prop:=(let v0:=bP gg=true/\(bp (cD gg) s.bd)=(mi gg s);let v1:=(0:Int);let v2:=(s.path.length:Int);((∃ j1:Nat,(ZD gg s j1/\((s=s/\(gg=gg/\(v1=(j1:Int)/\True)))/\True)))/\(∀ j1:Nat,let v4:=s.path.getD j1 v1;let v3 := !(decide (v1<=v4/\v4<=(1:Int)));(ZD gg s j1 ->
 (s.path.length<=140737488355328 ->
 (O v2 ->
 (((decide ((j1:Int)<v2))=true ->
 (s.path.length<=140737488355328 ->
 (ak (j1:Int) s.path.length/\(O v4 ->
 (((v3=true) ->
 false=(mi gg s))/\((v3=false) ->
 (O ((j1:Int)+(1:Int))/\(∃ j2:Nat,(ZD gg s j2/\(s.path.length - j2<s.path.length - j1/\((s=s/\(gg=gg/\(((j1:Int)+(1:Int))=(j2:Int)/\True)))/\True)))))))))))/\((decide ((j1:Int)<v2))=false ->
 (bP gg=true/\(((bp (cD gg) s.av)=true ->
 (((bp bq s.av)=true ->
 (s.av.length<=140737488355328 ->
 (s.av.length<=140737488355328 ->
 (s.bd.length<=140737488355328 ->
 v0))))/\((bp bq s.av)=(!true) ->
 (s.av.length<=140737488355328 ->
 (s.av.length<=140737488355328 ->
 false=(mi gg s))))))/\((bp (cD gg) s.av)=(!true) ->
 ((false=true ->
 (s.av.length<=140737488355328 ->
 (s.bd.length<=140737488355328 ->
 v0)))/\(false=(!true) ->
 (s.av.length<=140737488355328 ->
 false=(mi gg s)))))))))))))))
abbrev AS(gg:aU)(s:U):Prop:=(let v0:=decide ((4:Int)<((s.bd.length:Int)));(s.bd.length<=140737488355328 ->
 (O ((s.bd.length:Int)) ->
 ((v0=true ->
 false=(mi gg s))/\(v0=false ->
 (qj gg s))))))
abbrev AT(gg:aU)(s:U):Prop:=(let v0:=decide ((3:Int)<((s.av.length:Int)));(s.av.length<=140737488355328 ->
 (O ((s.av.length:Int)) ->
 ((v0=false ->
 (AS gg s))/\(v0=(!false) ->
 ((true=true ->
 false=(mi gg s))/\(true=false ->
 (qj gg s))))))))
abbrev AU(gg:aU)(s:U):Prop:=((true=false ->
 (AS gg s))/\(true=(!false) ->
 ((true=true ->
 false=(mi gg s))/\(true=false ->
 (qj gg s)))))
def MY:aL.Good Gm:=by
 refine⟨ar CL,?_⟩;intro (gg:aU) (s:U) (hp:bP gg=true);refine aV [gD,kW,DI,qY] [] [] [2] ⟨jn,nO,KR,BW,ae⟩ CL Mo (T6 gg s) (let v1:=decide ((40:Int)<((s.path.length:Int)));let v2:=((om).length:Int);let v0 := !(decide ((-40:Int)<=s.use/\s.use<=(v2 - (1:Int))));((O (v2 - (1:Int))/\(O s.use->((om).length<=140737488355328->(O v2->(((v0=false)->(s.path.length<=140737488355328->(O ((s.path.length:Int))->((v1=false->(AT gg s))/\(v1=(!false)->(AU gg s))))))/\((v0=(!false))->((true=false->(AT gg s))/\(true=(!false)->(AU gg s))))))))))) ?_;have f0:(om.length:Int) - 1=23:=by rw[nM];rfl
 refine⟨?_,λ _ _ _=>⟨λ _ _ _=>⟨λ _ _ _=>⟨λ _ _ _=>⟨λ _=>?_,λ _=>⟨⟨0,?_,⟨rfl,rfl,?_,ae⟩,ae⟩,λ j1 _ _ _=>⟨λ _ _=>⟨?_,λ _=>⟨λ _=>?_,λ _=>⟨?_,j1+1,?_,?_,⟨rfl,rfl,?_,ae⟩,ae⟩⟩⟩,λ _=>⟨?_,λ _=>⟨λ _ _ _ _=>⟨?_,?_⟩,λ _ _ _=>?_⟩,λ _=>⟨λ _ _ _=>⟨?_,?_⟩,λ _ _=>?_⟩⟩⟩⟩⟩,λ _=>⟨λ _=>?_,λ _=>⟨⟨0,?_,⟨rfl,rfl,?_,ae⟩,ae⟩,λ j1 _ _ _=>⟨λ _ _=>⟨?_,λ _=>⟨λ _=>?_,λ _=>⟨?_,j1+1,?_,?_,⟨rfl,rfl,?_,ae⟩,ae⟩⟩⟩,λ _=>⟨?_,λ _=>⟨λ _ _ _ _=>⟨?_,?_⟩,λ _ _ _=>?_⟩,λ _=>⟨λ _ _ _=>⟨?_,?_⟩,λ _ _=>?_⟩⟩⟩⟩⟩⟩,λ _=>⟨λ _ _ _=>⟨λ _=>?_,λ _=>⟨⟨0,?_,⟨rfl,rfl,?_,ae⟩,ae⟩,λ j1 _ _ _=>⟨λ _ _=>⟨?_,λ _=>⟨λ _=>?_,λ _=>⟨?_,j1+1,?_,?_,⟨rfl,rfl,?_,ae⟩,ae⟩⟩⟩,λ _=>⟨?_,λ _=>⟨λ _ _ _ _=>⟨?_,?_⟩,λ _ _ _=>?_⟩,λ _=>⟨λ _ _ _=>⟨?_,?_⟩,λ _ _=>?_⟩⟩⟩⟩⟩,λ _=>⟨λ _=>?_,λ _=>⟨⟨0,?_,⟨rfl,rfl,?_,ae⟩,ae⟩,λ j1 _ _ _=>⟨λ _ _=>⟨?_,λ _=>⟨λ _=>?_,λ _=>⟨?_,j1+1,?_,?_,⟨rfl,rfl,?_,ae⟩,ae⟩⟩⟩,λ _=>⟨?_,λ _=>⟨λ _ _ _ _=>⟨?_,?_⟩,λ _ _ _=>?_⟩,λ _=>⟨λ _ _ _=>⟨?_,?_⟩,λ _ _=>?_⟩⟩⟩⟩⟩⟩⟩,λ _=>⟨λ _ _ _=>⟨λ _ _ _=>⟨λ _=>?_,λ _=>⟨⟨0,?_,⟨rfl,rfl,?_,ae⟩,ae⟩,λ j1 _ _ _=>⟨λ _ _=>⟨?_,λ _=>⟨λ _=>?_,λ _=>⟨?_,j1+1,?_,?_,⟨rfl,rfl,?_,ae⟩,ae⟩⟩⟩,λ _=>⟨?_,λ _=>⟨λ _ _ _ _=>⟨?_,?_⟩,λ _ _ _=>?_⟩,λ _=>⟨λ _ _ _=>⟨?_,?_⟩,λ _ _=>?_⟩⟩⟩⟩⟩,λ _=>⟨λ _=>?_,λ _=>⟨⟨0,?_,⟨rfl,rfl,?_,ae⟩,ae⟩,λ j1 _ _ _=>⟨λ _ _=>⟨?_,λ _=>⟨λ _=>?_,λ _=>⟨?_,j1+1,?_,?_,⟨rfl,rfl,?_,ae⟩,ae⟩⟩⟩,λ _=>⟨?_,λ _=>⟨λ _ _ _ _=>⟨?_,?_⟩,λ _ _ _=>?_⟩,λ _=>⟨λ _ _ _=>⟨?_,?_⟩,λ _ _=>?_⟩⟩⟩⟩⟩⟩,λ _=>⟨λ _ _ _=>⟨λ _=>?_,λ _=>⟨⟨0,?_,⟨rfl,rfl,?_,ae⟩,ae⟩,λ j1 _ _ _=>⟨λ _ _=>⟨?_,λ _=>⟨λ _=>?_,λ _=>⟨?_,j1+1,?_,?_,⟨rfl,rfl,?_,ae⟩,ae⟩⟩⟩,λ _=>⟨?_,λ _=>⟨λ _ _ _ _=>⟨?_,?_⟩,λ _ _ _=>?_⟩,λ _=>⟨λ _ _ _=>⟨?_,?_⟩,λ _ _=>?_⟩⟩⟩⟩⟩,λ _=>⟨λ _=>?_,λ _=>⟨⟨0,?_,⟨rfl,rfl,?_,ae⟩,ae⟩,λ j1 _ _ _=>⟨λ _ _=>⟨?_,λ _=>⟨λ _=>?_,λ _=>⟨?_,j1+1,?_,?_,⟨rfl,rfl,?_,ae⟩,ae⟩⟩⟩,λ _=>⟨?_,λ _=>⟨λ _ _ _ _=>⟨?_,?_⟩,λ _ _ _=>?_⟩,λ _=>⟨λ _ _ _=>⟨?_,?_⟩,λ _ _=>?_⟩⟩⟩⟩⟩⟩⟩⟩⟩;all_goals try and_intros
 all_goals first|with_reducible rfl|with_reducible assumption|exact True.intro|(simp only[Bool.true_eq_false,Bool.false_eq_true,Bool.not_true,Bool.not_false] at *;done)|exact hp|(have e:=nM;clear f0;simp only[e];done)|(have e:=nM;omega)|((try simp only[f0,b2w,Bool.not_true,Bool.not_false,Bool.not_eq_true',Bool.not_eq_false'] at *);first|with_reducible exact True.intro|(refine (b1g ?_).symm;(unfold stG;simp only[*,Bool.and_true,Bool.true_and,Bool.and_false,Bool.false_and,Bool.not_true,Bool.not_false];done))|(refine⟨lI.zero _ _,?_⟩;(unfold stG;simp only[*,Bool.and_true,Bool.true_and,Bool.and_false,Bool.false_and,Bool.not_true,Bool.not_false];done))|(have h:ZD gg s j1:=(by with_reducible assumption);first|exact (h.bad (by simp only[decide_eq_true_eq,decide_eq_false_iff_not] at *;omega) (by with_reducible assumption)).symm|exact⟨h.t.next 0 (by simp only[decide_eq_true_eq,decide_eq_false_iff_not] at *;omega) (by with_reducible assumption),h.g⟩|(rw[h.end (by simp only[decide_eq_true_eq,decide_eq_false_iff_not] at *;omega)];simp only[*,Bool.and_true,Bool.true_and,Bool.and_false,Bool.false_and];done)|(have:=h.t.le;simp only[ak,O,aY,decide_eq_true_eq,decide_eq_false_iff_not] at *;omega))|(simp only[ak,O,aY,decide_eq_true_eq,decide_eq_false_iff_not] at *;omega))
end
end Go.Proofs.YtmjfpcajohhbeaaGreatDoor

set_option maxRecDepth 4000
set_option maxHeartbeats 4000000
namespace Go.Proofs.YtmjfpcajohhbeaaGreatDoor
noncomputable section
structure Th(gg:aU)(c:ag)(j:Nat):Prop where
 t:lI (mi gg) c.steps j
 g:BI gg c=true
def Th.bad{gg:aU}{c:ag}{j:Nat}(h:Th gg c j)(hj:j<c.steps.length)(hb:mi gg (c.steps.getD j (U.mk (0:Int) false [] [] []))=false):mF gg c=false:=by rw[EI,h.t.bad _ hj hb,b4U]
def Th.end{gg:aU}{c:ag}{j:Nat}(h:Th gg c j)(hj:c.steps.length<=j):mF gg c=true:=by rw[EI,h.g,h.t.done hj];rfl
def Th.zero{gg:aU}{c:ag}(g:BI gg c=true):Th gg c 0:=⟨lI.zero _ _,g⟩
def DG:aL:=⟨Eb,[.v (.st .sig), .r (.st .claim)],λ (gg:aU) (c:ag)=>⟨(some (bP gg=true),[⟨.bool,mF gg c⟩])⟩⟩
def RN(gg:aU)(c:ag):Nat->az:=(cP 100003 (.u (En gg c) [0] [] [] [] (cP 100005 (.u (BI gg c=true) [] [] [] [] (cP 0 (.b (Nat) (λ j=>Th gg c j) (λ j=>c.steps.length - j) [] (λ j=>[(5, .aF ⟨(.int .i64),((j:Int):Int)⟩)])) bI)) bI)) bI)
abbrev yB(gg:aU)(c:ag):Prop:=(let v0 := !(decide ((0:Int)<=c.ref/\c.ref<=(39:Int)));(O c.ref ->
 (((v0=true) ->
 false=(mF gg c))/\((v0=false) ->
 (∃ u1:Unit,(En gg c/\((c=c/\(gg=gg/\True))/\True)))))))
abbrev yC(gg:aU)(c:ag):Prop:=(let v0 := !(decide ((1:Int)<=c.aH/\c.aH<=(3:Int)));(O c.aH ->
 (((v0=false) ->
 (yB gg c))/\((v0=(!false)) ->
 ((true=true ->
 false=(mF gg c))/\(true=false ->
 (∃ u1:Unit,(En gg c/\((c=c/\(gg=gg/\True))/\True)))))))))
abbrev yD(gg:aU)(c:ag):Prop:=((true=false ->
 (yB gg c))/\(true=(!false) ->
 ((true=true ->
 false=(mF gg c))/\(true=false ->
 (∃ u1:Unit,(En gg c/\((c=c/\(gg=gg/\True))/\True)))))))
abbrev oK(gg:aU)(c:ag):Prop:=(let v0:=decide ((60:Int)<((c.steps.length:Int)));(c.steps.length<=140737488355328 ->
 (O ((c.steps.length:Int)) ->
 ((v0=true ->
 false=(mF gg c))/\(v0=false ->
 (∃ u2:Unit,(BI gg c=true/\((c=c/\(gg=gg/\True))/\True))))))))
abbrev yF(gg:aU)(c:ag):Prop:=(let v0:=BI gg c=true/\((c=c/\(gg=gg/\True))/\True);let v1:=decide ((0:Int)<((c.steps.length:Int)));let v2 := !(decide (c.aH=(1:Int)));(O c.aH ->
 ((v2=true ->
 (c.steps.length<=140737488355328 ->
 (O ((c.steps.length:Int)) ->
 ((v1=false ->
 (oK gg c))/\(v1=(!false) ->
 ((true=true ->
 false=(mF gg c))/\(true=false ->
 (∃ u2:Unit,v0))))))))/\(v2=(!true) ->
 ((false=false ->
 (oK gg c))/\(false=(!false) ->
 ((true=true ->
 false=(mF gg c))/\(true=false ->
 (∃ u2:Unit,v0)))))))))
abbrev yG(gg:aU)(c:ag):Prop:=((true=false ->
 (oK gg c))/\(true=(!false) ->
 ((true=true ->
 false=(mF gg c))/\(true=false ->
 (∃ u2:Unit,(BI gg c=true/\((c=c/\(gg=gg/\True))/\True)))))))
def KP:aL.Good DG:=by
 refine⟨ar Av,?_⟩;intro (gg:aU) (c:ag) (hp:bP gg=true);refine aV [sK,gD,Gm] [] [] [2] ⟨mH,jn,MY,ae⟩ Av Kx (RN gg c) (let v0:=(c.steps.length:Int);let v1:=U.mk (0:Int) false [] [] [];let v2 := !(decide (c.ref=(0:Int)));(((((!(z6 gg c.left))=false->(((!(z6 gg c.right))=false->(yC gg c))/\((!(z6 gg c.right))=(!false)->(yD gg c))))/\((!(z6 gg c.left))=(!false)->((true=false->(yC gg c))/\(true=(!false)->(yD gg c)))))/\(∀ u1:Unit,(En gg c->((O c.aH->(((decide (c.aH=(1:Int)))=true->(O c.ref->((v2=false->(yF gg c))/\(v2=(!false)->(yG gg c)))))/\((decide (c.aH=(1:Int)))=(!true)->((false=false->(yF gg c))/\(false=(!false)->(yG gg c))))))/\(∀ u2:Unit,(BI gg c=true->((∃ j3:Nat,(Th gg c j3/\((c=c/\(gg=gg/\((0:Int)=(j3:Int)/\True)))/\True)))/\(∀ j3:Nat,let v3 := !(mi gg (c.steps.getD j3 v1));(Th gg c j3->(c.steps.length<=140737488355328->(O v0->(((decide ((j3:Int)<v0))=true->(ak (j3:Int) c.steps.length/\(c.steps.length<=140737488355328->(bP gg=true/\((v3=true->false=(mF gg c))/\(v3=false->(O ((j3:Int)+(1:Int))/\(∃ j4:Nat,(Th gg c j4/\(c.steps.length - j4<c.steps.length - j3/\((c=c/\(gg=gg/\(((j3:Int)+(1:Int))=(j4:Int)/\True)))/\True)))))))))))/\((decide ((j3:Int)<v0))=false->true=(mF gg c)))))))))))))))) ?_;have ok:=Qj hp;refine⟨⟨λ _=>⟨λ _ _=>⟨λ _ _=>⟨λ _=>?_,λ _=>⟨(),?_,⟨rfl,rfl,ae⟩,ae⟩⟩,λ _=>⟨λ _=>?_,λ _=>⟨(),?_,⟨rfl,rfl,ae⟩,ae⟩⟩⟩,λ _=>⟨λ _ _=>⟨λ _=>?_,λ _=>⟨(),?_,⟨rfl,rfl,ae⟩,ae⟩⟩,λ _=>⟨λ _=>?_,λ _=>⟨(),?_,⟨rfl,rfl,ae⟩,ae⟩⟩⟩⟩,λ _=>⟨λ _ _=>⟨λ _ _=>⟨λ _=>?_,λ _=>⟨(),?_,⟨rfl,rfl,ae⟩,ae⟩⟩,λ _=>⟨λ _=>?_,λ _=>⟨(),?_,⟨rfl,rfl,ae⟩,ae⟩⟩⟩,λ _=>⟨λ _ _=>⟨λ _=>?_,λ _=>⟨(),?_,⟨rfl,rfl,ae⟩,ae⟩⟩,λ _=>⟨λ _=>?_,λ _=>⟨(),?_,⟨rfl,rfl,ae⟩,ae⟩⟩⟩⟩⟩,λ u1 _=>⟨λ _=>⟨λ _ _=>⟨λ _ _=>⟨λ _ _ _=>⟨λ _ _ _=>⟨λ _=>?_,λ _=>⟨(),?_,⟨rfl,rfl,ae⟩,ae⟩⟩,λ _=>⟨λ _=>?_,λ _=>⟨(),?_,⟨rfl,rfl,ae⟩,ae⟩⟩⟩,λ _=>⟨λ _ _ _=>⟨λ _=>?_,λ _=>⟨(),?_,⟨rfl,rfl,ae⟩,ae⟩⟩,λ _=>⟨λ _=>?_,λ _=>⟨(),?_,⟨rfl,rfl,ae⟩,ae⟩⟩⟩⟩,λ _=>⟨λ _ _ _=>⟨λ _=>?_,λ _=>⟨(),?_,⟨rfl,rfl,ae⟩,ae⟩⟩,λ _=>⟨λ _=>?_,λ _=>⟨(),?_,⟨rfl,rfl,ae⟩,ae⟩⟩⟩⟩,λ _=>⟨λ _ _=>⟨λ _ _ _=>⟨λ _ _ _=>⟨λ _=>?_,λ _=>⟨(),?_,⟨rfl,rfl,ae⟩,ae⟩⟩,λ _=>⟨λ _=>?_,λ _=>⟨(),?_,⟨rfl,rfl,ae⟩,ae⟩⟩⟩,λ _=>⟨λ _ _ _=>⟨λ _=>?_,λ _=>⟨(),?_,⟨rfl,rfl,ae⟩,ae⟩⟩,λ _=>⟨λ _=>?_,λ _=>⟨(),?_,⟨rfl,rfl,ae⟩,ae⟩⟩⟩⟩,λ _=>⟨λ _ _ _=>⟨λ _=>?_,λ _=>⟨(),?_,⟨rfl,rfl,ae⟩,ae⟩⟩,λ _=>⟨λ _=>?_,λ _=>⟨(),?_,⟨rfl,rfl,ae⟩,ae⟩⟩⟩⟩⟩,λ u2 _=>⟨⟨0,?_,⟨rfl,rfl,?_,ae⟩,ae⟩,λ j3 _ _ _=>⟨λ _=>⟨?_,λ _=>⟨?_,λ _=>?_,λ _=>⟨?_,j3+1,?_,?_,⟨rfl,rfl,?_,ae⟩,ae⟩⟩⟩,λ _=>?_⟩⟩⟩⟩;all_goals try and_intros
 all_goals first|with_reducible rfl|with_reducible assumption|exact True.intro|(simp only[b3D,b3C,b3B,b3z] at *;done)|exact hp|exact Int.ofNat_zero.symm|exact rfl|((try simp only[ok,b3B,b3z,b3I,b3Q,b3v,b3u] at *);first|with_reducible exact True.intro|exact a6C (by with_reducible assumption)|exact (a6C (by with_reducible assumption)).symm|exact a6D (by with_reducible assumption)|exact (a6D (by with_reducible assumption)).symm|exact a2L (by with_reducible assumption)|exact (a2L (by with_reducible assumption)).symm|exact a2M (by with_reducible assumption)|exact (a2M (by with_reducible assumption)).symm|exact⟨(by with_reducible assumption),(by with_reducible assumption),(by with_reducible assumption),(by with_reducible assumption)⟩|(have h:En gg c:=(by with_reducible assumption);first|exact (h.n1 (by omega) (by omega)).symm|exact (h.n2 (by omega) (by omega)).symm|exact (h.n3 (by omega)).symm|exact h.y1 (by omega) (by omega) (by omega)|exact h.y2 (by omega) (by omega))|exact Th.zero (by with_reducible assumption)|(have h:Th gg c j3:=(by with_reducible assumption);first|exact (h.bad (by omega) (by with_reducible assumption)).symm|exact⟨h.t.next _ (by omega) (by with_reducible assumption),h.g⟩|exact (h.end (by omega)).symm|(have:=h.t.le;simp only[ak,O,aY] at *;omega))|(simp only[ak,O,aY] at *;omega))
structure ZC(p:aj)(j:Nat):Prop where
 s:bP p.sig=true
 n:p.af.length<=40
 t:lI (mF p.sig) p.af j
def ZC.bad{p:aj}{j:Nat}(h:ZC p j)(hj:j<p.af.length)(hb:mF p.sig (p.af.getD j (ag.mk zE zE (0:Int) (0:Int) []))=false):dz p=false:=by
 unfold dz;rw[h.t.bad _ hj hb,Bool.and_false]
def ZC.end{p:aj}{j:Nat}(h:ZC p j)(hj:p.af.length<=j):dz p=true:=by unfold dz;rw[h.s,h.t.done hj,decide_eq_true h.n];rfl
def B3:aL:=⟨LM,[.r (.st .proof)],λ (p:aj)=>⟨(none,[⟨.bool,dz p⟩])⟩⟩
def X9(p:aj):Nat->az:=(cP 0 (.b (Nat) (λ j=>ZC p j) (λ j=>p.af.length - j) [4,5,6,7,8,9,10,11,12,13,14,15,16,17] (λ j=>[(3, .aF ⟨(.int .i64),((j:Int):Int)⟩)])) bI)
abbrev F1(p:aj):Prop:=(let v0:=(p.af.length:Int);let v1:=ag.mk zE zE (0:Int) (0:Int) [];((∃ j1:Nat,(ZC p j1/\((p=p/\((0:Int)=(j1:Int)/\True))/\True)))/\(∀ j1:Nat,let v2 := !(mF p.sig (p.af.getD j1 v1));(ZC p j1 ->
 (p.af.length<=140737488355328 ->
 (O v0 ->
 (((decide ((j1:Int)<v0))=true ->
 (ak (j1:Int) p.af.length/\(p.af.length<=140737488355328 ->
 (bP p.sig=true/\((v2=true ->
 false=(dz p))/\(v2=false ->
 (O ((j1:Int)+(1:Int))/\(∃ j2:Nat,(ZC p j2/\(p.af.length - j2<p.af.length - j1/\((p=p/\(((j1:Int)+(1:Int))=(j2:Int)/\True))/\True)))))))))))/\((decide ((j1:Int)<v0))=false ->
 true=(dz p)))))))))
def Dd:aL.Good B3:=by
 refine⟨ar HM,?_⟩;intro (p:aj) _;refine aV [qm,DG] [] [] [] ⟨pZ,KP,ae⟩ HM QY (X9 p) (let v0:=decide ((40:Int)<((p.af.length:Int)));((((!(bP p.sig))=false->(p.af.length<=140737488355328->(O ((p.af.length:Int))->((v0=true->false=(dz p))/\(v0=false->(F1 p))))))/\((!(bP p.sig))=(!false)->((true=true->false=(dz p))/\(true=false->(F1 p))))))) ?_;refine⟨λ _ _ _=>⟨λ _=>?_,λ _=>⟨⟨0,?_,⟨rfl,?_,ae⟩,ae⟩,λ j1 _ _ _=>⟨λ _=>⟨?_,λ _=>⟨?_,λ _=>?_,λ _=>⟨?_,j1+1,?_,?_,⟨rfl,?_,ae⟩,ae⟩⟩⟩,λ _=>?_⟩⟩⟩,λ _=>⟨λ _=>?_,λ _=>⟨⟨0,?_,⟨rfl,?_,ae⟩,ae⟩,λ j1 _ _ _=>⟨λ _=>⟨?_,λ _=>⟨?_,λ _=>?_,λ _=>⟨?_,j1+1,?_,?_,⟨rfl,?_,ae⟩,ae⟩⟩⟩,λ _=>?_⟩⟩⟩⟩;all_goals try and_intros
 all_goals first|with_reducible rfl|with_reducible assumption|exact True.intro|(simp only[b3D,b3C,b3B,b3z] at *;done)|((try simp only[b3B,b3z,b3I,b3Q,b3v,b3u] at *);first|with_reducible exact True.intro|exact (a4M (by with_reducible assumption)).symm|exact (a4N (by omega)).symm|exact⟨(by with_reducible assumption),by omega,lI.zero _ _⟩|(have h:ZC p j1:=(by with_reducible assumption);first|exact h.s|exact (h.bad (by omega) (by with_reducible assumption)).symm|exact⟨h.s,h.n,h.t.next _ (by omega) (by with_reducible assumption)⟩|exact (h.end (by omega)).symm|(have:=h.t.le;simp only[ak,O,aY] at *;omega)|(have:=h.t.le;omega))|(simp only[ak,O,aY] at *;omega))
end
end Go.Proofs.YtmjfpcajohhbeaaGreatDoor

set_option maxRecDepth 4000
set_option maxHeartbeats 4000000
namespace Go.Proofs.YtmjfpcajohhbeaaGreatDoor
noncomputable section
def Ab(t:Int)(e:J)(i:Nat):Int:=max (max t (if e.aq=3 then e.aN+1 else 0)) (cu (e.M.take i)).1
def Cm(a:Int)(e:J)(i:Nat):Int:=max (max a (if e.aq=4 then e.aN+1 else 0)) (cu (e.M.take i)).2
def QJ{x:J}(h:bg 62 62 x=true)(hk:x.aq=3\/x.aq=4):x.M=[]:=by
 have:=ZA h;rcases hk with hk|hk<;>rw[hk] at this<;>simp[cV] at this<;>exact b4C (by omega)
def b2M(t a:Int)(e:J):Ab t e 0=max t (max (if e.aq=3 then e.aN+1 else 0) 0)/\Cm a e 0=max a (max (if e.aq=4 then e.aN+1 else 0) 0):=by
 unfold Ab Cm;rw[List.take_zero,cu];dsimp only;omega
def b2O(t a:Int)(e:J)(i:Nat)(hi:i<e.M.length):Ab t e (i+1)=max (Ab t e i) (dm (e.M.getD i zE)).1/\Cm a e (i+1)=max (Cm a e i) (dm (e.M.getD i zE)).2:=by
 unfold Ab Cm;rw[Tf e i hi];dsimp only;omega
def b2N(t a:Int)(e:J)(i:Nat)(h:bg 62 62 e=true)(hi:e.M.length<=i)(ht:0<=t)(ha:0<=a):Ab t e i=max t (dm e).1/\Cm a e i=max a (dm e).2:=by
 unfold Ab Cm;have hn:=kO h;by_cases h3:e.aq=3
 .have:=hn (.inl h3);rw[if_pos h3,if_neg (show ¬ e.aq=4 by omega),QJ h (.inl h3),List.take_nil,cu,a8e e h3];dsimp only;omega
 .by_cases h4:e.aq=4
  .have:=hn (.inr h4);rw[if_neg h3,if_pos h4,QJ h (.inr h4),List.take_nil,cu,a8f e h3 h4];dsimp only;omega
  .have:=Sl e h i;rw[b3H h3,b3H h4,<-a3W e h3 h4 i hi];rw[<-a3W e h3 h4 i hi] at this;omega
def b1l(t a:Int)(e:J)(i:Nat)(h:bg 62 62 e=true)(ht:0<=t/\t<=1000)(ha:0<=a/\a<=1000):(0<=Ab t e i/\Ab t e i<=1000)/\0<=Cm a e i/\Cm a e i<=1000:=by
 have h1:=Sl e h i;have hn:=kO h;unfold Ab Cm;have:(if e.aq=3 then e.aN+1 else 0)<=63:=by
  split
  .rename_i q;have:=hn (.inl q);omega
  .omega
 have:(if e.aq=4 then e.aN+1 else 0)<=63:=by
  split
  .rename_i q;have:=hn (.inr q);omega
  .omega
 omega
def mV(n:Nat):gl:=⟨zj,[[.d (.int .i64)],[.d (.int .i64)]],[.r (.st .expr), .b 0, .b 1],[[(.int .i64)],[(.int .i64)]],λ (e:J) (t:Int) (a:Int)=>⟨(some (cb e<n/\bg 62 62 e=true/\(0<=t/\t<=1000)/\0<=a/\a<=1000),[],[[⟨(.int .i64),max t (dm e).1⟩],[⟨(.int .i64),max a (dm e).2⟩]])⟩⟩
def Gu:gl:=⟨zj,[[.d (.int .i64)],[.d (.int .i64)]],[.r (.st .expr), .b 0, .b 1],[[(.int .i64)],[(.int .i64)]],λ (e:J) (t:Int) (a:Int)=>⟨(some (bg 62 62 e=true/\(0<=t/\t<=1000)/\0<=a/\a<=1000),[],[[⟨(.int .i64),max t (dm e).1⟩],[⟨(.int .i64),max a (dm e).2⟩]])⟩⟩
def Ui(e:J)(t:Int)(a:Int):Nat->az:=(cP 100004 (.u (True) [7,8,9,10,11,12,13,14,15,16,17,18,19,20,21,22] [] [] [(400000, .box [.aF ⟨(.int .i64),(Ab t e 0:Int)⟩]),(400001, .box [.aF ⟨(.int .i64),(Cm a e 0:Int)⟩])] (cP 0 (.a (Nat) (λ i=>i<=e.M.length) (λ i=>e.M.length - i) [] (λ i=>[(6, .aF ⟨(.int .i64),((i:Int):Int)⟩)]) [] (λ i=>[(400000, .box [.aF ⟨(.int .i64),(Ab t e i:Int)⟩]),(400001, .box [.aF ⟨(.int .i64),(Cm a e i:Int)⟩])])) bI)) bI)
abbrev A4(n:Nat)(e:J)(t:Int)(a:Int):Prop:=(let v0:=(e.M.length:Int);(∀ u1:Unit,(True ->
 ((∃ i2:Nat,(i2<=e.M.length/\((e=e/\(True/\(True/\((0:Int)=(i2:Int)/\True))))/\(((Ab t e 0)=(Ab t e i2)/\True)/\(((Cm a e 0)=(Cm a e i2)/\True)/\True)))))/\(∀ i2:Nat,let v1:=e.M.getD i2 zE;(i2<=e.M.length ->
 (e.M.length<=140737488355328 ->
 (O v0 ->
 (((decide ((i2:Int)<v0))=true ->
 (e.M.length<=140737488355328 ->
 (ak (i2:Int) e.M.length/\((cb v1<n/\bg 62 62 v1=true/\(0<=(Ab t e i2)/\(Ab t e i2)<=1000)/\0<=(Cm a e i2)/\(Cm a e i2)<=1000)/\(O ((i2:Int)+(1:Int))/\(∃ i3:Nat,(i3<=e.M.length/\(e.M.length - i3<e.M.length - i2/\((e=e/\(True/\(True/\(((i2:Int)+(1:Int))=(i3:Int)/\True))))/\(((max (Ab t e i2) (dm v1).1)=(Ab t e i3)/\True)/\(((max (Cm a e i2) (dm v1).2)=(Cm a e i3)/\True)/\True)))))))))))/\((decide ((i2:Int)<v0))=false ->
 (True/\((Ab t e i2)=(max t (dm e).1)/\((Cm a e i2)=(max a (dm e).2)/\True)))))))))))))
def Sg(n:Nat)(hE:bD [ma])(hO:hJ [])(hM:jF [])(hS:im [mV n]):gl.Good (mV (n+1)):=by
 refine⟨ar n9,?_⟩;intro (e:J) (t:Int) (a:Int) (hp:cb e<n+1/\bg 62 62 e=true/\(0<=t/\t<=1000)/\0<=a/\a<=1000);refine gK [ma] [] [] [mV n] [] [] [] [] hE hO hM hS n9 OO (Ui e t a) rfl rfl (let v0:=e.aN+(1:Int);let v1:=e=e/\(True/\(True/\True));let v2:=decide (e.aq=(4:Int));let v3:=((max a v0)=(Cm a e 0)/\True)/\True;let v4:=(a=(Cm a e 0)/\True)/\True;let v5:=(max t v0)=(Ab t e 0)/\True;((O e.aq->(((decide (e.aq=(3:Int)))=true->(O v0/\(O t->(O e.aN->(O (max t v0)->((O e.aq->((v2=true->(O v0/\(O a->(O e.aN->(O (max a v0)->(∃ u1:Unit,(True/\(v1/\(v5/\v3)))))))))/\(v2=false->(∃ u1:Unit,(True/\(v1/\(v5/\v4)))))))/\(A4 n e t a)))))))/\((decide (e.aq=(3:Int)))=false->((O e.aq->((v2=true->(O v0/\(O a->(O e.aN->(O (max a v0)->(∃ u1:Unit,(True/\(v1/\((t=(Ab t e 0)/\True)/\v3)))))))))/\(v2=false->(∃ u1:Unit,(True/\(v1/\((t=(Ab t e 0)/\True)/\v4)))))))/\(A4 n e t a))))))) ?_;obtain⟨hm,g0,g1,g2⟩:=hp;have f0:=λ i (h:i<e.M.length)=>b9 zE e.M i h;have f1:=dj e;have f2:=b2M t a e;have f3:=kO g0;refine λ _=>⟨λ _=>⟨?_,λ _ _ _=>⟨λ _=>⟨λ _=>⟨?_,λ _ _ _=>⟨(),?_,⟨rfl,ae,ae,ae⟩,⟨?_,ae⟩,⟨?_,ae⟩,ae⟩⟩,λ _=>⟨(),?_,⟨rfl,ae,ae,ae⟩,⟨?_,ae⟩,⟨?_,ae⟩,ae⟩⟩,λ u1 _=>⟨⟨0,?_,⟨rfl,ae,ae,?_,ae⟩,⟨?_,ae⟩,⟨?_,ae⟩,ae⟩,λ i2 _ _ _=>⟨λ _ _=>⟨?_,?_,?_,i2+1,?_,?_,⟨rfl,ae,ae,?_,ae⟩,⟨?_,ae⟩,⟨?_,ae⟩,ae⟩,λ _=>⟨ae,?_,?_,ae⟩⟩⟩⟩⟩,λ _=>⟨λ _=>⟨λ _=>⟨?_,λ _ _ _=>⟨(),?_,⟨rfl,ae,ae,ae⟩,⟨?_,ae⟩,⟨?_,ae⟩,ae⟩⟩,λ _=>⟨(),?_,⟨rfl,ae,ae,ae⟩,⟨?_,ae⟩,⟨?_,ae⟩,ae⟩⟩,λ u1 _=>⟨⟨0,?_,⟨rfl,ae,ae,?_,ae⟩,⟨?_,ae⟩,⟨?_,ae⟩,ae⟩,λ i2 _ _ _=>⟨λ _ _=>⟨?_,?_,?_,i2+1,?_,?_,⟨rfl,ae,ae,?_,ae⟩,⟨?_,ae⟩,⟨?_,ae⟩,ae⟩,λ _=>⟨ae,?_,?_,ae⟩⟩⟩⟩⟩;all_goals try and_intros
 all_goals first|with_reducible rfl|with_reducible assumption|exact True.intro|(simp only[b3D,b3C,b3B,b3z] at *;done)|((try simp only[b3Y,J.eta,b3v,b3u,b3B,b3z,b3I,b3Q,ak,O,aY,b3J,b3G,b3T,b3M,b3R] at *);first|exact True.intro|omega|exact sD g0 _ (by omega)|(have h1:=f0 i2 (by omega);omega)|(have h1:=b2O t a e i2 (by omega);omega)|(have h1:=b2N t a e i2 g0 (by omega) (by omega) (by omega);omega)|(have h1:=b1l t a e i2 g0 (by omega) (by omega);omega)|(rw[f2.1];simp only[*,b5u,b6c];omega)|(rw[f2.2];simp only[*,b5u,b6c];omega)|(have:=f3 (by omega);omega))
def U1:∀ n,im [mV n]
 | 0=>⟨⟨ar n9,λ _ _ _ h=>absurd h.1 (b4q _)⟩,ae⟩
 | n+1=>by
  have ih:=U1 n;exact⟨Sg n ⟨AE,ae⟩ trivial trivial ⟨ih.1,ae⟩,ae⟩
def NU:gl.Good Gu :=
 ⟨ar n9,λ e t a hp=>(U1 (cb e+1)).1.2 e t a (⟨b4m _,hp⟩)⟩
def Gk:aL:=⟨GK,[.r (.st .equation)],λ (q:au)=>⟨(some (bg 62 62 q.left=true/\bg 62 62 q.right=true),[⟨(.int .i64),(cu [q.left,q.right]).1⟩,⟨(.int .i64),(cu [q.left,q.right]).2⟩])⟩⟩
def T4(q:au):Nat->az:=bI
def MU:aL.Good Gk:=by
 refine⟨ar CH,?_⟩;intro (q:au) (hp:bg 62 62 q.left=true/\bg 62 62 q.right=true);refine W9 [] [] [] [Gu] [] [] [] [] trivial trivial trivial ⟨NU,ae⟩ CH Ml (T4 q) (let v2:=dm q.right;let v3:=(0:Int);let v0:=max v3 (dm q.left).1;let v1:=max v3 (dm q.left).2;(((bg 62 62 q.left=true/\(0<=v3/\v3<=1000)/\0<=v3/\v3<=1000)/\((bg 62 62 q.right=true/\(0<=v0/\v0<=1000)/\0<=v1/\v1<=1000)/\(O (max v0 v2.1)->(O (max v1 v2.2)->((max v0 v2.1)=((cu [q.left,q.right]).1)/\(max v1 v2.2)=((cu [q.left,q.right]).2)))))))) ?_;refine⟨?_,?_,λ _ _=>⟨?_,?_⟩⟩;all_goals try and_intros
 all_goals first|with_reducible rfl|with_reducible assumption|exact True.intro|(simp only[b3D,b3C,b3B,b3z] at *;done)|exact hp.1|exact hp.2|(have h1:=QG _ hp.1;have h2:=QG _ hp.2;(try simp only[cu]);omega)
def uW:aL:=⟨Jf,[],⟨(none,[⟨(.st .expr),J.mk 2 0 []⟩])⟩⟩
def Uf :Nat->az:=bI
def NF:aL.cS uW:=by
 refine⟨ar FP,?_⟩;intro  _;refine bX [] [] [] [] [] [] [] [] trivial trivial trivial trivial FP OK (Uf ) ((J.mk (2:Int) (0:Int) [])=(J.mk 2 0 [])) ?_;refine ?_;all_goals try and_intros
 all_goals first|rfl|trivial|omega|(simp only[b3v,b3u,ak,O,bS,cB,bJ,aY] at *;omega)|(simp[ak,O] at *;omega)|grind
def mP(n:Nat):aL:=⟨vG,[.r (.st .expr)],λ (x:J)=>⟨(some (cb x<n/\aM x<=1048576),[⟨(.int .i64),(aM x:Int)⟩])⟩⟩
def uU:aL:=⟨vG,[.r (.st .expr)],λ (x:J)=>⟨(some (aM x<=1048576),[⟨(.int .i64),(aM x:Int)⟩])⟩⟩
def TZ(x:J):Nat->az:=(cP 0 (.b (Nat) (λ k=>k<=x.M.length) (λ k=>x.M.length - k) [2] (λ k=>[(4, .aF ⟨(.int .i64),((k:Int):Int)⟩),(3, .aF ⟨(.int .i64),((1+aG aM (x.M.take k):Int):Int)⟩)])) bI)
def Sa(n:Nat)(hE:bD [mP n]):aL.Good (mP (n+1)):=by
 refine⟨ar mB,?_⟩;intro (x:J) (hp:cb x<n+1/\aM x<=1048576);refine aV [mP n] [] [] [] hE mB Mg (TZ x) (let v0:=(x.M.length:Int);(((∃ k1:Nat,(k1<=x.M.length/\((x=x/\((1:Int)=(1+aG aM (x.M.take k1):Int)/\((0:Int)=(k1:Int)/\True)))/\True)))/\(∀ k1:Nat,let v2:=x.M.getD k1 zE;let v3:=(1+aG aM (x.M.take k1):Int);let v1:=v3+((aM v2:Int));(k1<=x.M.length->(x.M.length<=140737488355328->(O v0->(((decide ((k1:Int)<v0))=true->(x.M.length<=140737488355328->(ak (k1:Int) x.M.length/\((cb v2<n/\aM v2<=1048576)/\(O ((aM v2:Int))->(O v1/\(O ((k1:Int)+(1:Int))/\(∃ k2:Nat,(k2<=x.M.length/\(x.M.length - k2<x.M.length - k1/\((x=x/\(v1=(1+aG aM (x.M.take k2):Int)/\(((k1:Int)+(1:Int))=(k2:Int)/\True)))/\True)))))))))))/\((decide ((k1:Int)<v0))=false->v3=(aM x:Int)))))))))) ?_;rw[zl x] at hp;have f0:=dj x;have f1:=ik aM x.M;refine⟨⟨0,?_,⟨rfl,?_,?_,ae⟩,ae⟩,λ k1 _=>have CO:=fj aM zE x.M k1;have pK:=bY aM x.M k1;have vX:=bY aM x.M (k1+1);have HN:=gT aM x.M k1;have SA:=b9 zE x.M k1;λ _ _=>⟨λ _ _=>⟨?_,?_,λ _=>⟨?_,?_,k1+1,?_,?_,⟨rfl,?_,?_,ae⟩,ae⟩⟩,λ _=>?_⟩⟩;all_goals try and_intros
 all_goals try rw[zl x]
 all_goals first|rfl|trivial|omega|(simp only[b3v,b3u,ak,O,bS,cB,bJ,aY] at *;omega)|(simp[ak,O] at *;omega)|grind
def UX :∀ n,bD [mP n]
 | 0=>⟨⟨ar mB,λ _ h=>absurd h.1 (b4q _)⟩,ae⟩
 | n+1=>by
  have ih:=UX  n;exact⟨Sa n ⟨ih.1,ae⟩,ae⟩
def MQ :aL.Good uU :=
 ⟨ar mB,λ x hp=>(UX  (cb x+1)).1.2 x (⟨b4m _,hp⟩)⟩
end
end Go.Proofs.YtmjfpcajohhbeaaGreatDoor

set_option maxRecDepth 4000
set_option maxHeartbeats 4000000
namespace Go.Proofs.YtmjfpcajohhbeaaGreatDoor
noncomputable section
def UK(ts as_:List J)(x:J)(l:Int):e9 ts as_ x l=if l - 1<0 then (J.mk (0:Int) (0:Int) [],l - 1) else
   if x.aq=3\/x.aq=4 then ((if x.aq=4 then as_ else ts).getD x.aN.toNat zE,l - 1 - ((aM ((if x.aq=4 then as_ else ts).getD x.aN.toNat zE):Int) - 1)) else
   (J.mk x.aq x.aN (dS ts as_ x.M (l - 1)).1,(dS ts as_ x.M (l - 1)).2):=by
 cases x with
 | mk k n ks=>rw[e9]
def a4S{ts as_:List J}{x:J}{l:Int}(h:l - 1<0):(e9 ts as_ x l).1=J.mk (0:Int) (0:Int) []/\(e9 ts as_ x l).2=l - 1:=by rw[UK,b4d h];exact⟨rfl,rfl⟩
def a4P{ts as_:List J}{x:J}{l:Int}(h:¬ l - 1<0)(h3:x.aq=3):(e9 ts as_ x l).1=ts.getD x.aN.toNat zE/\(e9 ts as_ x l).2=l - 1 - ((aM (ts.getD x.aN.toNat zE):Int) - 1):=by
 rw[UK,b3H h,b4d (.inl h3),b3H (by omega)];exact⟨rfl,rfl⟩
def a4Q{ts as_:List J}{x:J}{l:Int}(h:¬ l - 1<0)(h4:x.aq=4):(e9 ts as_ x l).1=as_.getD x.aN.toNat zE/\(e9 ts as_ x l).2=l - 1 - ((aM (as_.getD x.aN.toNat zE):Int) - 1):=by
 rw[UK,b3H h,b4d (.inr h4),b4d h4];exact⟨rfl,rfl⟩
def a4R{ts as_:List J}{x:J}{l:Int}(h:¬ l - 1<0)(h3:¬ x.aq=3)(h4:¬ x.aq=4)(i:Nat)(hi:x.M.length<=i):(e9 ts as_ x l).1=J.mk x.aq x.aN (dS ts as_ (x.M.take i) (l - 1)).1/\(e9 ts as_ x l).2=(dS ts as_ (x.M.take i) (l - 1)).2:=by
 rw[UK,b3H h,b3H (by omega),b3U hi];exact⟨rfl,rfl⟩
def Zp(ts as_:List J):∀ (xs:List J) (y:J) (l:Int),dS ts as_ (xs++[y]) l=((dS ts as_ xs l).1++[(e9 ts as_ y (dS ts as_ xs l).2).1],(e9 ts as_ y (dS ts as_ xs l).2).2)
 | [],y,l=>by rw[b3Y,dS,dS];rfl
 | x::xs,y,l=>by rw[b4M,dS,Zp ts as_ xs y,dS];rfl
def J5(ts as_:List J)(x:J)(i:Nat)(l:Int)(hi:i<x.M.length):(dS ts as_ (x.M.take (i+1)) l).1=(dS ts as_ (x.M.take i) l).1++[(e9 ts as_ (x.M.getD i zE) (dS ts as_ (x.M.take i) l).2).1] /\
  (dS ts as_ (x.M.take (i+1)) l).2=(e9 ts as_ (x.M.getD i zE) (dS ts as_ (x.M.take i) l).2).2:=by
 rw[cj zE x.M i hi,Zp];exact⟨rfl,rfl⟩
mutual
def a8W(ts as_:List J):∀ (x:J) (l:Int),l - (aM (dr ts as_ x):Int)<=(e9 ts as_ x l).2
 | ⟨k,n,ks⟩,l=>by
  have hp:=Bs (dr ts as_ ⟨k,n,ks⟩);rw[dr] at hp ⊢;rw[e9];by_cases h0:l - 1<0
  .rw[if_pos h0];dsimp only;omega
  .rw[b3H h0];by_cases h3:k=3
   .subst h3;rw[if_pos (Or.inl rfl:(3:Int)=3\/(3:Int)=4),if_pos rfl,if_neg (show ¬ (3:Int)=4 by decide)];dsimp only;omega
   .by_cases h4:k=4
    .subst h4;rw[if_pos (Or.inr rfl:(4:Int)=3\/(4:Int)=4),if_neg h3,if_pos rfl,if_pos rfl];dsimp only;omega
    .rw[if_neg h3,if_neg h4,if_neg (show ¬ (k=3\/k=4) by omega),aM];have:=Qo ts as_ ks (l - 1);dsimp only;omega
def Qo(ts as_:List J):∀ (xs:List J) (l:Int),l - (cY (jJ ts as_ xs):Int)<=(dS ts as_ xs l).2
 | [],l=>by rw[dS,jJ,cY];dsimp only;omega
 | x::xs,l=>by
  rw[dS,jJ,cY];have h1:=a8W ts as_ x l;have h2:=Qo ts as_ xs (e9 ts as_ x l).2;dsimp only;omega
end
def My(ts as_:List J):∀ (xs:List J) (i:Nat),i<xs.length->cY (jJ ts as_ (xs.take i))+aM (dr ts as_ (xs.getD i zE))<=cY (jJ ts as_ xs)
 | [],i,h=>by simp at h
 | x::xs,0,h=>by
  rw[b4z,jJ,cY,jJ,cY];show 0+aM (dr ts as_ x)<=_;omega
 | x::xs,i+1,h=>by
  have:=My ts as_ xs i (by simpa using h);rw[List.take_succ_cons,jJ,cY,jJ,cY];show _+aM (dr ts as_ (xs.getD i zE))<=_;omega
def YS(ts as_:List J)(x:J)(h3:¬ x.aq=3)(h4:¬ x.aq=4):aM (dr ts as_ x)=1+cY (jJ ts as_ x.M):=by
 cases x with
 | mk k n ks=>rw[dr,b3H h3,b3H h4,aM]
def a8V{ts as_:List J}{x:J}{l:Int}(h3:¬ x.aq=3)(h4:¬ x.aq=4)(i:Nat)(hi:i<x.M.length)(h:(aM (dr ts as_ x):Int)<=1000000+l)(hl:l<=1000):(aM (dr ts as_ (x.M.getD i zE)):Int)<=1000000+(dS ts as_ (x.M.take i) (l - 1)).2/\(dS ts as_ (x.M.take i) (l - 1)).2<=1000:=by
 have h1:=My ts as_ x.M i hi;have h2:=Qo ts as_ (x.M.take i) (l - 1);have h5:=(J4 ts as_ (x.M.take i) (l - 1)).1;rw[YS ts as_ x h3 h4] at h;omega
def b0W{ts as_:List J}{x:J}{l:Int}(h3:¬ x.aq=3)(h4:¬ x.aq=4)(i:Nat)(h:(aM (dr ts as_ x):Int)<=1000000+l)(hl:l<=1000) : -1000000<=(dS ts as_ (x.M.take i) (l - 1)).2/\(dS ts as_ (x.M.take i) (l - 1)).2<=1000:=by
 have h2:=Qo ts as_ (x.M.take i) (l - 1);have h5:=(J4 ts as_ (x.M.take i) (l - 1)).1;have h6:cY (jJ ts as_ (x.M.take i))<=cY (jJ ts as_ x.M):=by
  rcases b4y i x.M.length with g|g
  .have:=My ts as_ x.M i g;omega
  .rw[b3U g];exact b4h _
 rw[YS ts as_ x h3 h4] at h;omega
structure Ep(ts as_:List J):Prop where
 t:∀ y∈ts,aM y<=1000
 a:∀ y∈as_,aM y<=1000
def Ep.gt{ts as_:List J}(h:Ep ts as_){n:Int}(h0:0<=n)(h1:n<(ts.length:Int)):aM (ts.getD n.toNat zE)<=1000/\aB (ts.getD n.toNat zE)<=1048576:=by
 have:=h.t (ts.getD n.toNat zE) (by
  rw[b3N,b3Z (by omega)];exact b4Q _)
 have:=J9 (ts.getD n.toNat zE);omega
def Ep.ga{ts as_:List J}(h:Ep ts as_){n:Int}(h0:0<=n)(h1:n<(as_.length:Int)):aM (as_.getD n.toNat zE)<=1000/\aB (as_.getD n.toNat zE)<=1048576:=by
 have:=h.a (as_.getD n.toNat zE) (by
  rw[b3N,b3Z (by omega)];exact b4Q _)
 have:=J9 (as_.getD n.toNat zE);omega
def a2b(ts as_:List J):∀ (xs:List J) (l:Int),(dS ts as_ xs l).1.length=xs.length
 | [],l=>by rw[dS]
 | x::xs,l=>by rw[dS,b3G,b3G,a2b ts as_ xs]
def b0Y(ts as_:List J)(x:J)(l:Int):(dS ts as_ (x.M.take 0) l).1=[]/\(dS ts as_ (x.M.take 0) l).2=l:=by rw[b4z,dS];exact⟨rfl,rfl⟩
def mU(n:Nat):gl:=⟨qA,[[.d (.int .i64)]],[.r (.st .expr), .v (.slice (.st .expr)), .v (.slice (.st .expr)), .b 0],[[(.int .i64)]],λ (e:J) (ts:List J) (as_:List J) (l:Int)=>⟨(some (cb e<n/\gb ts as_ e/\bg 62 62 e=true/\Ep ts as_/\(aM (dr ts as_ e):Int)<=1000000+l/\l<=1000),[⟨(.st .expr),(e9 ts as_ e l).1⟩],[[⟨(.int .i64),(e9 ts as_ e l).2⟩]])⟩⟩
def TF:gl:=⟨qA,[[.d (.int .i64)]],[.r (.st .expr), .v (.slice (.st .expr)), .v (.slice (.st .expr)), .b 0],[[(.int .i64)]],λ (e:J) (ts:List J) (as_:List J) (l:Int)=>⟨(some (gb ts as_ e/\bg 62 62 e=true/\Ep ts as_/\(aM (dr ts as_ e):Int)<=1000000+l/\l<=1000),[⟨(.st .expr),(e9 ts as_ e l).1⟩],[[⟨(.int .i64),(e9 ts as_ e l).2⟩]])⟩⟩
def Uh(e:J)(ts:List J)(as_:List J)(l:Int):Nat->az:=(cP 0 (.a (Nat) (λ i=>i<=e.M.length/\¬ e.aq=3/\¬ e.aq=4/\¬ l - 1<0) (λ i=>e.M.length - i) [9,12,13,14,15,16,17,18,19,20,22,23,24,25,26,27,28,29,30,31,32,33,34,35,36,37,38,39,40,69,70,71,72,73,74,75,76,77] (λ i=>[(11, .aF ⟨(.int .i64),((i:Int):Int)⟩)]) [8] (λ i=>[(10, .box [.aF ⟨(.int .i64),(e.aq:Int)⟩, .aF ⟨(.int .i64),(e.aN:Int)⟩, .aw 10100]),(10100, .aw (.st .expr) ((dS ts as_ (e.M.take i) (l - 1)).1:List J)),(400000, .box [.aF ⟨(.int .i64),((dS ts as_ (e.M.take i) (l - 1)).2:Int)⟩])])) bI)
abbrev A2(e:J)(ts:List J)(as_:List J)(l:Int):Prop:=(let v0:=as_.getD (Int.toNat e.aN) zE;let v1:=((aM v0:Int)) - (1:Int);let v2:=e9 ts as_ e l;let v3:=decide (((as_.length:Int))<=e.aN);let v4:=l - (1:Int);(O e.aN ->
 (O ((as_.length:Int)) ->
 ((v3=true ->
 ((aI (J.mk 2 0 []))=(v2.1)/\(v4=(v2.2)/\True)))/\(v3=false ->
 (ak e.aN as_.length/\(aM v0<=1048576/\(O v1/\(O v4 ->
 (O e.aN ->
 (O ((aM v0:Int)) ->
 (O (v4 - v1)/\(O e.aN ->
 (ak e.aN as_.length/\(aB v0<=1048576/\((aI v0)=(v2.1)/\((v4 - v1)=(v2.2)/\True)))))))))))))))))
abbrev PR(n:Nat)(e:J)(ts:List J)(as_:List J)(l:Int):Prop:=(let v0:=((0:Int)=(0:Int)/\((0:Int)=(0:Int)/\(True/\True)))/\True;let v1:=(10:Nat)=10/\(2:Nat)=2;let v2:=e.aq=e.aq/\(e.aN=e.aN/\(True/\True));let v3:=l - 1;let v4:=(e.M.length:Int);(O e.aq ->
 (O e.aN ->
 ((∃ i1:Nat,let v5:=dS ts as_ (e.M.take i1) v3;((i1<=e.M.length/\¬ e.aq=3/\¬ e.aq=4/\¬ l - 1<0)/\((e=e/\(ts=ts/\(as_=as_/\(True/\(True/\(True/\((0:Int)=(i1:Int)/\True)))))))/\(v2/\((v5.1)=[]/\(((l - (1:Int))=(v5.2)/\True)/\v0))))))/\(∀ i1:Nat,let v5:=dS ts as_ (e.M.take i1) v3;let v6:=e.M.getD i1 zE;let v7:=(i1:Int);let v8:=e9 ts as_ v6 (v5.2);((i1<=e.M.length/\¬ e.aq=3/\¬ e.aq=4/\¬ l - 1<0) ->
 (e.M.length<=140737488355328 ->
 (O v4 ->
 (((decide (v7<v4))=true ->
 (e.M.length<=140737488355328 ->
 (O v7 ->
 (ak v7 e.M.length/\(ts.length<=140737488355328 ->
 (as_.length<=140737488355328 ->
 (v1/\((10100:Nat)=10100/\(e=e/\(e=e/\(e.M=e.M/\(e.M=e.M/\(v7=v7/\(ak v7 e.M.length/\(v6=v6/\(ts=ts/\(as_=as_/\(((400000:Nat)=400000/\(0:Nat)=0)/\((cb v6<n/\gb ts as_ v6/\bg 62 62 v6=true/\Ep ts as_/\(aM (dr ts as_ v6):Int)<=1000000+(v5.2)/\(v5.2)<=1000)/\(v1/\((10100:Nat)=10100/\(v1/\((10100:Nat)=10100/\(aY ((v5.1).length+([(aI (v8.1))]).length) 40/\(O (v7+(1:Int))/\(∃ i2:Nat,let v9:=dS ts as_ (e.M.take i2) v3;((i2<=e.M.length/\¬ e.aq=3/\¬ e.aq=4/\¬ l - 1<0)/\(e.M.length - i2<e.M.length - i1/\((e=e/\(ts=ts/\(as_=as_/\(True/\(True/\(True/\((v7+(1:Int))=(i2:Int)/\True)))))))/\(v2/\(((v5.1)++([(aI (v8.1))]))=(v9.1)/\(((v8.2)=(v9.2)/\True)/\v0))))))))))))))))))))))))))))))))/\((decide (v7<v4))=false ->
 ((J.mk e.aq e.aN (v5.1))=((e9 ts as_ e l).1)/\((v5.2)=((e9 ts as_ e l).2)/\True))))))))))))
abbrev A3(e:J)(ts:List J)(as_:List J)(l:Int):Prop:=(let v0:=ts.getD (Int.toNat e.aN) zE;let v1:=((aM v0:Int)) - (1:Int);let v2:=e9 ts as_ e l;let v3:=decide (((ts.length:Int))<=e.aN);let v4:=l - (1:Int);(O e.aN ->
 (O ((ts.length:Int)) ->
 ((v3=true ->
 ((aI (J.mk 2 0 []))=(v2.1)/\(v4=(v2.2)/\True)))/\(v3=false ->
 (ak e.aN ts.length/\(aM v0<=1048576/\(O v1/\(O v4 ->
 (O e.aN ->
 (O ((aM v0:Int)) ->
 (O (v4 - v1)/\(O e.aN ->
 (ak e.aN ts.length/\(aB v0<=1048576/\((aI v0)=(v2.1)/\((v4 - v1)=(v2.2)/\True)))))))))))))))))
def Sf(n:Nat)(hE:bD [uU])(hO:hJ [eA,uW])(hM:jF [])(hS:im [mU n]):gl.Good (mU (n+1)):=by
 refine⟨ar n8,?_⟩;intro (e:J) (ts:List J) (as_:List J) (l:Int) (hp:cb e<n+1/\gb ts as_ e/\bg 62 62 e=true/\Ep ts as_/\(aM (dr ts as_ e):Int)<=1000000+l/\l<=1000);refine gK [uU] [eA,uW] [] [mU n] [48,68,98,99,100] [] [] [] hE hO hM hS n8 ON (Uh e ts as_ l) rfl rfl (let v0:=decide (e.aq=(4:Int));let v1:=PR n e ts as_ l;let v2:=decide (e.aq=(3:Int));let v3:=l - (1:Int);((O l->(O v3/\(O v3->(((decide (v3<(0:Int)))=true->(zE=((e9 ts as_ e l).1)/\(v3=((e9 ts as_ e l).2)/\True)))/\((decide (v3<(0:Int)))=false->(O e.aq->((v0=true->(O e.aq->((v2=false->(O e.aq->((v0=true->(A2 e ts as_ l))/\(v0=false->v1))))/\(v2=(!false)->((true=true->(A2 e ts as_ l))/\(true=false->v1))))))/\(v0=false->(O e.aq->((v2=false->(O e.aq->((v0=true->(A3 e ts as_ l))/\(v0=false->v1))))/\(v2=(!false)->((true=true->(A3 e ts as_ l))/\(true=false->v1))))))))))))))) ?_;obtain⟨hm,g0,g1,g2,g3,g4⟩:=hp;have f0:=λ i (h:i<e.M.length)=>b9 zE e.M i h;have f1:=dj e;have f3:=b0Y ts as_ e (l - 1);have f4:=Bs (dr ts as_ e);have f5:=XD g1;refine λ _=>⟨?_,λ _=>⟨λ _=>⟨?_,?_,ae⟩,λ _ _=>⟨λ _ _=>⟨λ _ _=>⟨λ _ _ _=>⟨λ _=>⟨?_,?_,ae⟩,λ _=>⟨?_,?_,?_,λ _ _ _=>⟨?_,λ _=>⟨?_,?_,?_,?_,ae⟩⟩⟩⟩,λ _ _ _=>⟨⟨0,?_,⟨rfl,rfl,rfl,ae,ae,ae,?_,ae⟩,⟨rfl,rfl,ae,ae⟩,?_,⟨?_,ae⟩,⟨rfl,rfl,ae,ae⟩,ae⟩,λ i1 _ _ _=>⟨λ _ _ _=>⟨?_,λ _ _=>⟨⟨?_,?_⟩,?_,rfl,rfl,rfl,rfl,rfl,?_,rfl,rfl,rfl,⟨?_,?_⟩,?_,⟨?_,?_⟩,?_,⟨?_,?_⟩,?_,?_,?_,i1+1,?_,?_,⟨rfl,rfl,rfl,ae,ae,ae,?_,ae⟩,⟨rfl,rfl,ae,ae⟩,?_,⟨?_,ae⟩,⟨rfl,rfl,ae,ae⟩,ae⟩⟩,λ _=>⟨?_,?_,ae⟩⟩⟩⟩,λ _=>⟨λ _ _ _=>⟨λ _=>⟨?_,?_,ae⟩,λ _=>⟨?_,?_,?_,λ _ _ _=>⟨?_,λ _=>⟨?_,?_,?_,?_,ae⟩⟩⟩⟩,λ _ _ _=>⟨⟨0,?_,⟨rfl,rfl,rfl,ae,ae,ae,?_,ae⟩,⟨rfl,rfl,ae,ae⟩,?_,⟨?_,ae⟩,⟨rfl,rfl,ae,ae⟩,ae⟩,λ i1 _ _ _=>⟨λ _ _ _=>⟨?_,λ _ _=>⟨⟨?_,?_⟩,?_,rfl,rfl,rfl,rfl,rfl,?_,rfl,rfl,rfl,⟨?_,?_⟩,?_,⟨?_,?_⟩,?_,⟨?_,?_⟩,?_,?_,?_,i1+1,?_,?_,⟨rfl,rfl,rfl,ae,ae,ae,?_,ae⟩,⟨rfl,rfl,ae,ae⟩,?_,⟨?_,ae⟩,⟨rfl,rfl,ae,ae⟩,ae⟩⟩,λ _=>⟨?_,?_,ae⟩⟩⟩⟩⟩,λ _ _=>⟨λ _ _=>⟨λ _ _ _=>⟨λ _=>⟨?_,?_,ae⟩,λ _=>⟨?_,?_,?_,λ _ _ _=>⟨?_,λ _=>⟨?_,?_,?_,?_,ae⟩⟩⟩⟩,λ _ _ _=>⟨⟨0,?_,⟨rfl,rfl,rfl,ae,ae,ae,?_,ae⟩,⟨rfl,rfl,ae,ae⟩,?_,⟨?_,ae⟩,⟨rfl,rfl,ae,ae⟩,ae⟩,λ i1 _ _ _=>⟨λ _ _ _=>⟨?_,λ _ _=>⟨⟨?_,?_⟩,?_,rfl,rfl,rfl,rfl,rfl,?_,rfl,rfl,rfl,⟨?_,?_⟩,?_,⟨?_,?_⟩,?_,⟨?_,?_⟩,?_,?_,?_,i1+1,?_,?_,⟨rfl,rfl,rfl,ae,ae,ae,?_,ae⟩,⟨rfl,rfl,ae,ae⟩,?_,⟨?_,ae⟩,⟨rfl,rfl,ae,ae⟩,ae⟩⟩,λ _=>⟨?_,?_,ae⟩⟩⟩⟩,λ _=>⟨λ _ _ _=>⟨λ _=>⟨?_,?_,ae⟩,λ _=>⟨?_,?_,?_,λ _ _ _=>⟨?_,λ _=>⟨?_,?_,?_,?_,ae⟩⟩⟩⟩,λ _ _ _=>⟨⟨0,?_,⟨rfl,rfl,rfl,ae,ae,ae,?_,ae⟩,⟨rfl,rfl,ae,ae⟩,?_,⟨?_,ae⟩,⟨rfl,rfl,ae,ae⟩,ae⟩,λ i1 _ _ _=>⟨λ _ _ _=>⟨?_,λ _ _=>⟨⟨?_,?_⟩,?_,rfl,rfl,rfl,rfl,rfl,?_,rfl,rfl,rfl,⟨?_,?_⟩,?_,⟨?_,?_⟩,?_,⟨?_,?_⟩,?_,?_,?_,i1+1,?_,?_,⟨rfl,rfl,rfl,ae,ae,ae,?_,ae⟩,⟨rfl,rfl,ae,ae⟩,?_,⟨?_,ae⟩,⟨rfl,rfl,ae,ae⟩,ae⟩⟩,λ _=>⟨?_,?_,ae⟩⟩⟩⟩⟩⟩⟩⟩;all_goals try and_intros
 all_goals try (first|with_reducible rfl|with_reducible assumption)
 all_goals try simp only[J.eta,ag.eta,au.eta,aJ,bm,bH] at *
 all_goals first|with_reducible rfl|with_reducible assumption|exact True.intro|(simp only[b3D,b3C,b3B,b3z] at *;done)|((try simp only[b3Y,J.eta,b3v,b3u,b3B,b3z,b3I,b3Q,ak,O,aY,b3J,b3G,b3T,b3M,b3R] at *);first|exact True.intro|omega|(have h1:=a2b ts as_ (e.M.take i1) (l - 1);have h2:=b3R (l:=e.M) (i:=i1);omega)|exact f3.1|exact (f3.1).symm|exact f3.2|exact (f3.2).symm|exact (a4S (by omega)).1|exact ((a4S (by omega)).1).symm|exact (a4S (by omega)).2|exact ((a4S (by omega)).2).symm|exact (a4P (by omega) (by omega)).1|exact ((a4P (by omega) (by omega)).1).symm|exact (a4P (by omega) (by omega)).2|exact ((a4P (by omega) (by omega)).2).symm|exact (a4Q (by omega) (by omega)).1|exact ((a4Q (by omega) (by omega)).1).symm|exact (a4Q (by omega) (by omega)).2|exact ((a4Q (by omega) (by omega)).2).symm|exact (a4R (by omega) (by omega) (by omega) i1 (by omega)).1|exact ((a4R (by omega) (by omega) (by omega) i1 (by omega)).1).symm|exact (a4R (by omega) (by omega) (by omega) i1 (by omega)).2|exact ((a4R (by omega) (by omega) (by omega) i1 (by omega)).2).symm|exact (J5 _ _ _ _ _ (by omega)).1|exact ((J5 _ _ _ _ _ (by omega)).1).symm|exact (J5 _ _ _ _ _ (by omega)).2|exact ((J5 _ _ _ _ _ (by omega)).2).symm|exact sD g1 _ (by omega)|(have h1:=f0 i1 (by omega);omega)|exact YP g0 (by omega) (by omega) i1 (by omega)|(have h1:=a8V (ts:=ts) (as_:=as_) (l:=l) (by omega) (by omega) i1 (by omega) g3 g4;omega)|(have h1:=b0W (ts:=ts) (as_:=as_) (l:=l) (by omega) (by omega) i1 g3 g4;omega)|(have h1:=kO g1 (.inl (by omega));have h2:=a4o g0 (by omega);have h3:=g2.gt h1.1 h2;omega)|(have h1:=kO g1 (.inr (by omega));have h2:=a4n g0 (by omega);have h3:=g2.ga h1.1 h2;omega))
def U0:∀ n,im [mU n]
 | 0=>⟨⟨ar n8,λ _ _ _ _ h=>absurd h.1 (b4q _)⟩,ae⟩
 | n+1=>by
  have ih:=U0 n;exact⟨Sf n ⟨MQ,ae⟩ ⟨fD,NF,ae⟩ trivial ⟨ih.1,ae⟩,ae⟩
def NT:gl.Good TF :=
 ⟨ar n8,λ e ts as_ l hp=>(U0 (cb e+1)).1.2 e ts as_ l (⟨b4m _,hp⟩)⟩
def Ep.of{gg:aU}{ts as_:List J}(h:bp (cD gg) ts=true)(h2:bp (cD gg) as_=true):Ep ts as_ :=
 ⟨λ y hy=>by have:=(yq gg y).1 (xb _ _ h y hy);omega,λ y hy=>by have:=(yq gg y).1 (xb _ _ h2 y hy);omega⟩
def Ep.zt{ts as_:List J}(h:Ep ts as_)(n:Nat):aM (ts.getD n zE)<=1000:=by
 rcases b4y n ts.length with g|g
 .have:=(h.gt (n:=(n:Int)) (by omega) (by omega)).1;simpa using this
 .rw[b3N,b5A g];exact b4B rfl
def Ep.za{ts as_:List J}(h:Ep ts as_)(n:Nat):aM (as_.getD n zE)<=1000:=by
 rcases b4y n as_.length with g|g
 .have:=(h.ga (n:=(n:Int)) (by omega) (by omega)).1;simpa using this
 .rw[b3N,b5A g];exact b4B rfl
mutual
def a1p{ts as_:List J}(h:Ep ts as_):∀ x:J,aM (dr ts as_ x)<=1000 * aM x
 | ⟨k,n,ks⟩=>by
  have hx:=Bs (J.mk k n ks);rw[dr];split
  .have:=h.zt n.toNat;omega
  .split
   .have:=h.za n.toNat;omega
   .have:=YU h ks;rw[aM,aM];omega
def YU{ts as_:List J}(h:Ep ts as_):∀ xs:List J,cY (jJ ts as_ xs)<=1000 * cY xs
 | []=>by rw[jJ];simp[cY]
 | x::xs=>by
  have h1:=a1p h x;have h2:=YU h xs;rw[jJ,cY,cY];omega
end
def Ym(e:J)(ts as_:List J):J:=(e9 ts as_ e 200).1
def b2J{gg:aU}{e:J}{ts as_:List J}(b:Bool)(h:0<=(e9 ts as_ e 200).2)(h2:z6 gg (e9 ts as_ e 200).1=b)(hg:bP gg=true):cD gg (dr ts as_ e)=b:=by
 rw[Qj hg] at h2;rw[<-(UL gg ts as_ e).1,b4k h,h2];rfl
def b2I{gg:aU}{e:J}{ts as_:List J}(h:¬ 0<=(e9 ts as_ e 200).2):cD gg (dr ts as_ e)=false:=by
 rw[<-(UL gg ts as_ e).1,b3K h];rfl
def UO{gg:aU}{e:J}{ts as_:List J}(h:cD gg (dr ts as_ e)=true):Ym e ts as_=dr ts as_ e:=by
 refine (UL gg ts as_ e).2 ?_;rw[<-(UL gg ts as_ e).1,b3A,b3v] at h;exact h.1
end
end Go.Proofs.YtmjfpcajohhbeaaGreatDoor

namespace Go.Proofs.YtmjfpcajohhbeaaGreatDoor
noncomputable section
open Go.RowKit
mutual
def Ow.lt{w:World}:∀ (d:D) {cs:List Value} {fp:List Nat},Ow w d cs fp->∀ b∈fp,b<w.heap.size
 | .int _ _,_,_,h=>λ b hb=>by rw[h.2] at hb;cases hb
 | .bool _,_,_,h=>λ b hb=>by rw[h.2] at hb;cases hb
 | .str _,_,_,h=>λ b hb=>by rw[h.2] at hb;cases hb
 | .slice n xs,_,_,h=>λ b hb=>by
  obtain⟨a,cap,h1,h2,h3,h4,h5⟩:=h;rcases h5 with ⟨_,_,rfl⟩|⟨b',f,l,t,rfl,rfl,hh,_,hr⟩
  .cases hb
  .rcases b3S.1 hb with rfl|hb
   .exact (b4H.1 hh).1
   .exact bQ.lt xs hr b hb
 | .agg ds,_,_,h=>cT.lt ds h
 | .hole,_,_,h=>λ b hb=>by rw[h.2] at hb;cases hb
 | .ptr,_,_,h=>λ b hb=>by rw[h.2] at hb;cases hb
def cT.lt{w:World}:∀ (ds:List D) {cs:List Value} {fp:List Nat},cT w ds cs fp->∀ b∈fp,b<w.heap.size
 | [],_,_,h=>λ b hb=>by rw[h.2] at hb;cases hb
 | d::ds,_,_,h=>λ b hb=>by
  obtain⟨v,r,f1,f2,_,rfl,h3,h4⟩:=h;rcases b3y.1 hb with hb|hb
  .exact Ow.lt d h3 b hb
  .exact cT.lt ds h4 b hb
def bQ.lt{w:World}:∀ (ds:List D) {l:List Value} {fp:List Nat},bQ w ds l fp->∀ b∈fp,b<w.heap.size
 | [],_,_,h=>λ b hb=>by rw[show _=[] from h] at hb;cases hb
 | d::ds,_,_,h=>λ b hb=>by
  obtain⟨c,r,f1,f2,_,rfl,h3,h4⟩:=h;rcases b3y.1 hb with hb|hb
  .exact Ow.lt d h3 b hb
  .exact bQ.lt ds h4 b hb
end
structure Nd(w:World)(b o:Nat)(x:J)(L:List Value)(t:TypeId)(fy:List Nat):Prop where
 h:w.heap[b]?=some (.cells L.toArray t (0,0))
 l:o+3<=L.length
 ow:Ow w x.aP ((L.drop o).take 3) fy
 nb:b∉fy
 nd:fy.Nodup
def Pl(w:World)(lo B:Nat)(x:J):Prop:=∃ cs t fp,w.heap[B]?=some (.cells cs.toArray t (0,0))/\Ow w x.aP cs fp/\∀ q∈fp,lo<=q
structure FC(w:World)(lo B:Nat)(x:J)(ks:List Int)(b o:Nat)(L:List Value)(t:TypeId)(fy:List Nat):Prop where
 nd:Nd w b o (dN x ks) L t fy
 flo:∀ q∈fy,lo<=q
 lb:lo<=b
 put:∀ (w':World) (y:J) (c:List Value) (f:List Nat),(∀ k,k<w.heap.size->k≠b->k∉fy->w'.heap[k]?=w.heap[k]?)->w'.heap[b]?=some (.cells (L.take o++c++L.drop (o+3)).toArray t (0,0))->c.length=3->Ow w' y.aP c f->(∀ q∈f,lo<=q)->Pl w' lo B (fU y x ks)
def b0N(w:World)(lo B:Nat)(x:J)(cs:List Value)(t:TypeId)(fp:List Nat)(h:w.heap[B]?=some (.cells cs.toArray t (0,0)))(ho:Ow w x.aP cs fp)(hb:B∉fp)(hn:fp.Nodup)(hB:lo<=B)(hl:∀ q∈fp,lo<=q):FC w lo B x [] B 0 cs t fp:=by
 have hl6:cs.length=3:=(Ow.length _ ho).trans (by cases x;rfl);refine⟨⟨h,by omega,?_,hb,hn⟩,hl,hB,λ w' y c f hk hh hc hw hf=>⟨c,t,f,?_,hw,hf⟩⟩
 .rw[b5F,b3U (by omega)];exact ho
 .rw[b4z,b3Y,List.drop_of_length_le (by omega),b4N] at hh;exact hh
def On(y:J)(k:Int):∀ (ks:List Int) (x:J),fU (J.mk (dN x ks).aq (dN x ks).aN ((dN x ks).M.set k.toNat y)) x ks=fU y x (ks++[k])
 | [],x=>rfl
 | j::ks,x=>by
  simp only[b4M,fU,dN];rw[On y k ks]
def S9(w:World)(z:J)(cs:List Value)(fy:List Nat)(h:Ow w z.aP cs fy):∃ c0 v,cs=c0++[v]/\c0.length=2/\Ow w (.slice 3 (z.M.map J.aP)) [v] fy /\
  ∀ (w':World) (ks:List J) (f:List Nat),Ow w' (.slice 3 (ks.map J.aP)) [v] f->Ow w' (J.mk z.aq z.aN ks).aP cs f:=by
 cases z with
 | mk k n ks =>
  simp only[J.aP,J.tV] at h;obtain⟨v0,r0,f0,g0,rfl,rfl,a0,v1,r1,f1,g1,rfl,rfl,a1,v2,r2,f2,g2,rfl,rfl,a2,rfl,rfl⟩:=h;have e0:f0=[]:=a0.2;have e1:f1=[]:=a1.2;subst e0 e1;refine⟨[v0,v1],v2,rfl,rfl,by simpa using a2,λ w' ks' f hw=>?_⟩;simp only[J.aP,J.tV];exact⟨v0,_,[],f,rfl,rfl,(a0.aS _ λ b hb=>(by cases hb)),v1,_,[],f,rfl,rfl,(a1.aS _ λ b hb=>(by cases hb)),v2,[],f,[],rfl,by simp,hw,rfl,rfl⟩
def a5X(x:J):x.aP.size=3:=by cases x;rfl
def a3p{w:World}{lo B:Nat}{x:J}{ks:List Int}{b o:Nat}{L:List Value}{t:TypeId}{fy:List Nat}(h:FC w lo B x ks b o L t fy) :
  ∃ a cap,w.cell? ⟨b,o+2,none⟩=some (.slice a (dN x ks).M.length cap)/\(dN x ks).M.length<=140737488355328:=by
 obtain⟨c0,v,e1,e2,e4,_⟩:=S9 w _ _ _ h.nd.ow;obtain⟨a,cap,q1,_,_,q4,_⟩:=e4;simp only[b3F,b3L,b3M] at q1 q4;subst q1;refine⟨a,cap,?_,q4⟩;have hl:=h.nd.l;have h5:((L.drop o).take 3)[2]?=some (.slice a (dN x ks).M.length cap):=by rw[e1,b4V (by omega),e2];rfl
 rw[b6o (by omega),b5h] at h5;simp[World.cell?,h.nd.h,h5]
def a3q{w:World}{lo B:Nat}{x:J}{ks:List Int}{b o:Nat}{L:List Value}{t:TypeId}{fy:List Nat}(h:FC w lo B x ks b o L t fy)(k:Int)(hk:0<=k/\k<((dN x ks).M.length:Int)) :
  ∃ bk cap L' t' fy',w.cell? ⟨b,o+2,none⟩=some (.slice (some ⟨bk,0,none⟩) (dN x ks).M.length cap)/\(dN x ks).M.length<=140737488355328/\FC w lo B x (ks++[k]) bk (k.toNat * 3) L' t' fy':=by
 obtain⟨c0,v,e1,e2,e4,e5⟩:=S9 w _ _ _ h.nd.ow;obtain⟨a,cap,q1,q2,q3,q4,q5⟩:=id e4;simp only[b3F,b3L,b3M] at q1 q2 q4;subst q1;have hl:=h.nd.l;have h5:((L.drop o).take 3)[2]?=some (.slice a (dN x ks).M.length cap):=by rw[e1,b4V (by omega),e2];rfl
 rw[b6o (by omega),b5h] at h5;rcases q5 with ⟨q5,_⟩|⟨bk,f,l,t',rfl,rfl,hb,hc,hr⟩
 .have:(dN x ks).M=[]:=b5P.1 q5;rw[this] at hk;simp at hk;omega
 have KU:k.toNat<(dN x ks).M.length:=by omega
 have hn6:∀ d∈(dN x ks).M.map J.aP,d.size=3:=λ d hd=>by
  obtain⟨y,_,rfl⟩:=b3E.1 hd;exact a5X y
 obtain⟨f0,f1,f2,rfl,hlen,hw1,Dl⟩:=bQ.split _ k.toNat ((dN x ks).M.getD k.toNat zE).aP hr hn6 (by simp[KU]);have hnk:=h.nd.nd;have hnb:=h.nd.nb;have a7a:=(b4n.1 hnk);have a9L:=b4a.1 a7a.2;have a9M:=b4a.1 a9L.1;refine⟨bk,cap,l,t',f1,?_,q4,⟨hb,hlen,?_,λ q=>a7a.1 (by simp[q]),a9M.2.1⟩,λ q hq=>h.flo q (by simp[hq]),h.flo bk (by simp),λ w' y c f' gd hh EZ hw hlo=>?_⟩
 .simp[World.cell?,h.nd.h,h5]
 .rw[(W0 k ks x).2.1];exact hw1
 .rw[<-On];have hbk:b≠bk:=λ e=>hnb (by simp[e]);have bK:=λ q hq=>Ow.lt _ h.nd.ow q hq;refine h.put w' _ ((L.drop o).take 3) (bk::(f0++f'++f2)) (λ q h1 h2 h3=>gd q h1 (λ e=>h3 (by simp[e])) λ e=>h3 (by simp[e])) ?_ (by simp;omega) ?_ (λ q hq=>?_)
  .rw[gd b (b4H.1 h.nd.h).1 hbk λ e=>hnb (by simp[e]),h.nd.h];congr 2;have e6:L.drop (o+3)=(L.drop o).drop 3:=by rw[b5j]
   rw[e6,b4x,b4K,b4K]
  .refine e5 w' _ _ ?_;refine⟨_,cap,by rw[b3M,b4Y],by rw[b3M,b4Y];exact q2,q3,by rw[b3M,b4Y];exact q4, .inr ⟨bk,f0++f'++f2,_,t',rfl,rfl,hh,?_,?_⟩⟩
   .simp only[b3J,b3R,b4L,EZ];omega
   .rw[b6x];exact Dl w' y.aP c f' (λ q hq=>gd q (bK q (by simp only[b3y,b3S] at hq ⊢;rcases hq with hq|hq<;>simp[hq])) (λ e=>a7a.1 (by rw[<-e];simp only[b3y] at hq ⊢;rcases hq with hq|hq<;>simp[hq])) λ e=>by
     rcases b3y.1 hq with hq|hq
     .exact a9M.2.2 q hq q e rfl
     .exact a9L.2.2 q (by simp[e]) q hq rfl) EZ hw
  .simp only[b3y,b3S] at hq;rcases hq with rfl|((hq|hq)|hq)
   .exact h.flo q (by simp)
   .exact h.flo q (by simp[hq])
   .exact hlo q hq
   .exact h.flo q (by simp[hq])
end
end Go.Proofs.YtmjfpcajohhbeaaGreatDoor

set_option maxRecDepth 4000
set_option maxHeartbeats 4000000
namespace Go.Proofs.YtmjfpcajohhbeaaGreatDoor
noncomputable section
open Go.RowKit Go.Proofs
def JP{w:World}{b:Nat}{cs:List Value}{t:TypeId}(h:w.heap[b]?=some (.cells cs.toArray t (0,0))):cd w b 0 cs:=λ j v hj=>by
 simp[World.cell?,h,hj]
def fi{X Y Z:Nat->Prop}{a b c:World}(h:bC X a b)(k:bC Y b c)(hX:∀ i,i<a.heap.size->X i->Z i)(hY:∀ i,i<a.heap.size->Y i->Z i):bC Z a c :=
 ⟨k.os.trans h.os,k.tape.trans h.tape,k.output.trans h.output,b5r h.size k.size,λ i hi hz=>(k.block i (b3P hi h.size) λ q=>hz (hY i hi q)).trans (h.block i hi λ q=>hz (hX i hi q))⟩
def Ol(w:World)(o:Obj):bC (λ _=>False) w (w.alloc o)/\(w.alloc o).heap[w.heap.size]?=some o/\(w.alloc o).heap.size=w.heap.size+1:=by
 refine⟨⟨rfl,rfl,rfl,by simp,λ b hb _=>?_⟩,?_,by simp⟩
 .show (w.heap.push o)[b]?=_;rw[b4D,b3H];omega
 .show (w.heap.push o)[w.heap.size]?=_;rw[b4D,b4d rfl]
def a9d{w W:World}{o1 o2 o3:Obj}(h:((w.alloc o1).alloc o2).alloc o3=W) :
  bC (λ _=>False) w W/\W.heap[w.heap.size]?=some o1/\W.heap[w.heap.size+1]?=some o2/\W.heap[w.heap.size+1+1]?=some o3/\W.heap.size=w.heap.size+3:=by
 subst h;refine⟨⟨rfl,rfl,rfl,by simp;omega,λ b hb _=>?_⟩,?_,?_,?_,by simp⟩
 .show (((w.heap.push o1).push o2).push o3)[b]?=_;rw[b4D,b4D,b4D,b3H (by simp only[b5p];omega),b3H (by simp only[b5p];omega),b3H (by omega)]
 .show (((w.heap.push o1).push o2).push o3)[w.heap.size]?=_;rw[b4D,b4D,b4D,b3H (by simp only[b5p];omega),b3H (by simp only[b5p];omega),b4d rfl]
 .show (((w.heap.push o1).push o2).push o3)[w.heap.size+1]?=_;rw[b4D,b4D,b3H (by simp only[b5p];omega),b4d (by simp only[b5p])]
 .show (((w.heap.push o1).push o2).push o3)[w.heap.size+1+1]?=_;rw[b4D,b4d (by simp only[b5p])]
def a3Q{w0 w:World}{S:Nat->Prop}(hS:ua w0 S)(hb:Below w0.heap.size w0 w):ua w S :=
 ⟨λ b h=>b3P (hS.1 b h) hb.size,hS.2.mono (λ _ h=>h) λ b h=>hb.block b (hS.1 b h)⟩
def Xg{w0 w:World}{S:Nat->Prop}(hS:ua w0 S)(hb:Below w0.heap.size w0 w){d:D}{cs:List Value}(r:Rd w0 S d cs):Rd w S d cs:=Rd.aS (λ _ h=>h) (λ b h=>hb.block b (hS.1 b h)) _ r
def s6{B:Nat}{w w':World}(h:bC (λ _=>False) w w')(hB:B<=w.heap.size):Below B w w':=⟨h.os,h.tape,h.output,h.size,λ k hk=>h.block k (by omega) id⟩
def H6{w0 w:World}(hb:Below w0.heap.size w0 w){b o:Nat}{cs:List Value}(h:cd w0 b o cs)(h1:b<w0.heap.size):cd w b o cs:=h.aS (hb.block b h1)
def fz0{w:World}{g e j:Nat}{cur:Array Value}(h:w.heap[g]?=some (.cells cur e (0,0))):w.frozen? ⟨g,j,none⟩=false:=by simp[World.frozen?,h]
def QZ{w:World}{b t:Nat}{u0 u1 u2:Value}(h:w.heap[b]?=some (.cells #[u0,u1,u2] t (0,0))):(w.cell? ⟨b,0,none⟩=some u0/\w.cell? ⟨b,1,none⟩=some u1/\w.cell? ⟨b,2,none⟩=some u2)/\w.frozen? ⟨b,0,none⟩=false/\w.frozen? ⟨b,1,none⟩=false/\w.frozen? ⟨b,2,none⟩=false :=
 ⟨⟨by simp[World.cell?,h],by simp[World.cell?,h],by simp[World.cell?,h]⟩,fz0 h,fz0 h,fz0 h⟩
def QA{w:World}{b t:Nat}{u0 u1 u2:Value}(c0 c1 c2:Value)(h:w.heap[b]?=some (.cells #[u0,u1,u2] t (0,0))):(((w.setCell ⟨b,0,none⟩ c0).setCell ⟨b,1,none⟩ c1).setCell ⟨b,2,none⟩ c2).heap[b]?=some (.cells #[c0,c1,c2] t (0,0)) /\
  ∀ k,k≠b->(((w.setCell ⟨b,0,none⟩ c0).setCell ⟨b,1,none⟩ c1).setCell ⟨b,2,none⟩ c2).heap[k]?=w.heap[k]? :=
 ⟨b6U _ _ _ _ _ _ (b6U _ _ _ _ _ _ (b6U _ _ _ _ _ _ h)),λ k hk=>by rw[b6L _ _ _ _ hk,b6L _ _ _ _ hk,b6L _ _ _ _ hk]⟩
def ow3{w:World}{x:J}{c:List Value}{fp:List Nat}(h:Ow w x.aP c fp):∃ a m cap,c=[.int .i64 x.aq, .int .i64 x.aN, .slice a m cap]:=by
 cases x with
 | mk k n ks =>
  simp only[J.aP,J.tV] at h;obtain⟨v0,r0,f0,g0,rfl,rfl,a0,v1,r1,f1,g1,rfl,rfl,a1,v2,r2,f2,g2,rfl,rfl,a2,rfl,rfl⟩:=h;have e0:[v0]=[.int .i64 k]:=a0.1.1;have e1:[v1]=[.int .i64 n]:=a1.1.1;obtain⟨a,cap,e2,_⟩:=a2;simp only[b3F,b3L] at e0 e1 e2;subst e0 e1 e2;exact⟨a,_,cap,rfl⟩
def bC.drew{X:Nat->Prop}{w w':World}(h:bC X w w'):bC X w w'.drew:=⟨h.os,h.tape,h.output,h.size,h.block⟩
def Rd.drew{w:World}{S:Nat->Prop}{d:D}{cs:List Value}(h:Rd w S d cs):Rd w.drew S d cs:=Rd.aS (w:=w) (w':=w.drew) (λ _ h=>h) (λ _ _=>rfl) _ h
def a5K{w0 w:World}{S:Nat->Prop}(hS:ua w0 S)(hb:Below w0.heap.size w0 w)(e:J)(ts as_:List J)(l:Int)(hp:gb ts as_ e/\bg 62 62 e=true/\Ep ts as_/\(aM (dr ts as_ e):Int)<=1000000+l/\l<=1000)(hl : -1000000<=l)
  (b o:Nat) (cs:List Value) (h1:b<w.heap.size) (h2:cd w b o cs) (r:Rd w0 S e.aP cs) (v3 v4:Value) (r3:Rd w0 S (.slice 3 (ts.map J.aP)) [v3]) (r4:Rd w0 S (.slice 3 (as_.map J.aP)) [v4]) (q:Nat) (t:TypeId) (hq:w.heap[q]?=some (.cells #[.int .i64 l] t (0,0))) (hq0:w0.heap.size<=q) (hbq:b≠q) :
  Calls prog qA #[.pointer (some ⟨b,o,none⟩),v3,v4, .pointer (some ⟨q,0,none⟩)] w λ x w'=>∃ (k' n':Int) (a':Option Addr) (m' c':Nat) (fp:List Nat) (t':TypeId),x = .returned (.agg #[.int .i64 k', .int .i64 n', .slice a' m' c'])/\bC (λ b=>b=q) w w'/\Ow w' (e9 ts as_ e l).1.aP [.int .i64 k', .int .i64 n', .slice a' m' c'] fp/\fp.Nodup /\
   (∀ b∈fp,w.heap.size<=b/\b<w'.heap.size)/\w'.heap[q]?=some (.cells #[.int .i64 (e9 ts as_ e l).2] t' (0,0)):=by
 have hi:O l:=⟨by show (-9223372036854775808:Int)<=l;omega,by show l<=9223372036854775807;omega⟩;have hnS:¬ S q:=λ h=>by have:=hS.1 q h;omega
 refine (NT.2 e ts as_ l hp w S (λ _=>q) [_,_,_,_] [] (a3Q hS hb) ⟨_,t,[],[],rfl,hq,⟨⟨rfl,rfl,rfl,hi⟩,rfl⟩,rfl⟩ b4I (by simp) (λ k hk=>⟨bB hq,hnS⟩) (λ j k hj hk _=>by
   have hj:j<1:=hj;have hk:k<1:=hk;omega)
  ⟨⟨b,o,cs,rfl,h1,(λ h=>by rcases h with h|⟨k,_,h⟩;cases h;exact hbq h),h2,Xg hS hb r⟩,Xg hS hb r3,Xg hS hb r4,rfl,ae⟩).mono ?_
 rintro x w' ⟨v,S',fp,KB,rfl,hk,_,_,_,cO,hB,hn,hf,_⟩;obtain⟨c,rfl,ho⟩:=(show ∃ cs,v = .agg cs.toArray/\Ow w' (e9 ts as_ e l).1.aP cs fp from cO);obtain⟨lc,t',f1,f2,e1,X1,hR,e2⟩:=hB;have e2:f2=[]:=e2;match lc,hR with
 | [u],⟨⟨_,_,hu,_⟩,e3⟩ =>
  have hu:[u]=[.int .i64 (e9 ts as_ e l).2]:=hu;simp only[b3F,b3L] at hu;subst hu;obtain⟨a,m,cap,rfl⟩:=ow3 ho;refine⟨_,_,_,_,_,fp,t',rfl,⟨hk.os,hk.tape,hk.output,hk.size,λ i hi hq=>hk.block i hi λ h=>?_⟩,ho,(b4a.1 hn).1,λ i hi=>?_,X1⟩
  .rcases h with h|⟨k,_,h⟩
   .cases h
   .exact hq h
  .have:=(hf i (b5E _ hi)).1;rcases this with h|h
   .cases h
   .exact h
def R4{w0 w:World}{S:Nat->Prop}(hS:ua w0 S)(hb:Below w0.heap.size w0 w)(gg:aU)(g0 g1:Value)(r1:Rd w0 S (aQ.sig.aP gg) [g0,g1])(x:J)(b o:Nat)(cs:List Value)(h1:b<w.heap.size)(h2:cd w b o cs)(r:Rd w (λ b=>b<w.heap.size) x.aP cs) :
  Calls prog B9 #[.agg #[g0,g1], .pointer (some ⟨b,o,none⟩)] w λ e w'=>e = .returned (.bool (z6 gg x))/\bC (λ _=>False) w w':=by
 have hA:ua w λ b=>b<w.heap.size:=⟨λ _ h=>h,hS.2.mono (λ b h=>b3P (hS.1 b h) hb.size) λ b h=>hb.block b (hS.1 b h)⟩;refine (mH.2 gg x trivial w _ [_,_] hA ⟨⟨[g0,g1],rfl,r1.aS (λ b h=>b3P (hS.1 b h) hb.size) λ b h=>hb.block b (hS.1 b h)⟩,⟨b,o,cs,rfl,h1,h2,r⟩,ae⟩).mono ?_;rintro e w' ⟨v,S',res,rfl,rfl,lF,_,_,hr⟩;have hr:[v]=[.bool (z6 gg x)]:=hr;simp only[b3F,b3L] at hr;subst hr;exact⟨rfl,lF⟩
def E0:Env:=Mw [] [] [] []
def hE0:bE prog E0:=Ra trivial
def ld3{w:World}{g o:Nat}{cs:List Value}(hc:cd w g o cs)(hl:cs.length=3):(Instr.loadAt 38 (.pointer (some ⟨g,o,none⟩))).run prog w = .ok (.agg cs.toArray) w :=
 jM hE0 (T:=38) (τ := .st .expr) rfl hc hl
def Bw{f:Func}{a:Act}{w:World}{b:Nat}{cs:List Value}{t:TypeId}{n:Value}(hf:f.results = #[.cell 8 38, .tmp 9])(h8:a.tmps.getD 8 undef = .pointer (some ⟨b,0,none⟩))(h9:a.tmps.getD 9 undef=n)(hb:w.heap[b]?=some (.cells cs.toArray t (0,0)))(hl:cs.length=3)(hd:a.defers=[])
  {R:Ending->World->Prop} (hR:R (.returned (.tuple #[.agg cs.toArray,n])) w):bodyPost prog f R .ret a w:=by
 refine bodyPost_ret ?_ hd hR;have cG:=ld3 (JP hb) hl;simp only[Instr.loadAt,Instr.sureAddr,b4c,b4i,b3X] at cG;rw[tR,b5C];simp only[b4c,b7f,hf,b5Y,List.mapM_nil,mZ,h8,h9,asAddr,b4i,b3X,cG];rfl
def SH{w w3:World}{q:Nat}{t:TypeId}{u0 u1 u2:Value}(c0 c1 c2:Value)(hk:bC (λ _=>False) w w3)(h:w3.heap[q]?=some (.cells #[u0,u1,u2] t (0,0)))(hq:w.heap.size<=q):bC (λ _=>False) w (((w3.setCell ⟨q,0,none⟩ c0).setCell ⟨q,1,none⟩ c1).setCell ⟨q,2,none⟩ c2) /\
  (((w3.setCell ⟨q,0,none⟩ c0).setCell ⟨q,1,none⟩ c1).setCell ⟨q,2,none⟩ c2).heap.size=w3.heap.size :=
 ⟨⟨hk.os,hk.tape,hk.output,by simpa using hk.size,λ b hb _=>((QA c0 c1 c2 h).2 b (by omega)).trans (hk.block b hb id)⟩,by simp⟩
structure suP(gg:aU)(e:J)(ts as_:List J):Prop where
 s:bP gg=true
 f:gb ts as_ e
 t:bg 62 62 e=true
 n:Ep ts as_
 d:aM e<=500
set_option maxRecDepth 100000 in
def a5W(gg:aU)(e:J)(ts as_:List J)(hp:suP gg e ts as_):rm prog zh [.val ⟨.st .sig,gg⟩, .ref ⟨.st .expr,e⟩, .val ⟨.slice (.st .expr),ts⟩, .val ⟨.slice (.st .expr),as_⟩] [⟨.st .expr,Ym e ts as_⟩,⟨.bool,cD gg (dr ts as_ e)⟩]:=by
 intro w S cA fa hS ha n1 n2 n3;clear n1 n2 n3;match cA,ha with
 | [v1,v2,v3,v4],⟨a1,b1,e1,⟨z1,⟨c1,y1,r1⟩⟩,a2,b2,e2,⟨z2,⟨b,o,cs,y2,hb,hc,r2⟩⟩,a3,b3,e3,⟨z3,r3⟩,a4,b4,e4,⟨z4,r4⟩,e5⟩ =>
 have e5:b4=[]:=e5;subst e5 z1 z2 z3 z4 y1 y2;have e4:b3=[]:=e4;subst e4;have e3:b2=[]:=e3;subst e3;have e2:b1=[]:=e2;subst e2;have e1:fa=[]:=e1;subst e1;clear e1 e2 e3 e4 e5 ha;have r3:Rd w S (.slice 3 (ts.map J.aP)) [v3]:=r3;have r4:Rd w S (.slice 3 (as_.map J.aP)) [v4]:=r4;rename_i x1 x2;clear x1 x2;obtain⟨g0,g1,rfl⟩:∃ g0 g1,c1=[g0,g1]:=by
  have:=Rd.length _ r1;match c1,this with
  | [g0,g1],_=>exact⟨_,_,rfl⟩
 obtain⟨p0,p1,p2,p3,p4⟩:=hp;have b3b:=a1p p3 e;generalize Z8:(λ (x:Ending) (w':World)=>∃ v fp,x=Ending.returned v/\bC (λ b=>b∈([]:List Nat)) w w'/\tY w' [(⟨Ty.st aQ.expr,Ym e ts as_⟩:TV),⟨Ty.bool,cD gg (dr ts as_ e)⟩] v fp/\fp.Nodup/\∀ b∈fp,b∈([]:List Nat)\/(w.heap.size<=b/\b<w'.heap.size))=Po;go_enter Tryz.func64,Tryz.ntmps64;go_wp2;generalize hW:((w.alloc _).alloc _).alloc _=W;obtain⟨k1,h1,h2,h3,h4⟩:=a9d hW;clear hW;have b1:Below w.heap.size w W:=s6 k1 (b4h _);refine (a5K hS b1 e ts as_ 200 ⟨p1,p2,p3,by omega,by omega⟩ (by omega) b o cs (b3P hb k1.size) (H6 b1 hc hb) r2 v3 v4 r3 r4 _ _ h3 (by omega) (by omega)).mono ?_;rintro _ w1 ⟨k',n',a',m',c',fp,t',rfl,k2,ho,hn,hf,hq⟩;have e1:=(k2.block _ (bB h1) (by omega)).trans h1;have e2:=(k2.block _ (bB h2) (by omega)).trans h2;have k3:bC (λ _=>False) w w1:=fi k1 k2 (λ _ _ q=>q) λ i hi q=>by omega
 clear h1 h2 h3 k1 k2 b1;go_wp2_with fail;obtain⟨k4,e4,s4⟩:=Ol w1 (.cells #[.int .i64 k', .int .i64 n', .slice a' m' c'] 38);have e5:=(k4.block _ (bB e1) id).trans e1;have e6:=(k4.block _ (bB e2) id).trans e2;have e7:=(k4.block _ (bB hq) id).trans hq;have l4:=bB e4;have ho4:=ho.aS _ λ b hb=>k4.block b (hf b hb).2 id;have k5:bC (λ _=>False) w (w1.alloc (.cells #[.int .i64 k', .int .i64 n', .slice a' m' c'] 38)).drew:=(fi k3 (Z:=λ _=>False) k4 (λ _ _ q=>q) λ _ _ q=>q).drew;have f1:∀ b∈fp,w.heap.size<=b/\b<w1.heap.size/\b≠w.heap.size/\b≠w.heap.size+1/\b≠w.heap.size+1+1:=λ b hb=>by have:=hf b hb;omega
 have sz1:=k3.size;have l1:=bB e1;have l2:=bB e2;have l3:=bB hq;clear e1 e2 hq ho k3 hf;generalize hw1:w1.heap.size=q1 at *
 generalize w1.alloc (.cells #[.int .i64 k', .int .i64 n', .slice a' m' c'] 38)=w2 at *
 have e4d:w2.drew.heap[q1]?=some (.cells #[.int .i64 k', .int .i64 n', .slice a' m' c'] 38 (0,0)):=e4;have e5d:w2.drew.heap[w.heap.size]?=some (.cells #[g0,g1] 41 (0,0)):=e5;have e6d:w2.drew.heap[w.heap.size+1]?=some (.cells #[.int .i64 0, .int .i64 0, .slice none 0 0] 38 (0,0)):=e6;have e7d:w2.drew.heap[w.heap.size+1+1]?=some (.cells #[.int .i64 (e9 ts as_ e 200).2] t' (0,0)):=e7;obtain⟨⟨z0,z1,z2⟩,_⟩:=QZ e4d;obtain⟨⟨y0,y1,y2⟩,y3,y4,y5⟩:=QZ e6d;have u0:w2.drew.cell? ⟨w.heap.size,0,none⟩=some g0:=by simp[World.cell?,e5d]
 have u1:w2.drew.cell? ⟨w.heap.size,1,none⟩=some g1:=by simp[World.cell?,e5d]
 have x0:w2.drew.cell? ⟨w.heap.size+1+1,0,none⟩=some (.int .i64 (e9 ts as_ e 200).2):=by simp[World.cell?,e7d]
 have ro:Rd w2.drew (λ b=>b<w2.drew.heap.size) (e9 ts as_ e 200).1.aP [.int .i64 k', .int .i64 n', .slice a' m' c']:=Rd.drew (S:=λ b=>b<w2.heap.size) (ho4.rd _ λ b hb=>by have:=(f1 b hb).2.1;show b<w2.heap.size;omega);have b5:Below w.heap.size w w2.drew:=s6 k5 (b4h _);by_cases hl:0<=(e9 ts as_ e 200).2
 .have hd:decide ((0:Int)<=(e9 ts as_ e 200).2)=true:=b4k hl;have X0:=R4 hS b5 gg g0 g1 r1 (e9 ts as_ e 200).1 q1 0 _ (bB e4d) (JP e4d) ro;go_region_with (first
   | (
     go_at_call 39
     refine X0.mono ?_
     rintro _ w3 ⟨rfl,k6⟩
     have e4e:=(k6.block _ (bB e4d) id).trans e4d
     have e6e:=(k6.block _ (bB e6d) id).trans e6d
     obtain⟨⟨v0,v1,v2⟩,_⟩:=QZ e4e
     obtain⟨⟨t0,t1,t2⟩,t3,t4,t5⟩:=QZ e6e))
  all_goals
   have k7:=fi (Z:=λ _=>False) k5 k6 (λ _ _ q=>q) λ _ _ q=>q
   obtain⟨x9,o9⟩:=QA (.int .i64 k') (.int .i64 n') (.slice a' m' c') e6e
   obtain⟨k8,s8⟩:=SH (.int .i64 k') (.int .i64 n') (.slice a' m' c') k7 e6e (by omega)
   obtain⟨⟨j0,j1,j2⟩,_⟩:=QZ x9
   have ho5:=ho4.aS (w':=((w3.setCell ⟨w.heap.size+1,0,none⟩ (.int .i64 k')).setCell ⟨w.heap.size+1,1,none⟩ (.int .i64 n')).setCell ⟨w.heap.size+1,2,none⟩ (.slice a' m' c')) _ λ b hb=>(o9 b (f1 b hb).2.2.2.1).trans (k6.block b (by have:=(f1 b hb).2.1;show b<w2.heap.size;omega) id)
   generalize ((w3.setCell ⟨w.heap.size+1,0,none⟩ (.int .i64 k')).setCell ⟨w.heap.size+1,1,none⟩ (.int .i64 n')).setCell ⟨w.heap.size+1,2,none⟩ (.slice a' m' c')=w4 at *
   go_wp2
   refine Bw rfl rfl rfl x9 rfl rfl ?_
   rw[<-Z8]
   refine⟨_,fp,rfl,⟨k8.os,k8.tape,k8.output,k8.size,λ i hi _=>k8.block i hi id⟩,⟨[_,_],rfl,fp,[],(b4N fp).symm,⟨_,rfl,ho5⟩,[],[],rfl,?_,rfl⟩,hn,λ b hb => .inr ⟨(f1 b hb).1,by have:=(f1 b hb).2.1;have:=k6.size;have:w2.drew.heap.size=w2.heap.size:=rfl;omega⟩⟩
   exact⟨congrArg (λ x=>[Value.bool x]) (b2J _ hl rfl p0).symm,rfl⟩
 .have hd:decide ((0:Int)<=(e9 ts as_ e 200).2)=false:=b3K hl;obtain⟨⟨i0,i1,i2⟩,i3,i4,i5⟩:=QZ e6;have k5':bC (λ _=>False) w w2:=⟨k5.os,k5.tape,k5.output,k5.size,k5.block⟩;go_region;all_goals
   have k7:=fi (Z:=λ _=>False) k5' (bC.refl _ _) (λ _ _ q=>q) λ _ _ q=>q
   obtain⟨x9,o9⟩:=QA (.int .i64 k') (.int .i64 n') (.slice a' m' c') e6
   obtain⟨k8,s8⟩:=SH (.int .i64 k') (.int .i64 n') (.slice a' m' c') k7 e6 (by omega)
   obtain⟨⟨j0,j1,j2⟩,_⟩:=QZ x9
   have ho5:=ho4.aS (w':=((w2.setCell ⟨w.heap.size+1,0,none⟩ (.int .i64 k')).setCell ⟨w.heap.size+1,1,none⟩ (.int .i64 n')).setCell ⟨w.heap.size+1,2,none⟩ (.slice a' m' c')) _ λ b hb=>(o9 b (f1 b hb).2.2.2.1).trans rfl
   generalize ((w2.setCell ⟨w.heap.size+1,0,none⟩ (.int .i64 k')).setCell ⟨w.heap.size+1,1,none⟩ (.int .i64 n')).setCell ⟨w.heap.size+1,2,none⟩ (.slice a' m' c')=w4 at *
   go_wp2
   refine Bw (w:=w4.drew) rfl rfl rfl x9 rfl rfl ?_
   rw[<-Z8]
   refine⟨_,fp,rfl,⟨k8.os,k8.tape,k8.output,k8.size,λ i hi _=>k8.block i hi id⟩,⟨[_,_],rfl,fp,[],(b4N fp).symm,⟨_,rfl,ho5.aS (w':=w4.drew) _ λ _ _=>rfl⟩,[],[],rfl,?_,rfl⟩,hn,λ b hb => .inr ⟨(f1 b hb).1,by have:=(f1 b hb).2.1;have:w4.drew.heap.size=w4.heap.size:=rfl;omega⟩⟩
   exact⟨congrArg (λ x=>[Value.bool x]) (b2I (gg:=gg) (e:=e) (ts:=ts) (as_:=as_) (by omega)).symm,rfl⟩
def uX:aL:=⟨zh,[.v (.st .sig), .r (.st .expr), .v (.slice (.st .expr)), .v (.slice (.st .expr))],λ (gg:aU) (e:J) (ts:List J) (as_:List J)=>⟨(some (suP gg e ts as_),[⟨(.st .expr),Ym e ts as_⟩,⟨.bool,cD gg (dr ts as_ e)⟩])⟩⟩
def NH:aL.cS uX :=
 ⟨ar Tk rfl (by decide),λ gg e ts as_ h=>a5W gg e ts as_ h⟩
def Pm:aL.Good uX:=NH.plain
end
end Go.Proofs.YtmjfpcajohhbeaaGreatDoor

namespace Go.Proofs.YtmjfpcajohhbeaaGreatDoor
noncomputable section
end
end Go.Proofs.YtmjfpcajohhbeaaGreatDoor

set_option maxRecDepth 4000
set_option maxHeartbeats 4000000
namespace Go.Proofs.YtmjfpcajohhbeaaGreatDoor
noncomputable section
open Go.RowKit Go.Proofs
def FC.same{w w':World}{lo B:Nat}{x:J}{ks:List Int}{b o:Nat}{L:List Value}{t:TypeId}{fy:List Nat}(h:FC w lo B x ks b o L t fy)(e:w'.heap=w.heap):FC w' lo B x ks b o L t fy :=
 ⟨⟨by rw[e];exact h.nd.h,h.nd.l,h.nd.ow.aS _ λ _ _=>by rw[e],h.nd.nb,h.nd.nd⟩,h.flo,h.lb,λ w'' y c f hk=>h.put w'' y c f λ k h1=>by rw[<-e];exact hk k (by rw[e];exact h1)⟩
def a5D{w:World}{b o:Nat}{x:J}{L:List Value}{t:TypeId}{fy:List Nat}(h:Nd w b o x L t fy):cd w b o ((L.drop o).take 3):=λ j v hj=>by
 have hj3:j<3:=by
  have:=(b4p.1 hj).1;rw[b3R] at this;omega
 rw[b6o hj3,b5h] at hj;simp[World.cell?,h.h,hj]
def a7u{w:World}{lo B:Nat}{x:J}{ks:List Int}:a6e w x ks λ k b o=>∃ L t fy,FC w lo B x (ks.take k) b o L t fy:=by
 rintro k b o ⟨L,t,fy,h⟩ hk;obtain⟨a,m,cap,hc3⟩:=ow3 h.nd.ow;have hc:=a5D h.nd;rw[hc3] at hc;have h0:=hc 0 _ rfl;obtain⟨a',SE,h2,hl⟩:=a3p h;refine⟨h0,a',SE,h2,hl,λ j hkn hj XW=>?_⟩;obtain⟨bk,b2Z,L',t',fy',h3,_,h4⟩:=a3q h (j:Int) ⟨by omega,by omega⟩;rw[h3] at h2;simp only[Option.some.injEq,Value.slice.injEq,true_and] at h2;refine⟨bk,0,h2.1.symm,L',t',fy',?_⟩;rw[cj 0 ks k hkn,hj];simpa using h4
def NM{w0 w:World}{S:Nat->Prop}(hS:ua w0 S)(hb:Below w0.heap.size w0 w)(x:J)(hx:aB x<=1048576)(b o:Nat)(cs:List Value)(h1:b<w.heap.size)(h2:cd w b o cs)(r:Rd w0 S x.aP cs) :
  Calls prog qv #[.pointer (some ⟨b,o,none⟩)] w λ e w'=>∃ (k' n':Int) (a':Option Addr) (m' c':Nat) (fp:List Nat),e = .returned (.agg #[.int .i64 k', .int .i64 n', .slice a' m' c'])/\bC (λ _=>False) w w'/\Ow w' x.aP [.int .i64 k', .int .i64 n', .slice a' m' c'] fp/\fp.Nodup/\∀ q∈fp,w.heap.size<=q/\q<w'.heap.size:=by
 refine (fD.2 x hx w S [_] [] (a3Q hS hb) ⟨[],[],rfl,⟨rfl,⟨b,o,cs,rfl,h1,h2,Xg hS hb r⟩⟩,rfl⟩ (.inl rfl) List.nodup_nil (by simp)).mono ?_;rintro e w' ⟨v,fp,rfl,lF,cO,hn,hf⟩;obtain⟨c,rfl,ho⟩:=(show ∃ cs,v = .agg cs.toArray/\Ow w' x.aP cs fp from cO);obtain⟨a,m,cap,rfl⟩:=ow3 ho;exact⟨_,_,_,_,_,fp,rfl,by simpa using lF,ho,hn,λ q hq=>by simpa using hf q hq⟩
def a1e{w0 w:World}{S:Nat->Prop}(hS:ua w0 S)(hb:Below w0.heap.size w0 w)(x:J)(b o:Nat)(cs:List Value)(h1:b<w.heap.size)(h2:cd w b o cs)(r:Rd w0 S x.aP cs) :
  Calls prog iL #[.pointer (some ⟨b,o,none⟩)] w λ e w'=>e = .returned (.bool (bq x))/\bC (λ _=>False) w w':=by
 refine (jo.2 x trivial w _ [_] (a3Q hS hb) ⟨⟨b,o,cs,rfl,h1,h2,Xg hS hb r⟩,ae⟩).mono ?_;rintro e w' ⟨v,S',res,rfl,rfl,lF,_,_,hr⟩;have hr:[v]=[.bool (bq x)]:=hr;simp only[b3F,b3L] at hr;subst hr;exact⟨rfl,lF⟩
def BA{P:Program}{ops:Array Oper}{rest:List Oper}{op:Oper}{a:Act}{w w':World}{Q:Exit->Act->World->Prop}{ty:TypeId}{x y:Operand}{p v:Value}(hgd:op.guard=none)(ho:op.op = .store ty x y)
  (hx:a.eval x=p) (hy:a.eval y=v) (hr:(Instr.storeAt ty p v).run P w = .ok () w') (h:wpList P ops Q rest (a.put op.dst undef) w'):wpList P ops Q (op::rest) a w :=
 wpList_plain hgd λ K hK=>by
  unfold Oper.wp execOp;simp only[ho,hx,hy,Sem.run_bind,Sem.run_pure,Result.andThen_ok,hr];exact hK _ _ h
def st3{w:World}{g o:Nat}{l cs:List Value}{t:TypeId}(hg:w.heap[g]?=some (.cells l.toArray t (0,0)))(h6:cs.length=3)(h1:∀ u∈cs,u.oneCell'=true)(Di:o+3<=l.length) :
  ∃ w',(Instr.storeAt 38 (.pointer (some ⟨g,o,none⟩)) (.agg cs.toArray)).run prog w = .ok () w'/\w'.heap[g]?=some (.cells (l.take o++cs++l.drop (o+3)).toArray t (0,0))/\bC (λ b=>b=g) w w'/\w'.heap.size=w.heap.size:=by
 have:=wZ (c:=⟨prog,E0,w,λ _=>False,λ _=>False,λ _=>none,λ _=>False,λ _=>none⟩) hE0 (T:=38) (τ := .st .expr) rfl (o:=o) (x := .agg cs.toArray) hg (by simp only[Value.cells];exact h6) (by simpa [Value.cells] using h1) Di;refine⟨_,this,?_,⟨rfl,rfl,rfl,by simp,λ b _ hb=>setRow_other w g b _ hb⟩,by simp⟩;rw[setRow_heap w g _ _ t _ hg];rfl
def Y8{n:Int}(h:IntKind.i64.min<=n/\n<=IntKind.i64.max):O n:=h
def zC:List Value:=[.int .i64 0, .int .i64 0, .slice none 0 0]
def ZH(w:World)(S:Nat->Prop)(V:J)(C:Int)(e:Ending)(w':World):Prop :=
 ∃ x S' res,e=Ending.returned x/\res=[(⟨.st .expr,V⟩:TV),⟨.int .i64,C⟩]/\bC (λ _=>False) w w' /\
  (∀ b,b<w.heap.size->(S' b↔S b))/\(∀ b,S' b->b<w'.heap.size)/\HE w' S' res x
def QL{w w':World}{S:Nat->Prop}{V:J}{C c:Int}(hS:ua w S)(hk:bC (λ _=>False) w w')(h:V=J.mk (0:Int) (0:Int) []/\C=c)(hc:O c) :
  ZH w S V C (.returned (.tuple #[.agg #[.int .i64 0, .int .i64 0, .slice none 0 0], .int .i64 c])) w':=by
 refine⟨_,S,_,rfl,rfl,hk,λ _ _=>b5z,λ b hb=>b3P (hS.1 b hb) hk.size,[_,_],rfl,⟨zC,rfl,?_⟩,?_,ae⟩
 .rw[h.1];have h0:IntKind.i64.min<=0/\(0:Int)<=IntKind.i64.max:=by decide
  have hs:∀ n,Rd w' S (.slice n []) [.slice none 0 0]:=λ n=>⟨none,0,rfl,by simp,by simp[maxLen],by simp, .inl rfl⟩;exact⟨_,_,rfl,⟨rfl,h0⟩,_,_,rfl,⟨rfl,h0⟩,_,_,rfl,hs _,rfl⟩
 .rw[h.2];exact⟨rfl,hc⟩
def a9c{w W:World}{o1 o2:Obj}(h:(w.alloc o1).alloc o2=W) :
  bC (λ _=>False) w W/\W.heap[w.heap.size]?=some o1/\W.heap[w.heap.size+1]?=some o2/\W.heap.size=w.heap.size+2:=by
 subst h;refine⟨⟨rfl,rfl,rfl,by simp;omega,λ b hb _=>?_⟩,?_,?_,by simp⟩
 .show ((w.heap.push o1).push o2)[b]?=_;rw[b4D,b4D,b3H (by simp only[b5p];omega),b3H (by omega)]
 .show ((w.heap.push o1).push o2)[w.heap.size]?=_;rw[b4D,b4D,b3H (by simp only[b5p];omega),b4d rfl]
 .show ((w.heap.push o1).push o2)[w.heap.size+1]?=_;rw[b4D,b4d (by simp only[b5p])]
structure RqP(gg:aU)(x y:J):Prop where
 s:bP gg=true
 x:aB x<=1048576
 y:aB y<=1048576
set_option maxRecDepth 100000 in
def a5N(gg:aU)(x:J)(ps:List Int)(y:J)(hp:RqP gg x y):gp prog kq [.val ⟨.st .sig,gg⟩, .ref ⟨.st .expr,x⟩, .val ⟨.slice (.int .i64),ps⟩, .ref ⟨.st .expr,y⟩] (·=[⟨.st .expr,z8 gg x ps y⟩,⟨.int .i64,pD gg x ps y⟩]):=by
 intro w S cA hS ha;match cA,ha with
 | [v1,v2,v3,v4],ha =>
 obtain⟨⟨c1,rfl,r1⟩,⟨b,o,cs,rfl,hb,hc,r2⟩,r3,⟨by_,oy,cy,rfl,hby,hcy,r4⟩,_⟩:=ha;have r3:Rd w S (.slice 1 (ps.map (D.int .i64))) [v3]:=r3;obtain⟨g0,g1,rfl⟩:∃ g0 g1,c1=[g0,g1]:=by
  have:=Rd.length _ r1;match c1,this with
  | [g0,g1],_=>exact⟨_,_,rfl⟩
 show Calls prog kq _ w (ZH w S (z8 gg x ps y) (pD gg x ps y));generalize Z8:ZH w S (z8 gg x ps y) (pD gg x ps y)=Po;go_enter Tryz.func93,Tryz.ntmps93;go_wp2;generalize hW:(w.alloc _).alloc _=W;obtain⟨k1,h1,h2,h4⟩:=a9c hW;clear hW;have b1:Below w.heap.size w W:=s6 k1 (b4h _);refine (NM hS b1 x hp.x b o cs (b3P hb k1.size) (H6 b1 hc hb) r2).mono ?_;rintro _ w1 ⟨k',n',a',m',c',fp,rfl,k2,ho,hn,hf⟩;go_wp2_with fail;obtain⟨k4,e4,s4⟩:=Ol w1 (.cells #[.int .i64 k', .int .i64 n', .slice a' m' c'] 38);have e1:=(k4.block _ ((k2.block _ (bB h1) id).trans h1 |> bB) id).trans ((k2.block _ (bB h1) id).trans h1);have e2:=(k4.block _ ((k2.block _ (bB h2) id).trans h2 |> bB) id).trans ((k2.block _ (bB h2) id).trans h2);have k3:bC (λ _=>False) w (w1.alloc (.cells #[.int .i64 k', .int .i64 n', .slice a' m' c'] 38)):=fi (fi (Z:=λ _=>False) k1 k2 (λ _ _ q=>q) λ _ _ q=>q) k4 (λ _ _ q=>q) λ _ _ q=>q;have ho2:=ho.aS _ λ b hb=>k4.block b (hf b hb).2 id;have hs2:=k2.size;have hl0:W.heap.size<=w1.heap.size:=hs2;have lY:∀ q∈fp,W.heap.size<=q:=λ q hq=>(hf q hq).1;have hBn:w1.heap.size∉fp:=λ q=>by have:=(hf _ q).2;omega
 clear k2 k4 ho hf h1 h2;generalize hB:w1.heap.size=B at *
 generalize w1.alloc (.cells #[.int .i64 k', .int .i64 n', .slice a' m' c'] 38)=w2 at *
 have r3':Rd w2 S (.slice 1 (ps.map (D.int .i64))) [v3]:=Xg hS (s6 k3 (b4h _)) r3;have l0:FC w2 W.heap.size B x (ps.take 0) B 0 [.int .i64 k', .int .i64 n', .slice a' m' c'] 38 fp:=by
  rw[b4z];exact b0N w2 W.heap.size B x _ 38 fp e4 ho2 hBn hn hl0 lY
 have hA:=a0T w2 x ps (λ k b o=>∃ L t fy,FC w2 W.heap.size B x (ps.take k) b o L t fy) B 0 (by exact⟨_,_,_,l0⟩) a7u v3 S r3';refine hA.mono ?_;rintro _ w4 ⟨⟨m,hm⟩,p,bl,rfl,kA,bA,oA,hkA,rfl,hLA,hEA,hBA,VV⟩;have hh:w4.heap=w2.heap:=by rw[hm];rfl
 have k5:bC (λ _=>False) w w4:=by rw[hm];exact⟨k3.os,k3.tape,k3.output,k3.size,k3.block⟩
 have e5:w4.heap[w.heap.size]?=some (.cells #[g0,g1] 41 (0,0)):=by rw[hh];exact e1
 have e6:w4.heap[w.heap.size+1]?=some (.cells #[.int .i64 0, .int .i64 0, .slice none 0 0] 38 (0,0)):=by rw[hh];exact e2
 have hB4:B<w4.heap.size:=by rw[hh,s4];omega
 obtain⟨⟨y0,y1,y2⟩,y3,y4,y5⟩:=QZ e6;have b5:Below w.heap.size w w4:=s6 k5 (b4h _);have hLs:∀ b o,(∃ L t fy,FC w2 W.heap.size B x (ps.take ps.length) b o L t fy)->∃ L t fy,FC w4 W.heap.size B x ps b o L t fy:=λ b o ⟨L,t,fy,h⟩=>⟨L,t,fy,by rw[b5N] at h;exact h.same hh⟩;clear hm hA;cases cQ:eC x ps
 .obtain⟨x9,o9⟩:=QA (.int .i64 0) (.int .i64 0) (.slice none 0 0) e6;obtain⟨k8,s8⟩:=SH (.int .i64 0) (.int .i64 0) (.slice none 0 0) k5 e6 (by omega);go_wp2;refine Bw (cs:=zC) rfl rfl rfl x9 rfl rfl ?_;rw[<-Z8];exact QL hS k8 (a7M cQ) (Y8 (by decide))
 have PB:=VV cQ;subst PB;rw[(WZ ps x cQ).2] at hBA;subst hBA;have hLx:=hLA;obtain⟨L,t,fy,hL⟩:=hLs _ _ hLx;generalize bA=bn at *
 generalize oA=on at *
 clear hLs hLx hLA VV hh;have r4':=Xg hS b5 r4;have b1Y:by_<w4.heap.size:=b3P hby k5.size;have b2b:=H6 b5 hcy hby;have hC:=a1e hS b5 y by_ oy cy b1Y b2b r4;generalize hbl:oS x ps=bl at *
 have hs1:=k1.size;cases bl
 .have hgo:Fk x ps=false\/bq y=true := .inl (by unfold Fk;rw[hbl,Bool.and_false]);have k6:bC (λ _=>False) w4 w4:=bC.refl _ _;have bb5:=b5;go_wp2_with fail;refine (NM hS bb5 y hp.y by_ oy cy (Nat.lt_of_lt_of_le hby bb5.size) (H6 bb5 hcy hby) r4).mono ?_;rintro _ w6 ⟨k'',n'',a'',m'',c'',fp2,rfl,k7,ho6,hn6,hf6⟩;have hs6:=k6.size;have hs7:=k7.size;have ID:bC (λ _=>False) w4 w6:=fi k6 k7 (λ _ _ q=>q) λ _ _ q=>q;have XR:=bB hL.nd.h;have hL6:w6.heap[bn]?=some (.cells L.toArray t (0,0)):=(ID.block bn XR id).trans hL.nd.h;obtain⟨w7,cw,e15,Wj,b2n⟩:=st3 (o:=on) (cs:=[.int .i64 k'', .int .i64 n'', .slice a'' m'' c'']) hL6 rfl (by simp[Value.oneCell']) hL.nd.l;have hlb:=hL.lb;have k8:bC (λ _=>False) w w6:=fi k5 ID (λ _ _ q=>q) λ _ _ q=>q;have k17:bC (λ _=>False) w w7:=fi k8 Wj (λ _ _ q=>q) λ i h q=>by omega
  have hP:Pl w7 W.heap.size B (fU y x ps):=by
   refine hL.put w7 y _ fp2 (λ k h1 h2 h3=>(Wj.block k (b3P h1 ID.size) h2).trans (ID.block k h1 id)) e15 rfl (ho6.aS _ λ q hq=>?_) λ q hq=>?_
   .have:=hf6 q hq;exact Wj.block q this.2 (by omega)
   .have:=hf6 q hq;have:=b5.size;omega
  obtain⟨c8,t8,f8,q1,q2,q3⟩:=hP;obtain⟨a8,m8,H3,rfl⟩:=ow3 q2;have e16:=(Wj.block _ (b3P (bB e5) ID.size) (by omega)).trans ((ID.block _ (bB e5) id).trans e5);have e17:=(Wj.block _ (b3P (bB e6) ID.size) (by omega)).trans ((ID.block _ (bB e6) id).trans e6);have u0:w7.cell? ⟨w.heap.size,0,none⟩=some g0:=by simp[World.cell?,e16]
  have u1:w7.cell? ⟨w.heap.size,1,none⟩=some g1:=by simp[World.cell?,e16]
  have X0:=R4 hS (s6 k17 (b4h _)) gg g0 g1 r1 (fU y x ps) B 0 _ (bB q1) (JP q1) (Ow.rd _ q2 λ q hq=>Ow.lt _ q2 q hq);go_wp2_with (first|(refine BA rfl rfl rfl rfl cw ?_)|(go_at_call 39;refine X0.mono ?_));rintro _ w8 ⟨rfl,Wk⟩;have Mv:=(Wk.block _ (bB e17) id).trans e17;have e19:=(Wk.block _ (bB q1) id).trans q1;have k19:bC (λ _=>False) w w8:=fi k17 Wk (λ _ _ q=>q) λ _ _ q=>q;rw[Qj hp.s];obtain⟨⟨i0,i1,i2⟩,i3,i4,i5⟩:=QZ Mv;obtain⟨⟨j0,j1,j2⟩,_⟩:=QZ e19;cases hiA:cD gg (fU y x ps)
  .obtain⟨x9,o9⟩:=QA (.int .i64 0) (.int .i64 0) (.slice none 0 0) Mv;obtain⟨Wl,s20⟩:=SH (.int .i64 0) (.int .i64 0) (.slice none 0 0) k19 Mv (by omega);go_wp2;refine Bw (cs:=zC) rfl rfl rfl x9 rfl rfl ?_;rw[<-Z8];exact QL hS Wl (JC cQ hgo false hiA) (Y8 (by decide))
  .obtain⟨x9,o9⟩:=QA (.int .i64 (fU y x ps).aq) (.int .i64 (fU y x ps).aN) (.slice a8 m8 H3) Mv;obtain⟨Wl,s20⟩:=SH (.int .i64 (fU y x ps).aq) (.int .i64 (fU y x ps).aN) (.slice a8 m8 H3) k19 Mv (by omega);have ho9:=q2.aS (w':=((w8.setCell ⟨w.heap.size+1,0,none⟩ (.int .i64 (fU y x ps).aq)).setCell ⟨w.heap.size+1,1,none⟩ (.int .i64 (fU y x ps).aN)).setCell ⟨w.heap.size+1,2,none⟩ (.slice a8 m8 H3)) _ λ q hq=>(o9 q (by have:=q3 q hq;omega)).trans (Wk.block q (Ow.lt _ q2 q hq) id);have b2o:=Wk.size;have a6X:=λ q hq=>Ow.lt _ q2 q hq;go_wp2;generalize ((w8.setCell ⟨w.heap.size+1,0,none⟩ (.int .i64 (fU y x ps).aq)).setCell ⟨w.heap.size+1,1,none⟩ (.int .i64 (fU y x ps).aN)).setCell ⟨w.heap.size+1,2,none⟩ (.slice a8 m8 H3)=w9 at *
   refine Bw (cs:=[.int .i64 (fU y x ps).aq, .int .i64 (fU y x ps).aN, .slice a8 m8 H3]) rfl rfl rfl x9 rfl rfl ?_;rw[<-Z8];have hd:=JC (gg:=gg) cQ hgo true hiA;refine⟨_,λ b=>S b\/(w.heap.size<=b/\b<w9.heap.size),_,rfl,rfl,Wl,λ b hb=>⟨λ h=>h.elim id λ h=>absurd h.1 (by omega), .inl⟩,λ b h=>h.elim (λ h=>b3P (hS.1 b h) Wl.size) λ h=>h.2,[_,_],rfl,⟨_,rfl,?_⟩,?_,ae⟩
   .rw[hd.1];exact ho9.rd _ λ q hq => .inr ⟨by have:=q3 q hq;omega,by have:=a6X q hq;omega⟩
   .rw[hd.2];exact⟨rfl,Y8 (by decide)⟩
 .cases hcd:bq y
  .rw[hcd] at hC;go_wp2_with (go_at_call 108;refine hC.mono ?_);rintro _ w5 ⟨rfl,k6⟩;have Mv:=(k6.block _ (bB e6) id).trans e6;have k19:bC (λ _=>False) w w5:=fi k5 k6 (λ _ _ q=>q) λ _ _ q=>q;obtain⟨⟨i0,i1,i2⟩,i3,i4,i5⟩:=QZ Mv;obtain⟨x9,o9⟩:=QA (.int .i64 0) (.int .i64 0) (.slice none 0 0) Mv;obtain⟨Wl,s20⟩:=SH (.int .i64 0) (.int .i64 0) (.slice none 0 0) k19 Mv (by omega);go_wp2;refine Bw (cs:=zC) rfl rfl rfl x9 rfl rfl ?_;rw[<-Z8];exact QL hS Wl (a3N cQ (by unfold Fk;rw[cQ,hbl];rfl) hcd) (Y8 (by decide))
  .rw[hcd] at hC;have hgo:Fk x ps=false\/bq y=true := .inr hcd;go_wp2_with (go_at_call 108;refine hC.mono ?_);rintro _ w5 ⟨rfl,k6⟩;have bb5:Below w.heap.size w w5:=s6 (fi (Z:=λ _=>False) k5 k6 (λ _ _ q=>q) λ _ _ q=>q) (b4h _);go_wp2_with fail;refine (NM hS bb5 y hp.y by_ oy cy (b3P hby bb5.size) (H6 bb5 hcy hby) r4).mono ?_;rintro _ w6 ⟨k'',n'',a'',m'',c'',fp2,rfl,k7,ho6,hn6,hf6⟩;have hs6:=k6.size;have hs7:=k7.size;have ID:bC (λ _=>False) w4 w6:=fi k6 k7 (λ _ _ q=>q) λ _ _ q=>q;have XR:=bB hL.nd.h;have hL6:w6.heap[bn]?=some (.cells L.toArray t (0,0)):=(ID.block bn XR id).trans hL.nd.h;obtain⟨w7,cw,e15,Wj,b2n⟩:=st3 (o:=on) (cs:=[.int .i64 k'', .int .i64 n'', .slice a'' m'' c'']) hL6 rfl (by simp[Value.oneCell']) hL.nd.l;have hlb:=hL.lb;have k8:bC (λ _=>False) w w6:=fi k5 ID (λ _ _ q=>q) λ _ _ q=>q;have k17:bC (λ _=>False) w w7:=fi k8 Wj (λ _ _ q=>q) λ i h q=>by omega
   have hP:Pl w7 W.heap.size B (fU y x ps):=by
    refine hL.put w7 y _ fp2 (λ k h1 h2 h3=>(Wj.block k (b3P h1 ID.size) h2).trans (ID.block k h1 id)) e15 rfl (ho6.aS _ λ q hq=>?_) λ q hq=>?_
    .have:=hf6 q hq;exact Wj.block q this.2 (by omega)
    .have:=hf6 q hq;have:=b5.size;omega
   obtain⟨c8,t8,f8,q1,q2,q3⟩:=hP;obtain⟨a8,m8,H3,rfl⟩:=ow3 q2;have e16:=(Wj.block _ (b3P (bB e5) ID.size) (by omega)).trans ((ID.block _ (bB e5) id).trans e5);have e17:=(Wj.block _ (b3P (bB e6) ID.size) (by omega)).trans ((ID.block _ (bB e6) id).trans e6);have u0:w7.cell? ⟨w.heap.size,0,none⟩=some g0:=by simp[World.cell?,e16]
   have u1:w7.cell? ⟨w.heap.size,1,none⟩=some g1:=by simp[World.cell?,e16]
   have X0:=R4 hS (s6 k17 (b4h _)) gg g0 g1 r1 (fU y x ps) B 0 _ (bB q1) (JP q1) (Ow.rd _ q2 λ q hq=>Ow.lt _ q2 q hq);go_wp2_with (first|(refine BA rfl rfl rfl rfl cw ?_)|(go_at_call 39;refine X0.mono ?_));rintro _ w8 ⟨rfl,Wk⟩;have Mv:=(Wk.block _ (bB e17) id).trans e17;have e19:=(Wk.block _ (bB q1) id).trans q1;have k19:bC (λ _=>False) w w8:=fi k17 Wk (λ _ _ q=>q) λ _ _ q=>q;rw[Qj hp.s];obtain⟨⟨i0,i1,i2⟩,i3,i4,i5⟩:=QZ Mv;obtain⟨⟨j0,j1,j2⟩,_⟩:=QZ e19;cases hiA:cD gg (fU y x ps)
   .obtain⟨x9,o9⟩:=QA (.int .i64 0) (.int .i64 0) (.slice none 0 0) Mv;obtain⟨Wl,s20⟩:=SH (.int .i64 0) (.int .i64 0) (.slice none 0 0) k19 Mv (by omega);go_wp2;refine Bw (cs:=zC) rfl rfl rfl x9 rfl rfl ?_;rw[<-Z8];exact QL hS Wl (JC cQ hgo false hiA) (Y8 (by decide))
   .obtain⟨x9,o9⟩:=QA (.int .i64 (fU y x ps).aq) (.int .i64 (fU y x ps).aN) (.slice a8 m8 H3) Mv;obtain⟨Wl,s20⟩:=SH (.int .i64 (fU y x ps).aq) (.int .i64 (fU y x ps).aN) (.slice a8 m8 H3) k19 Mv (by omega);have ho9:=q2.aS (w':=((w8.setCell ⟨w.heap.size+1,0,none⟩ (.int .i64 (fU y x ps).aq)).setCell ⟨w.heap.size+1,1,none⟩ (.int .i64 (fU y x ps).aN)).setCell ⟨w.heap.size+1,2,none⟩ (.slice a8 m8 H3)) _ λ q hq=>(o9 q (by have:=q3 q hq;omega)).trans (Wk.block q (Ow.lt _ q2 q hq) id);have b2o:=Wk.size;have a6X:=λ q hq=>Ow.lt _ q2 q hq;go_wp2;generalize ((w8.setCell ⟨w.heap.size+1,0,none⟩ (.int .i64 (fU y x ps).aq)).setCell ⟨w.heap.size+1,1,none⟩ (.int .i64 (fU y x ps).aN)).setCell ⟨w.heap.size+1,2,none⟩ (.slice a8 m8 H3)=w9 at *
    refine Bw (cs:=[.int .i64 (fU y x ps).aq, .int .i64 (fU y x ps).aN, .slice a8 m8 H3]) rfl rfl rfl x9 rfl rfl ?_;rw[<-Z8];have hd:=JC (gg:=gg) cQ hgo true hiA;refine⟨_,λ b=>S b\/(w.heap.size<=b/\b<w9.heap.size),_,rfl,rfl,Wl,λ b hb=>⟨λ h=>h.elim id λ h=>absurd h.1 (by omega), .inl⟩,λ b h=>h.elim (λ h=>b3P (hS.1 b h) Wl.size) λ h=>h.2,[_,_],rfl,⟨_,rfl,?_⟩,?_,ae⟩
    .rw[hd.1];exact ho9.rd _ λ q hq => .inr ⟨by have:=q3 q hq;omega,by have:=a6X q hq;omega⟩
    .rw[hd.2];exact⟨rfl,Y8 (by decide)⟩
def yN:aL:=⟨kq,[.v (.st .sig), .r (.st .expr), .v (.slice (.int .i64)), .r (.st .expr)],λ (gg:aU) (x:J) (ps:List Int) (y:J)=>⟨(some (RqP gg x y),[⟨(.st .expr),z8 gg x ps y⟩,⟨(.int .i64),pD gg x ps y⟩])⟩⟩
def Hj:aL.Good yN :=
 ⟨ar Ke rfl (by decide),λ gg x ps y h=>a5N gg x ps y h⟩
end
end Go.Proofs.YtmjfpcajohhbeaaGreatDoor

set_option maxRecDepth 4000
set_option maxHeartbeats 4000000
namespace Go.Proofs.YtmjfpcajohhbeaaGreatDoor
noncomputable section
def MW:aL.Good sb:=Lf.plain
def b1m{p:aj}{k u:Int}(h:0<=u)(h2:u<=23):dv p k u=Sj gP (om.getD u.toNat [])/\oY k u=true:=by
 have e:=a8i (p:=p) (k:=k) h;refine⟨?_,e.2⟩;have a:=a2E u.toNat (by omega);rw[e.1,a.2.2];unfold GU;rw[List.getD_eq_getElem?_getD,List.getElem?_map,List.getD_eq_getElem?_getD,List.getElem?_eq_getElem (show u.toNat<om.length by rw[nM];omega)];rfl
def b0g{u:Int}(h:0<=u)(h2:u<=23):(om.getD u.toNat []).length<=8000:=by
 have a:=(a2E u.toNat (by omega)).2.1;omega
def b0w:bP gP=true:=by decide
def Gn:aL:=⟨GO,[.r (.st .proof), .v (.int .i64), .v (.int .i64)],λ (p:aj) (k:Int) (u:Int)=>⟨(some (u<=23 /\ -40<=u/\0<=k/\k<=(p.af.length:Int)),[⟨(.st .equation),dv p k u⟩,⟨.bool,oY k u⟩])⟩⟩
def T7(p:aj)(k:Int)(u:Int):Nat->az:=bI
abbrev AW(p:aj)(k:Int)(u:Int):Prop:=(let v0:=p.af.getD (Int.toNat ((-1:Int) - u)) (ag.mk zE zE (0:Int) (0:Int) []);(ak ((-1:Int) - u) p.af.length/\(ak ((-1:Int) - u) p.af.length/\(p.af.length<=140737488355328 ->
 (p.af.length<=140737488355328 ->
 ((au.mk (aI v0.left) (aI v0.right))=(dv p k u)/\true=(oY k u)))))))
def MZ:aL.Good Gn:=by
 refine⟨ar CM,?_⟩;intro (p:aj) (k:Int) (u:Int) (hp:u<=23 /\ -40<=u/\0<=k/\k<=(p.af.length:Int));refine aV [sb,Gp,kW] [] [] [] ⟨MW,M0,nO,ae⟩ CM Mp (T7 p k u) (let v0:=(au.mk zE zE)=(dv p k u)/\false=(oY k u);let v2:=(om).getD (Int.toNat u) [];let v3:=(-1:Int) - u;let v1:=decide (((p.af.length:Int))<=v3);((((decide ((0:Int)<=u))=true->((om).length<=140737488355328->(ak u (om).length/\(v2.length<=140737488355328->((bP (gP)=true/\v2.length<=8000)/\((lL (Sj (gP) v2))=(dv p k u)/\true=(oY k u)))))))/\((decide ((0:Int)<=u))=false->(O v3/\(((decide (k<=v3))=false->(p.af.length<=140737488355328->(O ((p.af.length:Int))->((v1=true->v0)/\(v1=false->(AW p k u))))))/\((decide (k<=v3))=(!false)->((true=true->v0)/\(true=false->(AW p k u)))))))))) ?_;refine⟨λ _ _=>⟨?_,λ _=>⟨?_,?_,?_⟩⟩,λ _=>⟨?_,λ _ _ _=>⟨λ _=>⟨?_,?_⟩,λ _=>⟨?_,?_,λ _ _=>⟨?_,?_⟩⟩⟩,λ _=>⟨λ _=>⟨?_,?_⟩,λ _=>⟨?_,?_,λ _ _=>⟨?_,?_⟩⟩⟩⟩⟩;all_goals try and_intros
 all_goals try (first|with_reducible rfl|with_reducible assumption)
 all_goals try simp only[J.eta,ag.eta,au.eta,aJ,bm,bH] at *
 all_goals first|with_reducible rfl|with_reducible assumption|exact True.intro|(simp only[b3D,b3C,b3B,b3z] at *;done)|((try simp only[b3Y,J.eta,b3v,b3u,b3B,b3z,b3I,b3Q,ak,O,aY,b3J,b3G,b3T,b3M,b3R] at *);first|exact True.intro|omega|exact b0w|exact b0g (by omega) (by omega)|(have e:=nM;omega)|((first|have Q:=b1m (p:=p) (k:=k) (u:=u) (by omega) (by omega)|have Q:=a8j (p:=p) (k:=k) (u:=u) (by omega) (by omega)|have Q:=a8k (p:=p) (k:=k) (u:=u) (by omega) (by omega));first|exact Q.1|exact Q.2|exact Q.1.symm|exact Q.2.symm))
end
end Go.Proofs.YtmjfpcajohhbeaaGreatDoor

set_option maxRecDepth 4000
set_option maxHeartbeats 4000000
namespace Go.Proofs.YtmjfpcajohhbeaaGreatDoor
noncomputable section
def a6a{p:aj}{k u:Int}(h:mo p)(hk:k<=(p.af.length:Int))(hu:u<=23)(ho:oY k u=true):aM (dv p k u).left<=500/\aM (dv p k u).right<=500:=by
 unfold dv;by_cases h0:0<=u
 .rw[b4d h0];have hm:GU.getD u.toNat (au.mk zE zE)∈GU:=by
   rw[b3N,b3Z (by rw[Vf];omega)];exact b4Q _
  have kF:GU.all (λ q=>decide (aM q.left<=500)&&decide (aM q.right<=500))=true:=by kernel_rfl
  have:=b4r.1 kF _ hm;rw[b3A,b3v,b3v] at this;exact this
 .rw[b3H h0];simp only[oY,b5o,b3v] at ho;rw[b4d (by omega)];have e:=h.e (i := -1 - u) (by omega) (by omega);have h1:=(yq p.sig _).1 e.1;have h2:=(yq p.sig _).1 e.2.1;exact⟨by have:=h1.2.1;show aM (c7 p (-1 - u)).left<=500;omega,by have:=h2.2.1;show aM (c7 p (-1 - u)).right<=500;omega⟩
def zH.su{p:aj}{k:Int}{e:J}{s:U}(h:zH p k e s)(hp:QP p k e s):suP p.sig (dv p k s.use).left s.av s.bd/\suP p.sig (dv p k s.use).right s.av s.bd:=by
 have ht:=JL hp.v hp.k1 hp.u.1.2 h.u;have hn:=a6a hp.v hp.k1 hp.u.1.2 h.u;have hf:=Ep.of hp.u.2.2.2.2.1 hp.u.2.2.2.2.2;have hq:=Ih h.t h.a;exact⟨⟨hp.v.sg,hq.1,ht.1,hf,hn.1⟩,⟨hp.v.sg,hq.2,ht.2,hf,hn.2⟩⟩
def zH.n3{p:aj}{k:Int}{e:J}{s:U}(h:zH p k e s)(h2:cD p.sig (dr s.av s.bd (dv p k s.use).left)=false\/cD p.sig (dr s.av s.bd (dv p k s.use).right)=false):kx p k e s=J.mk (0:Int) (0:Int) []/\iQ p k e s=3:=by
 refine a0O ?_ (by decide);rw[h.c];unfold U2;rcases h2 with h2|h2<;>rw[h2]<;>simp
def zH.t1{p:aj}{k:Int}{e:J}{s:U}(h:zH p k e s)(h1:cD p.sig (dr s.av s.bd (dv p k s.use).left)=true)(h2:cD p.sig (dr s.av s.bd (dv p k s.use).right)=true)(hb:s.back=true):Cn p k e s (Ym (dv p k s.use).right s.av s.bd) (Ym (dv p k s.use).left s.av s.bd) :=
 ⟨h,by unfold U2;rw[h1,h2];rfl,by rw[UO h2];unfold apX;rw[hb];rfl,by rw[UO h1];unfold U3;rw[hb];rfl⟩
def zH.t0{p:aj}{k:Int}{e:J}{s:U}(h:zH p k e s)(h1:cD p.sig (dr s.av s.bd (dv p k s.use).left)=true)(h2:cD p.sig (dr s.av s.bd (dv p k s.use).right)=true)(hb:s.back=false):Cn p k e s (Ym (dv p k s.use).left s.av s.bd) (Ym (dv p k s.use).right s.av s.bd) :=
 ⟨h,by unfold U2;rw[h1,h2];rfl,by rw[UO h1];unfold apX;rw[hb];rfl,by rw[UO h2];unfold U3;rw[hb];rfl⟩
def Cn.nd{p:aj}{k:Int}{e:J}{s:U}{x y:J}(h:Cn p k e s x y):Jj e s.path=Qe e s.path:=by
 unfold Jj;rw[h.r.n,(WZ _ _ h.r.n).1];rfl
def Cn.d6{p:aj}{k:Int}{e:J}{s:U}{x y:J}(h:Cn p k e s x y)(h2:bF (Qe e s.path) x=false):kx p k e s=J.mk (0:Int) (0:Int) []/\iQ p k e s=6:=h.c6 (by rw[h.nd];exact h2)
def Cn.dgo{p:aj}{k:Int}{e:J}{s:U}{x y:J}(h:Cn p k e s x y)(h2:bF (Qe e s.path) x=true):kx p k e s=z8 p.sig e s.path y/\iQ p k e s=pD p.sig e s.path y:=h.go (by rw[h.nd];exact h2)
def Cn.rq{p:aj}{k:Int}{e:J}{s:U}{x y:J}(h:Cn p k e s x y)(hp:QP p k e s):RqP p.sig e y:=⟨hp.v.sg,E8 _ _ hp.e,h.sz⟩
def DE:aL:=⟨D9,[.r (.st .proof), .v (.int .i64), .r (.st .expr), .r (.st .proofStep)],λ (p:aj) (k:Int) (e:J) (s:U)=>⟨(some (QP p k e s),[⟨(.st .expr),kx p k e s⟩,⟨(.int .i64),iQ p k e s⟩])⟩⟩
def RL(p:aj)(k:Int)(e:J)(s:U):Nat->az:=bI
abbrev yx(p:aj)(k:Int)(e:J)(s:U):Prop:=(let v0:=aI (Ym (aI (dv p k s.use).right) s.av s.bd);let v1:=aI (Ym (aI (dv p k s.use).left) s.av s.bd);let v2:=zE=(kx p k e s)/\(6:Int)=(iQ p k e s);let v3:=Qe e s.path;((s.back=true ->
 (((!(bF v3 v0))=true ->
 v2)/\((!(bF v3 v0))=false ->
 (RqP p.sig e v1/\(s.path.length<=140737488355328 ->
 (O (pD p.sig e s.path v1) ->
 ((aI (z8 p.sig e s.path v1))=(kx p k e s)/\(pD p.sig e s.path v1)=(iQ p k e s))))))))/\(s.back=false ->
 (((!(bF v3 v1))=true ->
 v2)/\((!(bF v3 v1))=false ->
 (RqP p.sig e v0/\(s.path.length<=140737488355328 ->
 (O (pD p.sig e s.path v0) ->
 ((aI (z8 p.sig e s.path v0))=(kx p k e s)/\(pD p.sig e s.path v0)=(iQ p k e s))))))))))
abbrev yy(p:aj)(k:Int)(e:J)(s:U):Prop:=(let v2:=zE=(kx p k e s)/\(3:Int)=(iQ p k e s);let v3:=dv p k s.use;let v0 := !(cD p.sig (dr s.av s.bd (aI v3.right)));let v1 := !(cD p.sig (dr s.av s.bd (aI v3.left)));(s.av.length<=140737488355328 ->
 (s.bd.length<=140737488355328 ->
 (p=p/\(p=p/\(p.sig=p.sig/\(p.sig=p.sig/\(((10:Nat)=10/\(0:Nat)=0)/\(s=s/\(s=s/\(s.av=s.av/\(s.av=s.av/\(s=s/\(s=s/\(s.bd=s.bd/\(s.bd=s.bd/\(suP p.sig (aI v3.left) s.av s.bd/\(s.av.length<=140737488355328 ->
 (s.bd.length<=140737488355328 ->
 (p=p/\(p=p/\(p.sig=p.sig/\(p.sig=p.sig/\(((10:Nat)=10/\(3:Nat)=3)/\(s=s/\(s=s/\(s.av=s.av/\(s.av=s.av/\(s=s/\(s=s/\(s.bd=s.bd/\(s.bd=s.bd/\(suP p.sig (aI v3.right) s.av s.bd/\((v1=false ->
 ((v0=true ->
 v2)/\(v0=false ->
 (yx p k e s))))/\(v1=(!false) ->
 ((true=true ->
 v2)/\(true=false ->
 (yx p k e s))))))))))))))))))))))))))))))))))))))
abbrev yz(p:aj)(k:Int)(e:J)(s:U):Prop:=(((!(eC e s.path))=true ->
 (zE=(kx p k e s)/\(2:Int)=(iQ p k e s)))/\((!(eC e s.path))=false ->
 (yy p k e s)))
abbrev yA(p:aj)(k:Int)(e:J)(s:U):Prop:=((true=true ->
 (zE=(kx p k e s)/\(2:Int)=(iQ p k e s)))/\(true=false ->
 (yy p k e s)))
def KN:aL.Good DE:=by
 refine⟨ar At,?_⟩;intro (p:aj) (k:Int) (e:J) (s:U) (hp:QP p k e s);refine aV [Gn,Gk,uX,od,yN] [] [] [] ⟨MZ,MU,Pm,oI,Hj,ae⟩ At Kv (RL p k e s) (let v1:=lL (dv p k s.use);let v0:=cu [v1.left,v1.right];let v2 := !(decide (((s.av.length:Int))=(v0.1)));let v3 := !(decide (((s.bd.length:Int))=(v0.2)));((O s.use->((s.use<=23 /\ -40<=s.use/\0<=k/\k<=(p.af.length:Int))/\(((!(oY k s.use))=true->(zE=(kx p k e s)/\(2:Int)=(iQ p k e s)))/\((!(oY k s.use))=false->((bg 62 62 v1.left=true/\bg 62 62 v1.right=true)/\(O (v0.1)->(O (v0.2)->(s.path.length<=140737488355328->(s.av.length<=140737488355328->(O ((s.av.length:Int))->((v2=false->(s.bd.length<=140737488355328->(O ((s.bd.length:Int))->((v3=false->(yz p k e s))/\(v3=(!false)->(yA p k e s))))))/\(v2=(!false)->((true=false->(yz p k e s))/\(true=(!false)->(yA p k e s))))))))))))))))) ?_;refine λ _=>⟨?_,λ _=>⟨?_,?_⟩,λ _=>⟨?_,λ _ _ _ _ _=>⟨λ _ _ _=>⟨λ _=>⟨λ _=>⟨?_,?_⟩,λ _ _ _=>⟨rfl,rfl,rfl,rfl,⟨?_,?_⟩,rfl,rfl,rfl,rfl,rfl,rfl,rfl,rfl,?_,λ _ _=>⟨rfl,rfl,rfl,rfl,⟨?_,?_⟩,rfl,rfl,rfl,rfl,rfl,rfl,rfl,rfl,?_,λ _=>⟨λ _=>⟨?_,?_⟩,λ _=>⟨λ _=>⟨λ _=>⟨?_,?_⟩,λ _=>⟨?_,λ _ _=>⟨?_,?_⟩⟩⟩,λ _=>⟨λ _=>⟨?_,?_⟩,λ _=>⟨?_,λ _ _=>⟨?_,?_⟩⟩⟩⟩⟩,λ _=>⟨λ _=>⟨?_,?_⟩,λ _=>⟨λ _=>⟨λ _=>⟨?_,?_⟩,λ _=>⟨?_,λ _ _=>⟨?_,?_⟩⟩⟩,λ _=>⟨λ _=>⟨?_,?_⟩,λ _=>⟨?_,λ _ _=>⟨?_,?_⟩⟩⟩⟩⟩⟩⟩⟩,λ _=>⟨λ _=>⟨?_,?_⟩,λ _ _ _=>⟨rfl,rfl,rfl,rfl,⟨?_,?_⟩,rfl,rfl,rfl,rfl,rfl,rfl,rfl,rfl,?_,λ _ _=>⟨rfl,rfl,rfl,rfl,⟨?_,?_⟩,rfl,rfl,rfl,rfl,rfl,rfl,rfl,rfl,?_,λ _=>⟨λ _=>⟨?_,?_⟩,λ _=>⟨λ _=>⟨λ _=>⟨?_,?_⟩,λ _=>⟨?_,λ _ _=>⟨?_,?_⟩⟩⟩,λ _=>⟨λ _=>⟨?_,?_⟩,λ _=>⟨?_,λ _ _=>⟨?_,?_⟩⟩⟩⟩⟩,λ _=>⟨λ _=>⟨?_,?_⟩,λ _=>⟨λ _=>⟨λ _=>⟨?_,?_⟩,λ _=>⟨?_,λ _ _=>⟨?_,?_⟩⟩⟩,λ _=>⟨λ _=>⟨?_,?_⟩,λ _=>⟨?_,λ _ _=>⟨?_,?_⟩⟩⟩⟩⟩⟩⟩⟩⟩,λ _=>⟨λ _=>⟨λ _=>⟨?_,?_⟩,λ _ _ _=>⟨rfl,rfl,rfl,rfl,⟨?_,?_⟩,rfl,rfl,rfl,rfl,rfl,rfl,rfl,rfl,?_,λ _ _=>⟨rfl,rfl,rfl,rfl,⟨?_,?_⟩,rfl,rfl,rfl,rfl,rfl,rfl,rfl,rfl,?_,λ _=>⟨λ _=>⟨?_,?_⟩,λ _=>⟨λ _=>⟨λ _=>⟨?_,?_⟩,λ _=>⟨?_,λ _ _=>⟨?_,?_⟩⟩⟩,λ _=>⟨λ _=>⟨?_,?_⟩,λ _=>⟨?_,λ _ _=>⟨?_,?_⟩⟩⟩⟩⟩,λ _=>⟨λ _=>⟨?_,?_⟩,λ _=>⟨λ _=>⟨λ _=>⟨?_,?_⟩,λ _=>⟨?_,λ _ _=>⟨?_,?_⟩⟩⟩,λ _=>⟨λ _=>⟨?_,?_⟩,λ _=>⟨?_,λ _ _=>⟨?_,?_⟩⟩⟩⟩⟩⟩⟩⟩,λ _=>⟨λ _=>⟨?_,?_⟩,λ _ _ _=>⟨rfl,rfl,rfl,rfl,⟨?_,?_⟩,rfl,rfl,rfl,rfl,rfl,rfl,rfl,rfl,?_,λ _ _=>⟨rfl,rfl,rfl,rfl,⟨?_,?_⟩,rfl,rfl,rfl,rfl,rfl,rfl,rfl,rfl,?_,λ _=>⟨λ _=>⟨?_,?_⟩,λ _=>⟨λ _=>⟨λ _=>⟨?_,?_⟩,λ _=>⟨?_,λ _ _=>⟨?_,?_⟩⟩⟩,λ _=>⟨λ _=>⟨?_,?_⟩,λ _=>⟨?_,λ _ _=>⟨?_,?_⟩⟩⟩⟩⟩,λ _=>⟨λ _=>⟨?_,?_⟩,λ _=>⟨λ _=>⟨λ _=>⟨?_,?_⟩,λ _=>⟨?_,λ _ _=>⟨?_,?_⟩⟩⟩,λ _=>⟨λ _=>⟨?_,?_⟩,λ _=>⟨?_,λ _ _=>⟨?_,?_⟩⟩⟩⟩⟩⟩⟩⟩⟩⟩⟩⟩;all_goals try and_intros
 all_goals try (first|with_reducible rfl|with_reducible assumption)
 all_goals try simp only[J.eta,ag.eta,au.eta,aJ,bm,bH] at *
 all_goals first|with_reducible rfl|with_reducible assumption|exact True.intro|(simp only[b3D,b3C,b3B,b3z] at *;done)|((try simp only[b3Y,J.eta,b3v,b3u,b3B,b3z,b3I,b3Q,ak,O,aY,b3J,b3G,b3T,b3M,b3R] at *);first|exact True.intro|omega|exact hp.u.1.1|exact hp.u.1.2|exact hp.k0|exact hp.k1|(have:=hp.u;omega)|exact (JL hp.v hp.k1 hp.u.1.2 (by with_reducible assumption)).1|exact (JL hp.v hp.k1 hp.u.1.2 (by with_reducible assumption)).2|((first|have Q:=a4c (p:=p) (k:=k) (e:=e) (s:=s) (.inl (by with_reducible assumption))|have Q:=a4c (p:=p) (k:=k) (e:=e) (s:=s) (.inr (by with_reducible assumption))|have Q:=a4d (p:=p) (k:=k) (e:=e) (s:=s) (a6o (by omega))|have Q:=a4d (p:=p) (k:=k) (e:=e) (s:=s) (a6p (by omega)));first|exact Q.1|exact Q.2|exact Q.1.symm|exact Q.2.symm)|(have A:zH p k e s:=⟨(by with_reducible assumption),(by with_reducible assumption),by omega,by omega⟩;first|exact (A.su hp).1|exact (A.su hp).2|((first|have Q:=(A.n3 (.inl (by with_reducible assumption)))|have Q:=(A.n3 (.inr (by with_reducible assumption))));first|exact Q.1|exact Q.2|exact Q.1.symm|exact Q.2.symm)|(have B:=A.t1 (by with_reducible assumption) (by with_reducible assumption) (by with_reducible assumption);first|exact B.rq hp|((first|have Q:=(B.d6 (by with_reducible assumption))|have Q:=(B.dgo (by with_reducible assumption)));first|exact Q.1|exact Q.2|exact Q.1.symm|exact Q.2.symm))|(have B:=A.t0 (by with_reducible assumption) (by with_reducible assumption) (by with_reducible assumption);first|exact B.rq hp|((first|have Q:=(B.d6 (by with_reducible assumption))|have Q:=(B.dgo (by with_reducible assumption)));first|exact Q.1|exact Q.2|exact Q.1.symm|exact Q.2.symm))))
end
end Go.Proofs.YtmjfpcajohhbeaaGreatDoor

set_option maxRecDepth 4000
set_option maxHeartbeats 4000000
namespace Go.Proofs.YtmjfpcajohhbeaaGreatDoor
noncomputable section
def stX(f:ag):J:=(f.left.M.getD 0 zE).M.getD 1 zE
def stQ(f:ag):J:=(f.left.M.getD 0 zE).M.getD 0 zE
def Yl(f:ag):J:=f.left.M.getD 1 zE
def N6(f:ag):Bool:=decide (f.left.aq=6)&&(decide ((f.left.M.getD 0 zE).aq=6)&&decide (((f.left.M.getD 0 zE).M.getD 1 zE).aq=7))
def vJ(c f:ag):Bool:=N6 f&&(if c.aH=3 then bF ((stX f).M.getD 0 zE) (Yl f)&&(bF f.right (Yl f)&&(bF c.right (Yl f)&&bF c.left (J.mk 6 0 [J.mk 7 0 [stQ f,J.mk 8 0 [(stX f).M.getD 1 zE]],Yl f])))
 else bF ((stX f).M.getD 1 zE) (Yl f)&&(bF f.right (Yl f)&&(bF c.right (Yl f)&&bF c.left (J.mk 6 0 [J.mk 7 0 [J.mk 8 0 [(stX f).M.getD 0 zE],stQ f],Yl f]))))
def Xu{c f:ag}(h:N6 f=false):vJ c f=false:=by unfold vJ;rw[h];rfl
def b2G{c f:ag}(h:N6 f=true)(h3:c.aH=3):vJ c f=(bF (((f.left.M.getD 0 zE).M.getD 1 zE).M.getD 0 zE) (f.left.M.getD 1 zE)&&(bF f.right (f.left.M.getD 1 zE)&&(bF c.right (f.left.M.getD 1 zE)&&bF c.left (J.mk 6 0 [J.mk 7 0 [(f.left.M.getD 0 zE).M.getD 0 zE,J.mk 8 0 [((f.left.M.getD 0 zE).M.getD 1 zE).M.getD 1 zE]],f.left.M.getD 1 zE])))):=by
 unfold vJ;rw[h,if_pos h3];rfl
def b2F{c f:ag}(h:N6 f=true)(h3:¬ c.aH=3):vJ c f=(bF (((f.left.M.getD 0 zE).M.getD 1 zE).M.getD 1 zE) (f.left.M.getD 1 zE)&&(bF f.right (f.left.M.getD 1 zE)&&(bF c.right (f.left.M.getD 1 zE)&&bF c.left (J.mk 6 0 [J.mk 7 0 [J.mk 8 0 [((f.left.M.getD 0 zE).M.getD 1 zE).M.getD 0 zE],(f.left.M.getD 0 zE).M.getD 0 zE],f.left.M.getD 1 zE])))):=by
 unfold vJ;rw[h,if_neg h3];rfl
def a7W{f:ag}(h:¬ f.left.aq=6):N6 f=false:=by unfold N6;rw[decide_eq_false h];rfl
def a7X{f:ag}(h:¬ (f.left.M.getD 0 zE).aq=6):N6 f=false:=by unfold N6;rw[decide_eq_false h];simp
def a7Y{f:ag}(h:¬ ((f.left.M.getD 0 zE).M.getD 1 zE).aq=7):N6 f=false:=by unfold N6;rw[decide_eq_false h];simp
def a7Z{f:ag}(h1:f.left.aq=6)(h2:(f.left.M.getD 0 zE).aq=6)(h3:((f.left.M.getD 0 zE).M.getD 1 zE).aq=7):N6 f=true:=by unfold N6;rw[decide_eq_true h1,decide_eq_true h2,decide_eq_true h3];rfl
structure InR(c f:ag):Prop where
 q:InQ c f
 r:c.aH=2\/c.aH=3
 s1:aB f.left<=1048576
def b1h{c f:ag}(h:c.aH=2\/c.aH=3):vJ c f=uR c f:=by
 by_cases hm:pE (au.mk f.left f.right)=true
 .have e:=Qz hm;unfold pE at hm;simp only[Bool.and_eq_true,decide_eq_true_eq] at hm;obtain⟨⟨m1,m2⟩,m3⟩:=hm;have hr:f.left.M.getD 1 zE=f.right:=iA.1 m3;unfold uR vJ N6 stX stQ Yl;rw[e.1,e.2.1,show pE (au.mk f.left f.right)=true by unfold pE;simp only[Bool.and_eq_true,decide_eq_true_eq];exact⟨⟨m1,m2⟩,m3⟩,decide_eq_true m1,decide_eq_true m2,hr];have hrr:bF f.right f.right=true:=iA.2 rfl;unfold a4y inW;rcases h with h|h
  .rw[b4d h,b4d h,b3H (show ¬ c.aH=3 by omega),hrr];simp only[b4F];cases decide (((f.left.M.getD 0 zE).M.getD 1 zE).aq=7)<;>simp only[b4F,b4P];cases bF (((f.left.M.getD 0 zE).M.getD 1 zE).M.getD 1 zE) f.right<;>simp only[b4F,b4P];rw[Bool.and_comm]
  .rw[b3H (show ¬ c.aH=2 by omega),b3H (show ¬ c.aH=2 by omega),b4d h,hrr];simp only[b4F];cases decide (((f.left.M.getD 0 zE).M.getD 1 zE).aq=7)<;>simp only[b4F,b4P];cases bF (((f.left.M.getD 0 zE).M.getD 1 zE).M.getD 0 zE) f.right<;>simp only[b4F,b4P];rw[Bool.and_comm]
 .have hm':pE (au.mk f.left f.right)=false:=Bool.eq_false_iff.2 hm;have hi:uR c f=false:=by unfold uR;rw[hm'];rfl
  rw[hi];by_cases hh:N6 f=true
  .have hn:bF f.right (Yl f)=false:=by
    refine Bool.eq_false_iff.2 λ q=>hm ?_;have q:=iA.1 q;unfold N6 at hh;simp only[Bool.and_eq_true,decide_eq_true_eq] at hh;unfold pE;simp only[Bool.and_eq_true,decide_eq_true_eq];exact⟨⟨hh.1,hh.2.1⟩,iA.2 q.symm⟩
   unfold vJ;rw[hh,hn];simp
  .rw[Xu (Bool.eq_false_iff.2 hh)]
def b2H{f:ag}(h:bg 62 62 f.left=true)(hk:f.left.aq=6):f.left.M.length=2/\((f.left.M.getD 0 zE).aq=6->(f.left.M.getD 0 zE).M.length=2/\(((f.left.M.getD 0 zE).M.getD 1 zE).aq=7->((f.left.M.getD 0 zE).M.getD 1 zE).M.length=2)):=by
 have a:=Xt (q:=fQ f) h hk;refine⟨a.1,λ h2=>⟨(a.2.2 h2).1,λ h3=>Ka (a.2.2 h2).2 (.inr h3)⟩⟩
def J8{x:J}(h:aB x<=1048576)(i:Nat):aB (x.M.getD i zE)<=1048576:=by
 rcases b4y i x.M.length with g|g
 .have:=dK aB zE x.M i g;rw[jO] at h;omega
 .rw[b3N,b5A g];exact b4B rfl
def Gi:aL:=⟨GH,[.v (.int .i64), .v (.st .expr), .v (.st .expr)],λ (k:Int) (a:J) (b:J)=>⟨(none,[⟨(.st .expr),J.mk k 0 [a,b]⟩])⟩⟩
def T1(k:Int)(a:J)(b:J):Nat->az:=bI
def MS:aL.Good Gi:=by
 refine⟨ar CE,?_⟩;intro (k:Int) (a:J) (b:J) _;refine aV [] [] [] [4,5] trivial CE Mi (T1 k a b) ((J.mk k (0:Int) ([a,b]))=(J.mk k 0 [a,b])) ?_;refine ?_;all_goals try and_intros
 all_goals first|rfl|trivial|omega|(simp only[b3v,b3u,ak,O,bS,cB,bJ,aY] at *;omega)|(simp[ak,O] at *;omega)|grind
def Gl:aL:=⟨GM,[.r (.st .claim), .r (.st .claim)],λ (f:ag) (c:ag)=>⟨(some (InR c f),[⟨.bool,vJ c f⟩])⟩⟩
def T5(f:ag)(c:ag):Nat->az:=bI
abbrev qg(f:ag)(c:ag):Prop:=(let v0:=f.left.M.getD 0 zE;let v2:=f.left.M.getD 1 zE;let v3:=v0.M.getD 0 zE;let v4:=(v0.M.getD 1 zE).M.getD 1 zE;let v1:=J.mk (8:Int) (0:Int) ([v4]);(aB v4<=1048576/\(aB v3<=1048576/\(O c.aH ->
 (((decide (c.aH=(3:Int)))=true ->
 (aB v3<=1048576/\(aB v2<=1048576/\(bF c.left (aI (J.mk (6:Int) 0 [(aI (J.mk (7:Int) 0 [v3,v1])),v2])))=(vJ c f))))/\((decide (c.aH=(3:Int)))=false ->
 (aB v2<=1048576/\(bF c.left (aI (J.mk (6:Int) 0 [(aI (J.mk (7:Int) 0 [v1,v3])),v2])))=(vJ c f))))))))
abbrev AP(f:ag)(c:ag):Prop:=(let v0 := !(bF c.right (f.left.M.getD 1 zE));((v0=true ->
 false=(vJ c f))/\(v0=false ->
 (qg f c))))
abbrev qh(f:ag)(c:ag):Prop:=(let v0:=f.left.M.getD 0 zE;let v2:=f.left.M.getD 1 zE;let v3:=v0.M.getD 0 zE;let v4:=(v0.M.getD 1 zE).M.getD 0 zE;let v1:=J.mk (8:Int) (0:Int) ([v4]);(aB v4<=1048576/\(aB v3<=1048576/\(O c.aH ->
 (((decide (c.aH=(3:Int)))=true ->
 (aB v3<=1048576/\(aB v2<=1048576/\(bF c.left (aI (J.mk (6:Int) 0 [(aI (J.mk (7:Int) 0 [v3,v1])),v2])))=(vJ c f))))/\((decide (c.aH=(3:Int)))=false ->
 (aB v2<=1048576/\(bF c.left (aI (J.mk (6:Int) 0 [(aI (J.mk (7:Int) 0 [v1,v3])),v2])))=(vJ c f))))))))
abbrev AQ(f:ag)(c:ag):Prop:=(let v0 := !(bF c.right (f.left.M.getD 1 zE));((v0=true ->
 false=(vJ c f))/\(v0=false ->
 (qh f c))))
abbrev qi(f:ag)(c:ag):Prop:=(let v1:=f.left.M.getD 1 zE;let v2:=f.left.M.getD 0 zE;let v0:=v2.M.getD 1 zE;let v3 := !(bF f.right v1);let v4 := !(bF (v0.M.getD 0 zE) v1);let v5 := !(bF (v0.M.getD 1 zE) v1);(f.left.M.length<=140737488355328 ->
 (ak (0:Int) f.left.M.length/\(v2.M.length<=140737488355328 ->
 (ak (0:Int) v2.M.length/\(f.left.M.length<=140737488355328 ->
 (ak (0:Int) f.left.M.length/\(v2.M.length<=140737488355328 ->
 (ak (1:Int) v2.M.length/\(v0.M.length<=140737488355328 ->
 (ak (0:Int) v0.M.length/\(f.left.M.length<=140737488355328 ->
 (ak (0:Int) f.left.M.length/\(v2.M.length<=140737488355328 ->
 (ak (1:Int) v2.M.length/\(v0.M.length<=140737488355328 ->
 (ak (1:Int) v0.M.length/\(f.left.M.length<=140737488355328 ->
 (ak (1:Int) f.left.M.length/\(O c.aH ->
 (((decide (c.aH=(3:Int)))=true ->
 ((v4=false ->
 ((v3=false ->
 (AP f c))/\(v3=(!false) ->
 ((true=true ->
 false=(vJ c f))/\(true=false ->
 (qg f c))))))/\(v4=(!false) ->
 ((true=false ->
 (AP f c))/\(true=(!false) ->
 ((true=true ->
 false=(vJ c f))/\(true=false ->
 (qg f c))))))))/\((decide (c.aH=(3:Int)))=false ->
 ((v5=false ->
 ((v3=false ->
 (AQ f c))/\(v3=(!false) ->
 ((true=true ->
 false=(vJ c f))/\(true=false ->
 (qh f c))))))/\(v5=(!false) ->
 ((true=false ->
 (AQ f c))/\(true=(!false) ->
 ((true=true ->
 false=(vJ c f))/\(true=false ->
 (qh f c)))))))))))))))))))))))))))))
abbrev AR(f:ag)(c:ag):Prop:=(let v0:=f.left.M.getD 0 zE;let v1 := !(decide ((v0.M.getD 1 zE).aq=(7:Int)));(f.left.M.length<=140737488355328 ->
 (ak (0:Int) f.left.M.length/\(v0.M.length<=140737488355328 ->
 (ak (1:Int) v0.M.length/\(O (v0.M.getD 1 zE).aq ->
 ((v1=true ->
 false=(vJ c f))/\(v1=false ->
 (qi f c)))))))))
def MX:aL.Good Gl:=by
 refine⟨ar CJ,?_⟩;intro (f:ag) (c:ag) (hp:InR c f);refine aV [od,eA,Gi] [] [] [112] ⟨oI,AF,MS,ae⟩ CJ Mn (T5 f c) (let v0 := !(decide ((f.left.M.getD 0 zE).aq=(6:Int)));let v1 := !(decide (f.left.aq=(6:Int)));((O f.left.aq->((v1=false->(f.left.M.length<=140737488355328->(ak (0:Int) f.left.M.length/\(O (f.left.M.getD 0 zE).aq->((v0=false->(AR f c))/\(v0=(!false)->((true=true->false=(vJ c f))/\(true=false->(qi f c)))))))))/\(v1=(!false)->((true=false->(AR f c))/\(true=(!false)->((true=true->false=(vJ c f))/\(true=false->(qi f c)))))))))) ?_;refine λ _=>⟨λ _ _=>⟨?_,λ _=>⟨λ _ _=>⟨?_,λ _=>⟨?_,λ _=>⟨λ _=>?_,λ _ _=>⟨?_,λ _=>⟨?_,λ _=>⟨?_,λ _=>⟨?_,λ _=>⟨?_,λ _=>⟨?_,λ _=>⟨?_,λ _=>⟨?_,λ _=>⟨?_,λ _=>⟨λ _=>⟨λ _=>⟨λ _=>⟨λ _=>?_,λ _=>⟨?_,?_,λ _=>⟨λ _=>⟨?_,?_,?_⟩,λ _=>⟨?_,?_⟩⟩⟩⟩,λ _=>⟨λ _=>?_,λ _=>⟨?_,?_,λ _=>⟨λ _=>⟨?_,?_,?_⟩,λ _=>⟨?_,?_⟩⟩⟩⟩⟩,λ _=>⟨λ _=>⟨λ _=>?_,λ _=>⟨?_,?_,λ _=>⟨λ _=>⟨?_,?_,?_⟩,λ _=>⟨?_,?_⟩⟩⟩⟩,λ _=>⟨λ _=>?_,λ _=>⟨?_,?_,λ _=>⟨λ _=>⟨?_,?_,?_⟩,λ _=>⟨?_,?_⟩⟩⟩⟩⟩⟩,λ _=>⟨λ _=>⟨λ _=>⟨λ _=>?_,λ _=>⟨?_,?_,λ _=>⟨λ _=>⟨?_,?_,?_⟩,λ _=>⟨?_,?_⟩⟩⟩⟩,λ _=>⟨λ _=>?_,λ _=>⟨?_,?_,λ _=>⟨λ _=>⟨?_,?_,?_⟩,λ _=>⟨?_,?_⟩⟩⟩⟩⟩,λ _=>⟨λ _=>⟨λ _=>?_,λ _=>⟨?_,?_,λ _=>⟨λ _=>⟨?_,?_,?_⟩,λ _=>⟨?_,?_⟩⟩⟩⟩,λ _=>⟨λ _=>?_,λ _=>⟨?_,?_,λ _=>⟨λ _=>⟨?_,?_,?_⟩,λ _=>⟨?_,?_⟩⟩⟩⟩⟩⟩⟩⟩⟩⟩⟩⟩⟩⟩⟩⟩⟩⟩⟩,λ _=>⟨λ _=>?_,λ _ _=>⟨?_,λ _=>⟨?_,λ _=>⟨?_,λ _=>⟨?_,λ _=>⟨?_,λ _=>⟨?_,λ _=>⟨?_,λ _=>⟨?_,λ _=>⟨?_,λ _=>⟨λ _=>⟨λ _=>⟨λ _=>⟨λ _=>?_,λ _=>⟨?_,?_,λ _=>⟨λ _=>⟨?_,?_,?_⟩,λ _=>⟨?_,?_⟩⟩⟩⟩,λ _=>⟨λ _=>?_,λ _=>⟨?_,?_,λ _=>⟨λ _=>⟨?_,?_,?_⟩,λ _=>⟨?_,?_⟩⟩⟩⟩⟩,λ _=>⟨λ _=>⟨λ _=>?_,λ _=>⟨?_,?_,λ _=>⟨λ _=>⟨?_,?_,?_⟩,λ _=>⟨?_,?_⟩⟩⟩⟩,λ _=>⟨λ _=>?_,λ _=>⟨?_,?_,λ _=>⟨λ _=>⟨?_,?_,?_⟩,λ _=>⟨?_,?_⟩⟩⟩⟩⟩⟩,λ _=>⟨λ _=>⟨λ _=>⟨λ _=>?_,λ _=>⟨?_,?_,λ _=>⟨λ _=>⟨?_,?_,?_⟩,λ _=>⟨?_,?_⟩⟩⟩⟩,λ _=>⟨λ _=>?_,λ _=>⟨?_,?_,λ _=>⟨λ _=>⟨?_,?_,?_⟩,λ _=>⟨?_,?_⟩⟩⟩⟩⟩,λ _=>⟨λ _=>⟨λ _=>?_,λ _=>⟨?_,?_,λ _=>⟨λ _=>⟨?_,?_,?_⟩,λ _=>⟨?_,?_⟩⟩⟩⟩,λ _=>⟨λ _=>?_,λ _=>⟨?_,?_,λ _=>⟨λ _=>⟨?_,?_,?_⟩,λ _=>⟨?_,?_⟩⟩⟩⟩⟩⟩⟩⟩⟩⟩⟩⟩⟩⟩⟩⟩⟩⟩⟩,λ _=>⟨λ _ _=>⟨?_,λ _=>⟨?_,λ _=>⟨λ _=>?_,λ _ _=>⟨?_,λ _=>⟨?_,λ _=>⟨?_,λ _=>⟨?_,λ _=>⟨?_,λ _=>⟨?_,λ _=>⟨?_,λ _=>⟨?_,λ _=>⟨?_,λ _=>⟨λ _=>⟨λ _=>⟨λ _=>⟨λ _=>?_,λ _=>⟨?_,?_,λ _=>⟨λ _=>⟨?_,?_,?_⟩,λ _=>⟨?_,?_⟩⟩⟩⟩,λ _=>⟨λ _=>?_,λ _=>⟨?_,?_,λ _=>⟨λ _=>⟨?_,?_,?_⟩,λ _=>⟨?_,?_⟩⟩⟩⟩⟩,λ _=>⟨λ _=>⟨λ _=>?_,λ _=>⟨?_,?_,λ _=>⟨λ _=>⟨?_,?_,?_⟩,λ _=>⟨?_,?_⟩⟩⟩⟩,λ _=>⟨λ _=>?_,λ _=>⟨?_,?_,λ _=>⟨λ _=>⟨?_,?_,?_⟩,λ _=>⟨?_,?_⟩⟩⟩⟩⟩⟩,λ _=>⟨λ _=>⟨λ _=>⟨λ _=>?_,λ _=>⟨?_,?_,λ _=>⟨λ _=>⟨?_,?_,?_⟩,λ _=>⟨?_,?_⟩⟩⟩⟩,λ _=>⟨λ _=>?_,λ _=>⟨?_,?_,λ _=>⟨λ _=>⟨?_,?_,?_⟩,λ _=>⟨?_,?_⟩⟩⟩⟩⟩,λ _=>⟨λ _=>⟨λ _=>?_,λ _=>⟨?_,?_,λ _=>⟨λ _=>⟨?_,?_,?_⟩,λ _=>⟨?_,?_⟩⟩⟩⟩,λ _=>⟨λ _=>?_,λ _=>⟨?_,?_,λ _=>⟨λ _=>⟨?_,?_,?_⟩,λ _=>⟨?_,?_⟩⟩⟩⟩⟩⟩⟩⟩⟩⟩⟩⟩⟩⟩⟩⟩⟩⟩⟩,λ _=>⟨λ _=>?_,λ _ _=>⟨?_,λ _=>⟨?_,λ _=>⟨?_,λ _=>⟨?_,λ _=>⟨?_,λ _=>⟨?_,λ _=>⟨?_,λ _=>⟨?_,λ _=>⟨?_,λ _=>⟨λ _=>⟨λ _=>⟨λ _=>⟨λ _=>?_,λ _=>⟨?_,?_,λ _=>⟨λ _=>⟨?_,?_,?_⟩,λ _=>⟨?_,?_⟩⟩⟩⟩,λ _=>⟨λ _=>?_,λ _=>⟨?_,?_,λ _=>⟨λ _=>⟨?_,?_,?_⟩,λ _=>⟨?_,?_⟩⟩⟩⟩⟩,λ _=>⟨λ _=>⟨λ _=>?_,λ _=>⟨?_,?_,λ _=>⟨λ _=>⟨?_,?_,?_⟩,λ _=>⟨?_,?_⟩⟩⟩⟩,λ _=>⟨λ _=>?_,λ _=>⟨?_,?_,λ _=>⟨λ _=>⟨?_,?_,?_⟩,λ _=>⟨?_,?_⟩⟩⟩⟩⟩⟩,λ _=>⟨λ _=>⟨λ _=>⟨λ _=>?_,λ _=>⟨?_,?_,λ _=>⟨λ _=>⟨?_,?_,?_⟩,λ _=>⟨?_,?_⟩⟩⟩⟩,λ _=>⟨λ _=>?_,λ _=>⟨?_,?_,λ _=>⟨λ _=>⟨?_,?_,?_⟩,λ _=>⟨?_,?_⟩⟩⟩⟩⟩,λ _=>⟨λ _=>⟨λ _=>?_,λ _=>⟨?_,?_,λ _=>⟨λ _=>⟨?_,?_,?_⟩,λ _=>⟨?_,?_⟩⟩⟩⟩,λ _=>⟨λ _=>?_,λ _=>⟨?_,?_,λ _=>⟨λ _=>⟨?_,?_,?_⟩,λ _=>⟨?_,?_⟩⟩⟩⟩⟩⟩⟩⟩⟩⟩⟩⟩⟩⟩⟩⟩⟩⟩⟩;all_goals try and_intros
 all_goals try (first|with_reducible rfl|with_reducible assumption)
 all_goals try simp only[J.eta,ag.eta,au.eta,aJ,bm,bH] at *
 all_goals first|with_reducible rfl|with_reducible assumption|exact True.intro|(simp only[b3D,b3C,b3B,b3z] at *;done)|((try simp only[b3Y,J.eta,b3v,b3u,b3B,b3z,b3I,b3Q,ak,O,aY,b3J,b3G,b3T,b3M,b3R] at *);first|exact True.intro|omega|exact Xu (c:=c) (a7W (by with_reducible assumption))|exact (Xu (c:=c) (a7W (by with_reducible assumption))).symm|exact Xu (c:=c) (a7X (by with_reducible assumption))|exact (Xu (c:=c) (a7X (by with_reducible assumption))).symm|exact Xu (c:=c) (a7Y (by with_reducible assumption))|exact (Xu (c:=c) (a7Y (by with_reducible assumption))).symm|(have h:=b2H hp.q.f1 (by with_reducible assumption);have h2:=h.1;first|omega|(have h3:=h.2 (by with_reducible assumption);have h5:=h3.1;first|omega|(have h4:=h3.2 (by with_reducible assumption);omega)))|exact J8 (J8 (J8 hp.s1 _) _) _|exact J8 (J8 hp.s1 _) _|exact J8 hp.s1 _|(rw[b2G (a7Z (by with_reducible assumption) (by with_reducible assumption) (by with_reducible assumption)) (by with_reducible assumption)];simp only[*,b5f,b4F,b4U,b4P];done)|(rw[b2F (a7Z (by with_reducible assumption) (by with_reducible assumption) (by with_reducible assumption)) (by with_reducible assumption)];simp only[*,b5f,b4F,b4U,b4P];done))
end
end Go.Proofs.YtmjfpcajohhbeaaGreatDoor

set_option maxRecDepth 4000
set_option maxHeartbeats 4000000
namespace Go.Proofs.YtmjfpcajohhbeaaGreatDoor
noncomputable section
def GS.ir{p:aj}{k:Int}(h:GS p k)(h1:¬ (c7 p k).aH=1)(h2:(c7 p k).ref<k):InR (c7 p k) (c7 p (c7 p k).ref):=by
 have a:=h.i h2;have b:=h.b.2.2.1;exact⟨a.1,by omega,E8 _ _ (h.v.e (i:=(c7 p k).ref) a.2.1 a.2.2).1⟩
def GS.st{p:aj}{k:Int}(h:GS p k)(h1:¬ (c7 p k).aH=1)(h2:(c7 p k).ref<k):vJ (c7 p k) (c7 p (c7 p k).ref)=uR (c7 p k) (c7 p (c7 p k).ref):=b1h (h.ir h1 h2).r
def DH:aL:=⟨Ed,[.r (.st .proof), .v (.int .i64)],λ (p:aj) (k:Int)=>⟨(some (GS p k),[⟨.bool,ic p k⟩])⟩⟩
def RO(p:aj)(k:Int):Nat->az:=(cP 0 (.a (Nat) (λ j=>Cs p k j) (λ j=>(c7 p k).steps.length - j) [10,11,12,13,14,15,16,17,18,19,20,40,41,42,43] (λ j=>[(7, .aF ⟨(.int .i64),((j:Int):Int)⟩)]) [] (λ j=>[(6, .box [.aF ⟨(.int .i64),((lG p k j).aq:Int)⟩, .aF ⟨(.int .i64),((lG p k j).aN:Int)⟩, .aF ⟨(.slice (.st .expr)),((lG p k j).M:List J)⟩])])) bI)
def KQ:aL.Good DH:=by
 refine⟨ar Ax,?_⟩;intro (p:aj) (k:Int) (hp:GS p k);refine aV [Gl,DE,od,eA] [] [] [] ⟨MX,KN,oI,AF,ae⟩ Ax Kz (RO p k) (let v6:=(0:Int);let v1:=U.mk v6 false [] [] [];let v2:=ag.mk zE zE v6 v6 [];let v0:=p.af.getD (Int.toNat k) v2;let v3:=(v0.steps.length:Int);let v4:=p.af.getD (Int.toNat v0.ref) v2;let v5 := !(decide (v0.aH=(1:Int)));((p.af.length<=140737488355328->(ak k p.af.length/\(O v0.aH->((v5=true->(((decide (v0.ref<k))=true->(ak v0.ref p.af.length/\(O v0.ref->(p.af.length<=140737488355328->(O v0.ref->(InR v0 v4/\(vJ v0 v4)=(ic p k)))))))/\((decide (v0.ref<k))=(!true)->(O v0.ref->false=(ic p k)))))/\(v5=false->(aB v0.left<=1048576/\((∃ j1:Nat,(Cs p k j1/\((p=p/\(k=k/\(v0=v0/\(True/\(v6=(j1:Int)/\True)))))/\((v0.left.aq=((lG p k j1).aq)/\(v0.left.aN=((lG p k j1).aN)/\(v0.left.M=((lG p k j1).M)/\True)))/\True))))/\(∀ j1:Nat,let v7:=J.mk ((lG p k j1).aq) ((lG p k j1).aN) ((lG p k j1).M);let v8:=v0.steps.getD j1 v1;let v9 := !(decide ((iQ p k v7 v8)=v6));(Cs p k j1->(v0.steps.length<=140737488355328->(O v3->(((decide ((j1:Int)<v3))=true->(v0.steps.length<=140737488355328->(ak (j1:Int) v0.steps.length/\(QP p k v7 v8/\(O (iQ p k v7 v8)->((v9=true->false=(ic p k))/\(v9=false->(O ((j1:Int)+(1:Int))/\(∃ j2:Nat,(Cs p k j2/\((c7 p k).steps.length - j2<(c7 p k).steps.length - j1/\((p=p/\(k=k/\(v0=v0/\(True/\(((j1:Int)+(1:Int))=(j2:Int)/\True)))))/\(((kx p k v7 v8).aq=((lG p k j2).aq)/\((kx p k v7 v8).aN=((lG p k j2).aN)/\((kx p k v7 v8).M=((lG p k j2).M)/\True)))/\True)))))))))))))/\((decide ((j1:Int)<v3))=false->(bF v7 v0.right)=(ic p k)))))))))))))))) ?_;refine λ _=>⟨?_,λ _=>⟨λ _=>⟨λ _=>⟨?_,λ _ _ _=>⟨?_,?_⟩⟩,λ _ _=>?_⟩,λ _=>⟨?_,⟨0,?_,⟨rfl,rfl,rfl,ae,?_,ae⟩,⟨?_,?_,?_,ae⟩,ae⟩,λ j1 _ _ _=>⟨λ _ _=>⟨?_,?_,λ _=>⟨λ _=>?_,λ _=>⟨?_,j1+1,?_,?_,⟨rfl,rfl,rfl,ae,?_,ae⟩,⟨?_,?_,?_,ae⟩,ae⟩⟩⟩,λ _=>?_⟩⟩⟩⟩;all_goals try and_intros
 all_goals first|with_reducible rfl|with_reducible assumption|exact True.intro|(simp only[b3D,b3C,b3B,b3z] at *;done)|((try simp only[b3Y,J.eta,b3v,b3u,b3B,b3z,b3I,b3Q,ak,O,aY,b3J,b3G,b3T,b3M,b3R] at *);(try simp only[a0Y] at *);first|with_reducible exact True.intro|omega|(rw[a9U];done)|exact E8 _ _ hp.b.1|exact hp.k0|exact hp.k1|(have:=hp.k1;have:=hp.k0;omega)|exact hp.ir (by omega) (by omega)|(have:=(hp.i (by omega)).2;omega)|exact hp.z (by with_reducible assumption)|exact hp.z (by omega)|(rw[JF (by omega),b4k (by omega),b4F,hp.st (by omega) (by omega)];done)|(rw[JF (by omega),b3K (by omega),b4P];done)|(have h:Cs p k j1:=(by with_reducible assumption);first|exact h.ap (by omega)|exact h.no (by omega) (by with_reducible assumption)|exact (h.no (by omega) (by with_reducible assumption)).symm|exact h.end (by omega)|exact (h.end (by omega)).symm|exact h.next (by omega) (by with_reducible assumption)|(rw[a4T];done)|exact congrArg _ (a4T _ _ _).symm|(have:=h.jl;omega)))
def DF:aL:=⟨Ea,[.r (.st .proof)],λ (p:aj)=>⟨(some (mo p),[⟨(.int .i64),(zR p:Int)⟩])⟩⟩
def RM(p:aj):Nat->az:=(cP 0 (.b (Nat) (λ k=>xj p k) (λ k=>p.af.length - k) [] (λ k=>[(3, .aF ⟨(.int .i64),((k:Int):Int)⟩)])) bI)
def KO:aL.Good DF:=by
 refine⟨ar Au,?_⟩;intro (p:aj) (hp:mo p);refine aV [DH] [] [] [] ⟨KQ,ae⟩ Au Kw (RM p) (let v0:=(p.af.length:Int);(((∃ k1:Nat,(xj p k1/\((p=p/\((0:Int)=(k1:Int)/\True))/\True)))/\(∀ k1:Nat,let v1:=(k1:Int);(xj p k1->(p.af.length<=140737488355328->(O v0->(((decide (v1<v0))=true->(GS p v1/\(((!(ic p v1))=true->v1=(zR p:Int))/\((!(ic p v1))=false->(O (v1+(1:Int))/\(∃ k2:Nat,(xj p k2/\(p.af.length - k2<p.af.length - k1/\((p=p/\((v1+(1:Int))=(k2:Int)/\True))/\True)))))))))/\((decide (v1<v0))=false->(p.af.length<=140737488355328->(O v0->v0=(zR p:Int)))))))))))) ?_;refine⟨⟨0,?_,⟨rfl,?_,ae⟩,ae⟩,λ k1 _ _ _=>⟨λ _=>⟨?_,λ _=>?_,λ _=>⟨?_,k1+1,?_,?_,⟨rfl,?_,ae⟩,ae⟩⟩,λ _ _ _=>?_⟩⟩;all_goals try and_intros
 all_goals first|with_reducible rfl|with_reducible assumption|exact True.intro|(simp only[b3D,b3C,b3B,b3z] at *;done)|((try simp only[b3Y,J.eta,b3v,b3u,b3B,b3z,b3I,b3Q,ak,O,aY,b3J,b3G,b3T,b3M,b3R] at *);first|exact True.intro|omega|exact xj.zero (by with_reducible assumption)|(have h:xj p k1:=(by with_reducible assumption);first|exact h.sh (by omega)|exact h.no (by omega) (by with_reducible assumption)|exact (h.no (by omega) (by with_reducible assumption)).symm|exact h.end (by omega)|exact (h.end (by omega)).symm|exact h.next (by omega) (by with_reducible assumption)|(have:=h.kl;omega)))
end
end Go.Proofs.YtmjfpcajohhbeaaGreatDoor

namespace Go.Proofs.YtmjfpcajohhbeaaGreatDoor
noncomputable section
end
end Go.Proofs.YtmjfpcajohhbeaaGreatDoor

set_option maxRecDepth 4000
set_option maxHeartbeats 4000000
namespace Go.Proofs.YtmjfpcajohhbeaaGreatDoor
noncomputable section
open Go.RowKit Go.Proofs
set_option maxRecDepth 100000 in
def a0Z(i0:TypeInfo)(z:Value)(bytes:Nat)(hi:prog.info? 2=some i0)(hz0:i0.zero=some z)(X3:i0.size=1)(hz2:i0.bytes=bytes)(Wg:z.cells.size=1)
  (a:Addr) (n c:Nat) (news:List Value) (w:World) (hl:news.length=n * 1) (hn:n<=maxLen) (Pw:n * bytes<=140737488355328)
  (hc:∀ j u,news[j]?=some u->w.cell? (a.add j)=some u) (h1:∀ u∈news,u.oneCell'=true) :
  Calls prog eo #[.slice (some a) n c] w λ e w'=>∃ v',e = .returned v'/\w'.ownsRow w.heap.size 2 1 v' n news/\Below w.heap.size w w':=by
 have t22:prog.underlying 30=some (.slice 2):=by kernel_rfl
 have q22:∀ (w:World) (a:Option Addr) (n c n' c':Nat),(binOp .eql 30 (.slice a n c) (.slice none n' c')).run prog w = .ok (.bool a.isNone) w:=λ w a n c n' c'=>b6u w _ _ a n c n' c' t22;have u22:∀ w,Sem.run prog (underlying 30) w = .ok (TypeDesc.slice 2) w:=b4v t22;have z23:∀ w,(Go.sizeOf 2).run prog w = .ok 1 w:=λ w=>by simp[Go.sizeOf,typeInfo,hi,X3,Result.andThen]
 have A:Aside (∀ j u,news[j]?=some u->w.cell? (a.add j)=some u):=hc;clear hc;go_enter Tryz.func135,Tryz.ntmps135;go_wp2_with (at_builtin;refine wpList_append_own _ rfl _ _ 30 rfl w.heap.size 2 i0 z 1 bytes t22 hi hz0 X3 hz2 Wg (by decide) _ _ _ rfl (b6M w #[] 0 (b4h _) (b4G _) (by simp)) a n c news rfl ?qc1 ?qc2 ?qc3 ?qc4 ?qc5 ?qc6 ?_);case qc1=>exact hl
 case qc2 =>
  intro j u hj;exact b7q _ (A.out j u hj)
 case qc3=>exact h1
 case qc4=>rw[b5b];exact hn
 case qc5=>rw[b5b];exact Pw
 case qc6=>simp
 intro v' w1 nR M8 tg;go_wp2;go_ret;refine⟨v',rfl,by simpa using nR,?_⟩;exact ((Below.refl _ w).alloc (Nat.le_refl _) _).grown M8 (by simp) (by intro k hk;simp[Value.ownBlock] at hk;omega)
def a2O(n c:Nat)(w:World):Calls prog eo #[.slice none n c] w λ e w'=>e = .returned (.slice none 0 0)/\w'=w:=by
 have t22:prog.underlying 30=some (.slice 2):=by kernel_rfl
 have q22:∀ (w:World) (a:Option Addr) (n c n' c':Nat),(binOp .eql 30 (.slice a n c) (.slice none n' c')).run prog w = .ok (.bool a.isNone) w:=λ w a n c n' c'=>b6u w _ _ a n c n' c' t22;go_enter Tryz.func135,Tryz.ntmps135;go_wp2;go_ret;exact⟨rfl,rfl⟩
def a2P(xs:List Int)(hx:xs.length<=1048576):rm prog eo [.val ⟨.slice (.int .i64),xs⟩] [⟨.slice (.int .i64),xs⟩]:=by
 intro w S cA fa hS ha _ _ _;match cA,ha with
 | [v],⟨f1,f2,e0,⟨e1,h1⟩,e2⟩ =>
  have e2:f2=[]:=e2;subst e1 e2;have e0:fa=[]:=e0;subst e0;have h1:Rd w S (.slice 1 (xs.map (Ty.int .i64).aP)) [v]:=h1;obtain⟨a,c,e,h2,h3,h4,h5⟩:=id h1;simp only[b3F,b3L] at e;rw[show (List.map (Ty.int .i64).aP xs).length=xs.length from b3M _] at e h2;subst e;have PC:∀ d∈xs.map (Ty.int .i64).aP,d.light=true:=λ d hd=>by obtain⟨y,_,rfl⟩:=b3E.1 hd;rfl
  have done:∀ (v:Value) (w':World) (l:List Value),w'.ownsRow w.heap.size 2 1 v xs.length l->Below w.heap.size w w'->dT w S (xs.map (Ty.int .i64).aP) l->∃ x fp,Ending.returned v = .returned x/\bC (λ b=>b∈([]:List Nat)) w w'/\tY w' [⟨.slice (.int .i64),xs⟩] x fp/\fp.Nodup/\∀ b∈fp,b∈([]:List Nat)\/(w.heap.size<=b/\b<w'.heap.size):=λ v w' l ho hb hr=>by
   have hk:bC (λ b=>b∈([]:List Nat)) w w':=⟨hb.os,hb.tape,hb.output,hb.size,λ k hk _=>hb.block k hk⟩;rcases ho.2 with ⟨rfl,hn⟩|⟨g,cap,cur,rfl,hg,hh,V2,XX,XY,hn4⟩
   .have hn:xs=[]:=b4C hn;subst hn;exact⟨_,[],rfl,hk,⟨none,0,rfl,b4h _,by simp[maxLen],by simp, .inl ⟨rfl,⟨rfl,rfl⟩,rfl⟩⟩,b4I,by simp⟩
   .have hl:cur.toList=l++cur.toList.drop (xs.length * 1):=by rw[<-hn4,b4K]
    refine⟨_,[g],rfl,hk,⟨some ⟨g,0,none⟩,cap,by rw[List.length_map],by rw[List.length_map];exact V2,XX,(by show (xs.map (Ty.int .i64).aP).length<=140737488355328;rw[List.length_map];omega), .inr ⟨g,[],cur.toList,2,rfl,rfl,by simpa using hh,(by show cur.toList.length=cap * 1;simpa using XY),?_⟩⟩,by simp,λ b q=>?_⟩
    .rw[hl];exact bQ.ep _ PC (S:=λ _=>True) (hr.aS (λ _ _=>trivial) λ b q=>hb.block b (hS.1 b q))
    .simp only[b4e] at q;subst q;exact .inr ⟨hg,(b4H.1 hh).1⟩
  have hi:∃ i0 z bytes,prog.info? 2=some i0/\i0.zero=some z/\i0.size=1/\i0.bytes=bytes/\z.cells.size=1/\bytes<=100:=by
   have q:(match prog.info? 2 with
    | some i=>match i.zero with
     | some z=>decide (i.size=1)&&(decide (z.cells.size=1)&&decide (i.bytes<=100))
     | none=>false
    | none=>false)=true:=by kernel_rfl
   split at q
   .rename_i i hi;split at q
    .rename_i z hz;simp only[b3A,b3v] at q;exact⟨i,z,_,hi,hz,q.1,rfl,q.2.1,q.2.2⟩
    .cases q
   .cases q
  obtain⟨i0,z,bytes,k1,k2,k3,k4,k5,k6⟩:=hi;have Pw:xs.length * bytes<=140737488355328:=b5r (b6D hx k6) (by decide);have key:∀ (ad:Addr) (l:List Value),a=some ad->dT w S (xs.map (Ty.int .i64).aP) l->(∀ j u,l[j]?=some u->w.cell? (ad.add j)=some u) ->
    Calls prog eo #[.slice a xs.length c] w λ e w'=>∃ x fp,e = .returned x/\bC (λ b=>b∈([]:List Nat)) w w'/\tY w' [⟨.slice (.int .i64),xs⟩] x fp/\fp.Nodup/\∀ b∈fp,b∈([]:List Nat)\/(w.heap.size<=b/\b<w'.heap.size):=λ ad l e hr hc=>by
   subst e;have hl:=dT.length _ hr (n:=1) λ d hd=>by
    obtain⟨y,_,rfl⟩:=b3E.1 hd;rfl
   rw[b3M] at hl;refine (a0Z i0 z bytes k1 k2 k3 k4 k5 ad xs.length c l w hl (b5r h2 h3) Pw hc (dT.mX (τ := .int .i64) hr)).mono ?_;rintro e w' ⟨v',rfl,ho,hb⟩;exact done v' w' l ho hb hr
  rcases h5 with h5|⟨b,o,rfl,hb,h5⟩
  .have hn:xs=[]:=b5P.1 h5;cases a with
   | none =>
    subst hn;refine (a2O _ c w).mono ?_;rintro e w' ⟨rfl,rfl⟩;exact done _ _ [] (World.ownsRow_nil w' _ _ _) (b6W _ _) rfl
   | some ad=>exact key ad [] rfl (by subst hn;rfl) (λ j u hj=>by simp at hj)
  .obtain⟨l,hl,hc⟩:=dq.cells _ _ _ h5;exact key ⟨b,o,none⟩ l rfl hl λ j u hj=>by rw[b5J];exact hc j u hj
def qo:aL:=⟨eo,[.v (.slice (.int .i64))],λ (xs:List Int)=>⟨(some (xs.length<=1048576),[⟨(.slice (.int .i64)),xs⟩])⟩⟩
def zZ:aL.cS qo :=
 ⟨ar Ex rfl (by decide),λ xs h=>a2P xs h⟩
end
end Go.Proofs.YtmjfpcajohhbeaaGreatDoor

set_option maxRecDepth 4000
set_option maxHeartbeats 4000000
namespace Go.Proofs.YtmjfpcajohhbeaaGreatDoor
noncomputable section
def yO:aL:=⟨Bk,[.v (.slice (.st .expr))],λ (xs:List J)=>⟨(some (xs.length+aG aB xs<=1048576),[⟨(.slice (.st .expr)),xs⟩])⟩⟩
def Nu(xs:List J):Nat->az:=(cP 0 (.a (Nat) (λ i=>i<=xs.length) (λ i=>xs.length - i) [0,2,6,7,8] (λ i=>[(11, .aF ⟨(.int .i64),((i:Int):Int)⟩),(3, .aw 900)]) [] (λ i=>[(900, .aw (.st .expr) (xs.take i:List J))])) bI)
def Hy:aL.cS yO:=by
 refine⟨ar xq,?_⟩;intro (xs:List J) (hp:xs.length+aG aB xs<=1048576);refine bX [] [eU] [] [] [17,18,19,8] [] [] [] trivial ⟨iM,ae⟩ trivial trivial xq HT (Nu xs) (let v0:=(xs.length:Int);((O v0->(bJ (0:Int) v0 40/\(O v0->((∃ i1:Nat,(i1<=xs.length/\((True/\(xs=xs/\(v0=v0/\((0:Int)=(i1:Int)/\True))))/\((List.replicate 0 zE)=(xs.take i1)/\True))))/\(∀ i1:Nat,let v1:=aI (xs.getD i1 zE);(i1<=xs.length->(((decide ((i1:Int)<v0))=true->(ak (i1:Int) xs.length/\(aB v1<=1048576/\(aY ((xs.take i1).length+([v1]).length) 40/\(O ((i1:Int)+(1:Int))/\(∃ i2:Nat,(i2<=xs.length/\(xs.length - i2<xs.length - i1/\((True/\(xs=xs/\(v0=v0/\(((i1:Int)+(1:Int))=(i2:Int)/\True))))/\(((xs.take i1)++([v1]))=(xs.take i2)/\True))))))))))/\((decide ((i1:Int)<v0))=false->(xs.take i1)=xs)))))))))) ?_;have f1:=λ i (h:i<xs.length)=>dK aB zE xs i h;have f2:xs.take 0=[]:=b4z;refine λ _=>⟨?_,λ _=>⟨⟨0,?_,⟨ae,rfl,rfl,?_,ae⟩,?_,ae⟩,λ i1 _=>⟨λ _=>⟨?_,?_,?_,?_,i1+1,?_,?_,⟨ae,rfl,rfl,?_,ae⟩,?_,ae⟩,λ _=>?_⟩⟩⟩;all_goals try and_intros
 all_goals try (first|with_reducible rfl|with_reducible assumption)
 all_goals try simp only[J.eta,ag.eta,au.eta,aJ,bm,bH] at *
 all_goals first|with_reducible rfl|with_reducible assumption|exact True.intro|(simp only[b3D,b3C,b3B,b3z] at *;done)|((try simp only[b3Y,J.eta,b3v,b3u,b3B,b3z,b3I,b3Q,ak,O,aY,b3J,b3G,b3T,b3M,b3R] at *);first|exact True.intro|omega |  (rw[f2];done)|(rw[f2];rfl)|(rw[cj zE xs i1 (by omega)];done)|exact (cj zE xs i1 (by omega)).symm|(rw[b3U (by omega)];done)|exact (b3U (by omega)).symm|(have:=f1 i1 (by omega);omega)|(simp only[bJ];omega)|(have:=b3R (l:=xs) (i:=i1);omega))
def A7:aL:=⟨DZ,[.v (.st .proofStep)],λ (s:U)=>⟨(some (aX s<=1048576),[⟨(.st .proofStep),s⟩])⟩⟩
def P1(s:U):Nat->az:=bI
def Jo:aL.cS A7:=by
 refine⟨ar Aj,?_⟩;intro (s:U) (hp:aX s<=1048576);refine bX [] [qo,yO] [] [] [9,12,15] [] [] [1] trivial ⟨zZ,Hy,ae⟩ trivial trivial Aj Kj (P1 s) ((O s.use->(s.path.length<=140737488355328->(s.av.length<=140737488355328->(s.bd.length<=140737488355328->(s.use=s.use/\(s.use=s.use/\(s.back=s.back/\(s.back=s.back/\(s.path=s.path/\(s.path=s.path/\(s.av=s.av/\(s.av=s.av/\(s.bd=s.bd/\(s.bd=s.bd/\(s.path.length<=1048576/\(s.use=s.use/\(s.use=s.use/\(s.back=s.back/\(s.back=s.back/\(s.av=s.av/\(s.av=s.av/\(s.bd=s.bd/\(s.bd=s.bd/\(s.av.length+aG aB s.av<=1048576/\(s.use=s.use/\(s.use=s.use/\(s.back=s.back/\(s.back=s.back/\(s.bd=s.bd/\(s.bd=s.bd/\(s.bd.length+aG aB s.bd<=1048576/\(s.use=s.use/\(s.use=s.use/\(s.back=s.back/\(s.back=s.back/\s=s)))))))))))))))))))))))))))))))))))) ?_;rw[gL] at hp;refine λ _ _ _ _=>⟨rfl,rfl,rfl,rfl,rfl,rfl,rfl,rfl,rfl,rfl,?_,rfl,rfl,rfl,rfl,rfl,rfl,rfl,rfl,?_,rfl,rfl,rfl,rfl,rfl,rfl,?_,rfl,rfl,rfl,rfl,rfl⟩;all_goals try and_intros
 all_goals first|with_reducible rfl|with_reducible assumption|exact True.intro|omega|(simp only[b3Y,J.eta,b3v,b3u,b3B,b3z,b3I,b3Q,ak,O,aY,b3J,b3G,b3T,b3M,b3R] at *;omega)
def oO:aL:=⟨Bj,[.v (.st .claim)],λ (c:ag)=>⟨(some (bz c<=1048576),[⟨(.st .claim),c⟩])⟩⟩
def Nt(c:ag):Nat->az:=(cP 0 (.a (Nat) (λ i=>i<=c.steps.length) (λ i=>c.steps.length - i) [0,1,6,7,8,9,10,11,12,13,14,15,16,17] (λ i=>[(20, .aF ⟨(.int .i64),((i:Int):Int)⟩)]) [2] (λ i=>[(3, .box [.aF ⟨(.int .i64),(c.left.aq:Int)⟩, .aF ⟨(.int .i64),(c.left.aN:Int)⟩, .aw 900, .aF ⟨(.int .i64),(c.right.aq:Int)⟩, .aF ⟨(.int .i64),(c.right.aN:Int)⟩, .aw 1200, .aF ⟨(.int .i64),(c.aH:Int)⟩, .aF ⟨(.int .i64),(c.ref:Int)⟩, .aw 3000]),(900, .aw (.st .expr) (c.left.M:List J)),(1200, .aw (.st .expr) (c.right.M:List J)),(3000, .aw (.st .proofStep) (c.steps.take i:List U))])) bI)
abbrev tx(c:ag):Prop:=(c.left.aq=c.left.aq/\(c.left.aN=c.left.aN/\(True/\(c.right.aq=c.right.aq/\(c.right.aN=c.right.aN/\(True/\(c.aH=c.aH/\(c.ref=c.ref/\(True/\True)))))))))
abbrev tz :Prop:=(let v0:=(0:Int);((v0=v0/\(v0=v0/\(True/\(v0=v0/\(v0=v0/\(True/\(v0=v0/\(v0=v0/\(True/\True)))))))))/\True))
def rl:aL.cS oO:=by
 refine⟨ar xp,?_⟩;intro (c:ag) (hp:bz c<=1048576);refine bX [] [eU,A7] [] [] [8,11,27,28,29] [] [] [1] trivial ⟨iM,Jo,ae⟩ trivial trivial xp HS (Nt c) (let v0:=U.mk (0:Int) false [] [] [];let v1:=(c.steps.length:Int);let v2:=(3:Nat)=3/\(8:Nat)=8;((O c.aH->(O c.ref->(c.left=c.left/\(c.left=c.left/\(c.right=c.right/\(c.right=c.right/\(c.aH=c.aH/\(c.aH=c.aH/\(c.ref=c.ref/\(c.ref=c.ref/\(aB c.left<=1048576/\(c.right=c.right/\(c.right=c.right/\(c.aH=c.aH/\(c.aH=c.aH/\(c.ref=c.ref/\(c.ref=c.ref/\(aB c.right<=1048576/\(c.aH=c.aH/\(c.aH=c.aH/\(c.ref=c.ref/\(c.ref=c.ref/\(c.steps.length<=140737488355328->(O v1->((∃ i1:Nat,(i1<=c.steps.length/\((True/\(True/\(c.steps=c.steps/\(v1=v1/\((0:Int)=(i1:Int)/\True)))))/\((tx c)/\(c.left.M=c.left.M/\(c.right.M=c.right.M/\((c.steps.take i1)=[]/\tz)))))))/\(∀ i1:Nat,let v3:=c.steps.getD i1 v0;let v4:=c.steps.take i1;(i1<=c.steps.length->(((decide ((i1:Int)<v1))=true->(ak (i1:Int) c.steps.length/\(v2/\((3000:Nat)=3000/\((v3.use=v3.use/\(v3.back=v3.back/\(v3.path=v3.path/\(v3.av=v3.av/\(v3.bd=v3.bd/\True)))))/\(aX v3<=1048576/\(v2/\((3000:Nat)=3000/\(v2/\((3000:Nat)=3000/\(aY (v4.length+([v3]).length) 88/\(O ((i1:Int)+(1:Int))/\(∃ i2:Nat,(i2<=c.steps.length/\(c.steps.length - i2<c.steps.length - i1/\((True/\(True/\(c.steps=c.steps/\(v1=v1/\(((i1:Int)+(1:Int))=(i2:Int)/\True)))))/\((tx c)/\(c.left.M=c.left.M/\(c.right.M=c.right.M/\((v4++([v3]))=(c.steps.take i2)/\tz))))))))))))))))))))/\((decide ((i1:Int)<v1))=false->(ag.mk (J.mk c.left.aq c.left.aN c.left.M) (J.mk c.right.aq c.right.aN c.right.M) c.aH c.ref v4)=c))))))))))))))))))))))))))))))) ?_;rw[gB] at hp;have f1:=λ i (h:i<c.steps.length)=>dK aX (U.mk (0:Int) false [] [] []) c.steps i h;have f2:c.steps.take 0=[]:=b4z;refine λ _ _=>⟨rfl,rfl,rfl,rfl,rfl,rfl,rfl,rfl,?_,rfl,rfl,rfl,rfl,rfl,rfl,?_,rfl,rfl,rfl,rfl,λ _ _=>⟨⟨0,?_,⟨ae,ae,rfl,rfl,?_,ae⟩,⟨rfl,rfl,ae,rfl,rfl,ae,rfl,rfl,ae,ae⟩,rfl,rfl,?_,⟨rfl,rfl,ae,rfl,rfl,ae,rfl,rfl,ae,ae⟩,ae⟩,λ i1 _=>⟨λ _=>⟨?_,⟨?_,?_⟩,?_,⟨rfl,rfl,rfl,rfl,rfl,?_⟩,?_,⟨?_,?_⟩,?_,⟨?_,?_⟩,?_,?_,?_,i1+1,?_,?_,⟨ae,ae,rfl,rfl,?_,ae⟩,⟨rfl,rfl,ae,rfl,rfl,ae,rfl,rfl,ae,ae⟩,rfl,rfl,?_,⟨rfl,rfl,ae,rfl,rfl,ae,rfl,rfl,ae,ae⟩,ae⟩,λ _=>?_⟩⟩⟩;all_goals try and_intros
 all_goals first|with_reducible rfl|with_reducible assumption|exact True.intro|(simp only[b3D,b3C,b3B,b3z] at *;done)|((try simp only[b3Y,J.eta,b3v,b3u,b3B,b3z,b3I,b3Q,ak,O,aY,b3J,b3G,b3T,b3M,b3R] at *);first|exact True.intro|omega |  (rw[f2];done)|(rw[f2];rfl)|(rw[cj (U.mk (0:Int) false [] [] []) c.steps i1 (by omega)];done)|exact (cj (U.mk (0:Int) false [] [] []) c.steps i1 (by omega)).symm|(rw[b3U (by omega)];done)|exact (b3U (by omega)).symm|(have:=f1 i1 (by omega);omega)|(simp only[bJ];omega)|(have:=b3R (l:=c.steps) (i:=i1);omega))
def yP:aL:=⟨Bl,[.v (.st .proof)],λ (p:aj)=>⟨(some (bN p<=1048576),[⟨(.st .proof),p⟩])⟩⟩
def Nv(p:aj):Nat->az:=(cP 0 (.a (Nat) (λ i=>i<=p.af.length) (λ i=>p.af.length - i) [0,1,6,7,8,9] (λ i=>[(12, .aF ⟨(.int .i64),((i:Int):Int)⟩)]) [2] (λ i=>[(3, .box [.aF ⟨(.int .i64),(p.sig.av:Int)⟩, .aF ⟨(.int .i64),(p.sig.bc:Int)⟩, .aw 2200]),(2200, .aw (.st .claim) (p.af.take i:List ag))])) bI)
def Hz:aL.cS yP:=by
 refine⟨ar xr,?_⟩;intro (p:aj) (hp:bN p<=1048576);refine bX [] [oO] [] [] [19,20,21] [] [] [1] trivial ⟨rl,ae⟩ trivial trivial xr HU (Nv p) (let v1:=(p.af.length:Int);let v2:=p.sig.av=p.sig.av/\(p.sig.bc=p.sig.bc/\(True/\True));let v4:=(3:Nat)=3/\(2:Nat)=2;let v5:=(0:Int);let v0:=ag.mk zE zE v5 v5 [];let v3:=(v5=v5/\(v5=v5/\(True/\True)))/\True;((p.af.length<=140737488355328->(O v1->((∃ i1:Nat,(i1<=p.af.length/\((True/\(True/\(p.af=p.af/\(v1=v1/\(v5=(i1:Int)/\True)))))/\(v2/\((p.af.take i1)=[]/\v3)))))/\(∀ i1:Nat,let v6:=p.af.getD i1 v0;let v7:=p.af.take i1;(i1<=p.af.length->(((decide ((i1:Int)<v1))=true->(ak (i1:Int) p.af.length/\(v4/\((2200:Nat)=2200/\((v6.left.aq=v6.left.aq/\(v6.left.aN=v6.left.aN/\(v6.left.M=v6.left.M/\(v6.right.aq=v6.right.aq/\(v6.right.aN=v6.right.aN/\(v6.right.M=v6.right.M/\(v6.aH=v6.aH/\(v6.ref=v6.ref/\(v6.steps=v6.steps/\True)))))))))/\(bz (kz v6)<=1048576/\(v4/\((2200:Nat)=2200/\(v4/\((2200:Nat)=2200/\(aY (v7.length+([(kz v6)]).length) 120/\(O ((i1:Int)+(1:Int))/\(∃ i2:Nat,(i2<=p.af.length/\(p.af.length - i2<p.af.length - i1/\((True/\(True/\(p.af=p.af/\(v1=v1/\(((i1:Int)+(1:Int))=(i2:Int)/\True)))))/\(v2/\((v7++([(kz v6)]))=(p.af.take i2)/\v3))))))))))))))))))/\((decide ((i1:Int)<v1))=false->(aj.mk (aU.mk p.sig.av p.sig.bc) v7)=p))))))))) ?_;rw[fJ] at hp;have f1:=λ i (h:i<p.af.length)=>dK bz (ag.mk zE zE (0:Int) (0:Int) []) p.af i h;have f2:p.af.take 0=[]:=b4z;refine λ _ _=>⟨⟨0,?_,⟨ae,ae,rfl,rfl,?_,ae⟩,⟨rfl,rfl,ae,ae⟩,?_,⟨rfl,rfl,ae,ae⟩,ae⟩,λ i1 _=>⟨λ _=>⟨?_,⟨?_,?_⟩,?_,⟨rfl,rfl,rfl,rfl,rfl,rfl,rfl,rfl,rfl,?_⟩,?_,⟨?_,?_⟩,?_,⟨?_,?_⟩,?_,?_,?_,i1+1,?_,?_,⟨ae,ae,rfl,rfl,?_,ae⟩,⟨rfl,rfl,ae,ae⟩,?_,⟨rfl,rfl,ae,ae⟩,ae⟩,λ _=>?_⟩⟩;all_goals try and_intros
 all_goals try (first|with_reducible rfl|with_reducible assumption)
 all_goals try simp only[J.eta,ag.eta,au.eta,aJ,bm,bH] at *
 all_goals first|with_reducible rfl|with_reducible assumption|exact True.intro|(simp only[b3D,b3C,b3B,b3z] at *;done)|((try simp only[b3Y,J.eta,b3v,b3u,b3B,b3z,b3I,b3Q,ak,O,aY,b3J,b3G,b3T,b3M,b3R] at *);first|exact True.intro|omega |  (rw[f2];done)|(rw[f2];rfl)|(rw[cj (ag.mk zE zE (0:Int) (0:Int) []) p.af i1 (by omega)];done)|exact (cj (ag.mk zE zE (0:Int) (0:Int) []) p.af i1 (by omega)).symm|(rw[b3U (by omega)];done)|exact (b3U (by omega)).symm|(have:=f1 i1 (by omega);omega)|(simp only[bJ];omega)|(have:=b3R (l:=p.af) (i:=i1);omega))
end
end Go.Proofs.YtmjfpcajohhbeaaGreatDoor

set_option maxRecDepth 4000
set_option maxHeartbeats 4000000
namespace Go.Proofs.YtmjfpcajohhbeaaGreatDoor
noncomputable section
open Go.RowKit Go.Proofs
set_option maxRecDepth 100000 in
def a3H(i0:TypeInfo)(z:Value)(bytes:Nat)(hi:prog.info? 2=some i0)(hz0:i0.zero=some z)(X3:i0.size=1)(hz2:i0.bytes=bytes)(Wg:z.cells.size=1)
  (a:Addr) (n c:Nat) (news:List Value) (w:World) (hl:news.length=n * 1) (hn:n<=maxLen) (Pw:n * bytes<=140737488355328)
  (hc:∀ j u,news[j]?=some u->w.cell? (a.add j)=some u) (h1:∀ u∈news,u.oneCell'=true) :
  Calls prog jz #[.slice (some a) n c] w λ e w'=>∃ v',e = .returned v'/\w'.ownsRow w.heap.size 2 1 v' n news/\Below w.heap.size w w':=by
 have t22:prog.underlying 30=some (.slice 2):=by kernel_rfl
 have q22:∀ (w:World) (a:Option Addr) (n c n' c':Nat),(binOp .eql 30 (.slice a n c) (.slice none n' c')).run prog w = .ok (.bool a.isNone) w:=λ w a n c n' c'=>b6u w _ _ a n c n' c' t22;have u22:∀ w,Sem.run prog (underlying 30) w = .ok (TypeDesc.slice 2) w:=b4v t22;have z23:∀ w,(Go.sizeOf 2).run prog w = .ok 1 w:=λ w=>by simp[Go.sizeOf,typeInfo,hi,X3,Result.andThen]
 have A:Aside (∀ j u,news[j]?=some u->w.cell? (a.add j)=some u):=hc;clear hc;go_enter Tryz.func133,Tryz.ntmps133;go_wp2_with (at_builtin;refine wpList_append_own _ rfl _ _ 30 rfl w.heap.size 2 i0 z 1 bytes t22 hi hz0 X3 hz2 Wg (by decide) _ _ _ rfl (b6M w #[] 0 (b4h _) (b4G _) (by simp)) a n c news rfl ?qc1 ?qc2 ?qc3 ?qc4 ?qc5 ?qc6 ?_);case qc1=>exact hl
 case qc2 =>
  intro j u hj;exact b7q _ (A.out j u hj)
 case qc3=>exact h1
 case qc4=>rw[b5b];exact hn
 case qc5=>rw[b5b];exact Pw
 case qc6=>simp
 intro v' w1 nR M8 tg;go_wp2;go_ret;refine⟨v',rfl,by simpa using nR,?_⟩;exact ((Below.refl _ w).alloc (Nat.le_refl _) _).grown M8 (by simp) (by intro k hk;simp[Value.ownBlock] at hk;omega)
def a5H(c:Nat)(w:World):Calls prog jz #[.slice none 0 c] w λ e w'=>∃ v',e = .returned v'/\w'.ownsRow w.heap.size 2 1 v' 0 []/\Below w.heap.size w w':=by
 have t22:prog.underlying 30=some (.slice 2):=by kernel_rfl
 have u22:∀ w,Sem.run prog (underlying 30) w = .ok (TypeDesc.slice 2) w:=b4v t22;go_enter Tryz.func133,Tryz.ntmps133;go_wp2;go_ret;exact⟨_,rfl,b6M w #[] 0 (b4h _) (b4G _) (by simp),(b6W _ w).alloc (b4h _) _⟩
def a5I(xs:List Int)(hx:xs.length<=1048576):rm prog jz [.val ⟨.slice (.int .i64),xs⟩] [⟨.slice (.int .i64),xs⟩]:=by
 intro w S cA fa hS ha _ _ _;match cA,ha with
 | [v],⟨f1,f2,e0,⟨e1,h1⟩,e2⟩ =>
  have e2:f2=[]:=e2;subst e1 e2;have e0:fa=[]:=e0;subst e0;have h1:Rd w S (.slice 1 (xs.map (Ty.int .i64).aP)) [v]:=h1;obtain⟨a,c,e,h2,h3,h4,h5⟩:=id h1;simp only[b3F,b3L] at e;rw[show (List.map (Ty.int .i64).aP xs).length=xs.length from b3M _] at e h2;subst e;have PC:∀ d∈xs.map (Ty.int .i64).aP,d.light=true:=λ d hd=>by obtain⟨y,_,rfl⟩:=b3E.1 hd;rfl
  have done:∀ (v:Value) (w':World) (l:List Value),w'.ownsRow w.heap.size 2 1 v xs.length l->Below w.heap.size w w'->dT w S (xs.map (Ty.int .i64).aP) l->∃ x fp,Ending.returned v = .returned x/\bC (λ b=>b∈([]:List Nat)) w w'/\tY w' [⟨.slice (.int .i64),xs⟩] x fp/\fp.Nodup/\∀ b∈fp,b∈([]:List Nat)\/(w.heap.size<=b/\b<w'.heap.size):=λ v w' l ho hb hr=>by
   have hk:bC (λ b=>b∈([]:List Nat)) w w':=⟨hb.os,hb.tape,hb.output,hb.size,λ k hk _=>hb.block k hk⟩;rcases ho.2 with ⟨rfl,hn⟩|⟨g,cap,cur,rfl,hg,hh,V2,XX,XY,hn4⟩
   .have hn:xs=[]:=b4C hn;subst hn;exact⟨_,[],rfl,hk,⟨none,0,rfl,b4h _,by simp[maxLen],by simp, .inl ⟨rfl,⟨rfl,rfl⟩,rfl⟩⟩,b4I,by simp⟩
   .have hl:cur.toList=l++cur.toList.drop (xs.length * 1):=by rw[<-hn4,b4K]
    refine⟨_,[g],rfl,hk,⟨some ⟨g,0,none⟩,cap,by rw[List.length_map],by rw[List.length_map];exact V2,XX,(by show (xs.map (Ty.int .i64).aP).length<=140737488355328;rw[List.length_map];omega), .inr ⟨g,[],cur.toList,2,rfl,rfl,by simpa using hh,(by show cur.toList.length=cap * 1;simpa using XY),?_⟩⟩,by simp,λ b q=>?_⟩
    .rw[hl];exact bQ.ep _ PC (S:=λ _=>True) (hr.aS (λ _ _=>trivial) λ b q=>hb.block b (hS.1 b q))
    .simp only[b4e] at q;subst q;exact .inr ⟨hg,(b4H.1 hh).1⟩
  have hi:∃ i0 z bytes,prog.info? 2=some i0/\i0.zero=some z/\i0.size=1/\i0.bytes=bytes/\z.cells.size=1/\bytes<=100:=by
   have q:(match prog.info? 2 with
    | some i=>match i.zero with
     | some z=>decide (i.size=1)&&(decide (z.cells.size=1)&&decide (i.bytes<=100))
     | none=>false
    | none=>false)=true:=by kernel_rfl
   split at q
   .rename_i i hi;split at q
    .rename_i z hz;simp only[b3A,b3v] at q;exact⟨i,z,_,hi,hz,q.1,rfl,q.2.1,q.2.2⟩
    .cases q
   .cases q
  obtain⟨i0,z,bytes,k1,k2,k3,k4,k5,k6⟩:=hi;have Pw:xs.length * bytes<=140737488355328:=b5r (b6D hx k6) (by decide);have key:∀ (ad:Addr) (l:List Value),a=some ad->dT w S (xs.map (Ty.int .i64).aP) l->(∀ j u,l[j]?=some u->w.cell? (ad.add j)=some u) ->
    Calls prog jz #[.slice a xs.length c] w λ e w'=>∃ x fp,e = .returned x/\bC (λ b=>b∈([]:List Nat)) w w'/\tY w' [⟨.slice (.int .i64),xs⟩] x fp/\fp.Nodup/\∀ b∈fp,b∈([]:List Nat)\/(w.heap.size<=b/\b<w'.heap.size):=λ ad l e hr hc=>by
   subst e;have hl:=dT.length _ hr (n:=1) λ d hd=>by
    obtain⟨y,_,rfl⟩:=b3E.1 hd;rfl
   rw[b3M] at hl;refine (a3H i0 z bytes k1 k2 k3 k4 k5 ad xs.length c l w hl (b5r h2 h3) Pw hc (dT.mX (τ := .int .i64) hr)).mono ?_;rintro e w' ⟨v',rfl,ho,hb⟩;exact done v' w' l ho hb hr
  rcases h5 with h5|⟨b,o,rfl,hb,h5⟩
  .have hn:xs=[]:=b5P.1 h5;cases a with
   | none =>
    subst hn;refine (a5H c w).mono ?_;rintro e w' ⟨v',rfl,ho,hb⟩;exact done v' w' [] ho hb rfl
   | some ad=>exact key ad [] rfl (by subst hn;rfl) (λ j u hj=>by simp at hj)
  .obtain⟨l,hl,hc⟩:=dq.cells _ _ _ h5;exact key ⟨b,o,none⟩ l rfl hl λ j u hj=>by rw[b5J];exact hc j u hj
def Gs:aL:=⟨jz,[.v (.slice (.int .i64))],λ (xs:List Int)=>⟨(some (xs.length<=1048576),[⟨(.slice (.int .i64)),xs⟩])⟩⟩
def ND:aL.cS Gs :=
 ⟨ar Tj rfl (by decide),λ xs h=>a5I xs h⟩
def wA:aL:=⟨zf,[.v (.slice (.st .expr))],λ (xs:List J)=>⟨(some (xs.length+aG aB xs<=1048576),[⟨(.slice (.st .expr)),xs⟩])⟩⟩
def K8(xs:List J):Nat->az:=(cP 0 (.a (Nat) (λ i=>i<=xs.length) (λ i=>xs.length - i) [2,5] (λ i=>[(4, .aF ⟨(.int .i64),((i:Int):Int)⟩),(3, .aw 900)]) [] (λ i=>[(900, .aw (.st .expr) (xs.take i:List J))])) bI)
def Fs:aL.cS wA:=by
 refine⟨ar vV,?_⟩;intro (xs:List J) (hp:xs.length+aG aB xs<=1048576);refine bX [] [eA] [] [] [5,16,17,18] [] [] [] trivial ⟨fD,ae⟩ trivial trivial vV Ha (K8 xs) (let v0:=(xs.length:Int);(((∃ i1:Nat,(i1<=xs.length/\((xs=xs/\(True/\((0:Int)=(i1:Int)/\True)))/\([]=(xs.take i1)/\True))))/\(∀ i1:Nat,(i1<=xs.length->(O v0->(((decide ((i1:Int)<v0))=true->(ak (i1:Int) xs.length/\(aB (xs.getD i1 zE)<=1048576/\(aY ((xs.take i1).length+([(aI (xs.getD i1 zE))]).length) 40/\(O ((i1:Int)+(1:Int))/\(∃ i2:Nat,(i2<=xs.length/\(xs.length - i2<xs.length - i1/\((xs=xs/\(True/\(((i1:Int)+(1:Int))=(i2:Int)/\True)))/\(((xs.take i1)++([(aI (xs.getD i1 zE))]))=(xs.take i2)/\True))))))))))/\((decide ((i1:Int)<v0))=false->(xs.take i1)=xs)))))))) ?_;have f1:=λ i (h:i<xs.length)=>dK aB zE xs i h;have f2:xs.take 0=[]:=b4z;refine⟨⟨0,?_,⟨rfl,ae,?_,ae⟩,?_,ae⟩,λ i1 _ _=>⟨λ _=>⟨?_,?_,?_,?_,i1+1,?_,?_,⟨rfl,ae,?_,ae⟩,?_,ae⟩,λ _=>?_⟩⟩;all_goals try and_intros
 all_goals try (first|with_reducible rfl|with_reducible assumption)
 all_goals try simp only[J.eta,ag.eta,au.eta,aJ,bm,bH] at *
 all_goals first|with_reducible rfl|with_reducible assumption|exact True.intro|(simp only[b3D,b3C,b3B,b3z] at *;done)|((try simp only[b3Y,J.eta,b3v,b3u,b3B,b3z,b3I,b3Q,ak,O,aY,b3J,b3G,b3T,b3M,b3R] at *);first|exact True.intro|omega |  (rw[f2];done)|(rw[f2];rfl)|(rw[cj zE xs i1 (by omega)];done)|exact (cj zE xs i1 (by omega)).symm|(rw[b3U (by omega)];done)|exact (b3U (by omega)).symm|(have:=f1 i1 (by omega);omega)|(simp only[bJ];omega)|(have:=b3R (l:=xs) (i:=i1);omega))
def nI:aL:=⟨zg,[.r (.st .proofStep)],λ (s:U)=>⟨(some (aX s<=1048576),[⟨(.st .proofStep),s⟩])⟩⟩
def K9(s:U):Nat->az:=bI
def qC:aL.cS nI:=by
 refine⟨ar vW,?_⟩;intro (s:U) (hp:aX s<=1048576);refine bX [] [Gs,wA] [] [] [15,20,25] [] [] [] trivial ⟨ND,Fs,ae⟩ trivial trivial vW Hb (K9 s) ((O s.use->(s.path.length<=140737488355328->(s.av.length<=140737488355328->(s.bd.length<=140737488355328->(s=s/\(s=s/\(s.use=s.use/\(s.use=s.use/\(s=s/\(s=s/\(s.back=s.back/\(s.back=s.back/\(s=s/\(s=s/\(s.path=s.path/\(s.path=s.path/\(s=s/\(s=s/\(s.av=s.av/\(s.av=s.av/\(s=s/\(s=s/\(s.bd=s.bd/\(s.bd=s.bd/\(s.path.length<=1048576/\(s=s/\(s=s/\(s.use=s.use/\(s.use=s.use/\(s=s/\(s=s/\(s.back=s.back/\(s.back=s.back/\(s=s/\(s=s/\(s.av=s.av/\(s.av=s.av/\(s=s/\(s=s/\(s.bd=s.bd/\(s.bd=s.bd/\(s.av.length+aG aB s.av<=1048576/\(s=s/\(s=s/\(s.use=s.use/\(s.use=s.use/\(s=s/\(s=s/\(s.back=s.back/\(s.back=s.back/\(s=s/\(s=s/\(s.bd=s.bd/\(s.bd=s.bd/\(s.bd.length+aG aB s.bd<=1048576/\(s=s/\(s=s/\(s.use=s.use/\(s.use=s.use/\(s=s/\(s=s/\(s.back=s.back/\(s.back=s.back/\s=s)))))))))))))))))))))))))))))))))))))))))))))))))))))))))))))))) ?_;rw[gL] at hp;refine λ _ _ _ _=>⟨rfl,rfl,rfl,rfl,rfl,rfl,rfl,rfl,rfl,rfl,rfl,rfl,rfl,rfl,rfl,rfl,rfl,rfl,rfl,rfl,?_,rfl,rfl,rfl,rfl,rfl,rfl,rfl,rfl,rfl,rfl,rfl,rfl,rfl,rfl,rfl,rfl,?_,rfl,rfl,rfl,rfl,rfl,rfl,rfl,rfl,rfl,rfl,rfl,rfl,?_,rfl,rfl,rfl,rfl,rfl,rfl,rfl,rfl,rfl⟩;all_goals try and_intros
 all_goals first|with_reducible rfl|with_reducible assumption|exact True.intro|omega|(simp only[b3Y,J.eta,b3v,b3u,b3B,b3z,b3I,b3Q,ak,O,aY,b3J,b3G,b3T,b3M,b3R] at *;omega)
def Gt:aL:=⟨Jh,[.r (.st .proof)],λ (p:aj)=>⟨(some (bN p<=1048576),[⟨(.st .proof),p⟩])⟩⟩
def Ug(p:aj):Nat->az:=(cP 0 (.mk (Nat) (λ i=>i<=p.af.length) (λ i=>p.af.length - i) [] [8,9,10,11,12] (λ i=>[(4, .aF ⟨(.int .i64),((i:Int):Int)⟩)]) [2] (λ i=>[(3, .box [.aF ⟨(.int .i64),(p.sig.av:Int)⟩, .aF ⟨(.int .i64),(p.sig.bc:Int)⟩, .aw 2200]),(2200, .aw (.st .claim) (p.af.take i:List ag))]) [] [] (λ i=>(cP 2 (.a (Nat) (λ j=>j<=(p.af.getD i (ag.mk zE zE (0:Int) (0:Int) [])).steps.length/\i<p.af.length) (λ j=>(p.af.getD i (ag.mk zE zE (0:Int) (0:Int) [])).steps.length - j) [13,14,15,16,17,18,19,22,23,24,25,26,27,28,29,30,31,32,33,34,35,36,37,38,39,40,41,42,43,44] (λ j=>[(7, .aF ⟨(.int .i64),((j:Int):Int)⟩)]) [2,3,2200] (λ j=>[(6, .box [.aF ⟨(.int .i64),((p.af.getD i (ag.mk zE zE (0:Int) (0:Int) [])).left.aq:Int)⟩, .aF ⟨(.int .i64),((p.af.getD i (ag.mk zE zE (0:Int) (0:Int) [])).left.aN:Int)⟩, .aw 900, .aF ⟨(.int .i64),((p.af.getD i (ag.mk zE zE (0:Int) (0:Int) [])).right.aq:Int)⟩, .aF ⟨(.int .i64),((p.af.getD i (ag.mk zE zE (0:Int) (0:Int) [])).right.aN:Int)⟩, .aw 1200, .aF ⟨(.int .i64),((p.af.getD i (ag.mk zE zE (0:Int) (0:Int) [])).aH:Int)⟩, .aF ⟨(.int .i64),((p.af.getD i (ag.mk zE zE (0:Int) (0:Int) [])).ref:Int)⟩, .aw 3000]),(900, .aw (.st .expr) ((p.af.getD i (ag.mk zE zE (0:Int) (0:Int) [])).left.M:List J)),(1200, .aw (.st .expr) ((p.af.getD i (ag.mk zE zE (0:Int) (0:Int) [])).right.M:List J)),(3000, .aw (.st .proofStep) ((p.af.getD i (ag.mk zE zE (0:Int) (0:Int) [])).steps.take j:List U))])) bI))) bI)
abbrev A1(p:aj)(i1:Nat):Prop:=((p.sig.av=p.sig.av/\(p.sig.bc=p.sig.bc/\(True/\True)))/\((p.af.take i1)=(p.af.take i1)/\(((0:Int)=(0:Int)/\((0:Int)=(0:Int)/\(True/\True)))/\True)))
def NG:aL.cS Gt:=by
 refine⟨ar FR,?_⟩;intro (p:aj) (hp:bN p<=1048576);refine bX [] [eA,nI] [] [] [31,35,62,63,64,69,70] [] [] [] trivial ⟨fD,qC,ae⟩ trivial trivial FR OM (Ug p) (let v4:=(6:Nat)=6/\(8:Nat)=8;let v5:=(0:Int);let v0:=ag.mk zE zE v5 v5 [];let v1:=U.mk v5 false [] [] [];let v6:=(p.af.length:Int);let v7:=True/\True;let v2:=p.sig.av=p.sig.av/\(p.sig.bc=p.sig.bc/\v7);let v3:=(v5=v5/\(v5=v5/\v7))/\True;(((∃ i1:Nat,(i1<=p.af.length/\((p=p/\(True/\(True/\(v5=(i1:Int)/\True))))/\(v2/\((p.af.take i1)=[]/\v3)))))/\(∀ i1:Nat,let v8:=p.af.getD i1 v0;let v9:=(i1:Int);let vc:=(v8.steps.length:Int);let vd:=v8.right.aq;let ve:=v8.right.M;let vf:=v8.left.aq;let vg:=v8.right.aN;let va:=J.mk vd vg ve;let vh:=v8.left.M;let vi:=p.af.take i1;let vj:=v8.left.aN;let vb:=J.mk vf vj vh;(i1<=p.af.length->(p.af.length<=140737488355328->(O v6->(((decide (v9<v6))=true->(p.af.length<=140737488355328->(ak v9 p.af.length/\(O v8.aH->(O v8.ref->(v8=v8/\(v8=v8/\(v8.left=v8.left/\(v8=v8/\(v8=v8/\(v8.right=v8.right/\(v8=v8/\(v8=v8/\(v8.aH=v8.aH/\(v8.aH=v8.aH/\(v8=v8/\(v8=v8/\(v8.ref=v8.ref/\(v8.ref=v8.ref/\(aB v8.left<=1048576/\(v8=v8/\(v8=v8/\(v8.right=v8.right/\(v8=v8/\(v8=v8/\(v8.aH=v8.aH/\(v8.aH=v8.aH/\(v8=v8/\(v8=v8/\(v8.ref=v8.ref/\(v8.ref=v8.ref/\(aB v8.right<=1048576/\(v8=v8/\(v8=v8/\(v8.aH=v8.aH/\(v8.aH=v8.aH/\(v8=v8/\(v8=v8/\(v8.ref=v8.ref/\(v8.ref=v8.ref/\((∃ j2:Nat,((j2<=v8.steps.length/\i1<p.af.length)/\((p=p/\(True/\(True/\(v9=v9/\(v8=v8/\(True/\(v5=(j2:Int)/\True)))))))/\((v8.left.aq=vf/\(v8.left.aN=vj/\(True/\(v8.right.aq=vd/\(v8.right.aN=vg/\(True/\(v8.aH=(v8.aH)/\(v8.ref=(v8.ref)/\v7))))))))/\(v8.left.M=vh/\(v8.right.M=ve/\((v8.steps.take j2)=[]/\(A1 p i1))))))))/\(∀ j2:Nat,let vk:=v8.steps.getD j2 v1;let vm:=(j2:Int);let vn:=v8.steps.take j2;let vl:=[(ag.mk vb va (v8.aH) (v8.ref) vn)];((j2<=v8.steps.length/\i1<p.af.length)->(v8.steps.length<=140737488355328->(O vc->(((decide (vm<vc))=true->(v8.steps.length<=140737488355328->(O vm->(ak vm v8.steps.length/\(v4/\((3000:Nat)=3000/\(v8=v8/\(v8=v8/\(v8.steps=v8.steps/\(v8.steps=v8.steps/\(vm=vm/\(ak vm v8.steps.length/\(vk=vk/\(aX vk<=1048576/\(v4/\((3000:Nat)=3000/\(v4/\((3000:Nat)=3000/\(aY (vn.length+([vk]).length) 88/\(O (vm+(1:Int))/\(∃ j3:Nat,((j3<=v8.steps.length/\i1<p.af.length)/\(v8.steps.length - j3<v8.steps.length - j2/\((p=p/\(True/\(True/\(v9=v9/\(v8=v8/\(True/\((vm+(1:Int))=(j3:Int)/\True)))))))/\((vf=vf/\(vj=vj/\(True/\(vd=vd/\(vg=vg/\(True/\((v8.aH)=(v8.aH)/\((v8.ref)=(v8.ref)/\v7))))))))/\(vh=vh/\(ve=ve/\((vn++([vk]))=(v8.steps.take j3)/\(A1 p i1)))))))))))))))))))))))))))))/\((decide (vm<vc))=false->(aY (vi.length+vl.length) 120/\(O (v9+(1:Int))/\(∃ i3:Nat,(i3<=p.af.length/\(p.af.length - i3<p.af.length - i1/\((p=p/\(True/\(True/\((v9+(1:Int))=(i3:Int)/\True))))/\(v2/\((vi++vl)=(p.af.take i3)/\v3)))))))))))))))))))))))))))))))))))))))))))))))))))))))/\((decide (v9<v6))=false->(aj.mk (aU.mk p.sig.av p.sig.bc) vi)=p))))))))) ?_;rw[fJ] at hp;have f1:=λ i (h:i<p.af.length)=>dK bz (ag.mk zE zE (0:Int) (0:Int) []) p.af i h;have f2:p.af.take 0=[]:=b4z;have f3:=λ i (h:i<p.af.length)=>gB (p.af.getD i (ag.mk zE zE (0:Int) (0:Int) []));have f4:=λ i j (h:j<(p.af.getD i (ag.mk zE zE (0:Int) (0:Int) [])).steps.length)=>dK aX (U.mk (0:Int) false [] [] []) (p.af.getD i (ag.mk zE zE (0:Int) (0:Int) [])).steps j h;refine⟨⟨0,?_,⟨rfl,ae,ae,?_,ae⟩,⟨rfl,rfl,ae,ae⟩,?_,⟨rfl,rfl,ae,ae⟩,ae⟩,λ i1 _ _ _=>⟨λ _ _=>⟨?_,λ _ _=>⟨rfl,rfl,rfl,rfl,rfl,rfl,rfl,rfl,rfl,rfl,rfl,rfl,rfl,rfl,?_,rfl,rfl,rfl,rfl,rfl,rfl,rfl,rfl,rfl,rfl,rfl,?_,rfl,rfl,rfl,rfl,rfl,rfl,rfl,rfl,⟨0,?_,⟨rfl,ae,ae,rfl,rfl,ae,?_,ae⟩,⟨?_,?_,ae,?_,?_,ae,?_,?_,ae,ae⟩,?_,?_,?_,⟨rfl,rfl,ae,ae⟩,rfl,⟨rfl,rfl,ae,ae⟩,ae⟩,λ j2 _ _ _=>⟨λ _ _ _=>⟨?_,⟨?_,?_⟩,?_,rfl,rfl,rfl,rfl,rfl,?_,rfl,?_,⟨?_,?_⟩,?_,⟨?_,?_⟩,?_,?_,?_,j2+1,?_,?_,⟨rfl,ae,ae,rfl,rfl,ae,?_,ae⟩,⟨rfl,rfl,ae,rfl,rfl,ae,rfl,rfl,ae,ae⟩,rfl,rfl,?_,⟨rfl,rfl,ae,ae⟩,rfl,⟨rfl,rfl,ae,ae⟩,ae⟩,λ _=>⟨?_,?_,i1+1,?_,?_,⟨rfl,ae,ae,?_,ae⟩,⟨rfl,rfl,ae,ae⟩,?_,⟨rfl,rfl,ae,ae⟩,ae⟩⟩⟩⟩,λ _=>?_⟩⟩;all_goals try and_intros
 all_goals first|with_reducible rfl|with_reducible assumption|exact True.intro|(simp only[b3D,b3C,b3B,b3z] at *;done)|((try simp only[b3Y,J.eta,b3v,b3u,b3B,b3z,b3I,b3Q,ak,O,aY,b3J,b3G,b3T,b3M,b3R] at *);first|exact True.intro|omega|(have g:=f4 i1 j2 (by omega);have g1:=f3 i1 (by omega);have g2:=f1 i1 (by omega);omega)|(have g1:=f3 i1 (by omega);have g2:=f1 i1 (by omega);omega)|(rw[cj (U.mk (0:Int) false [] [] []) _ j2 (by omega)];done)|exact (cj (U.mk (0:Int) false [] [] []) _ j2 (by omega)).symm|exact b4z|(rw[cj (ag.mk zE zE (0:Int) (0:Int) []) p.af i1 (by omega),b3U (l:=(p.af.getD i1 (ag.mk zE zE (0:Int) (0:Int) [])).steps) (by omega)];done)|(have:=b3R (l:=(p.af.getD i1 (ag.mk zE zE (0:Int) (0:Int) [])).steps) (i:=j2);omega)|(rw[f2];done)|(rw[f2];rfl)|(rw[cj (ag.mk zE zE (0:Int) (0:Int) []) p.af i1 (by omega)];done)|exact (cj (ag.mk zE zE (0:Int) (0:Int) []) p.af i1 (by omega)).symm|(rw[b3U (by omega)];done)|exact (b3U (by omega)).symm|(have:=f1 i1 (by omega);omega)|(simp only[bJ];omega)|(have:=b3R (l:=p.af) (i:=i1);omega))
end
end Go.Proofs.YtmjfpcajohhbeaaGreatDoor

set_option maxRecDepth 4000
set_option maxHeartbeats 4000000
namespace Go.Proofs.YtmjfpcajohhbeaaGreatDoor
noncomputable section
def Ch(p:aj):Bool:=decide ((p.af.length:Int)<=(zR p:Int))
def rp(p:aj):Int:=bif dz p then (bif Ch p then 0 else 8) else 1
def wO(l:List aj):Int:=bif bp dz l then (bif bp Ch l then 0 else 8) else 1
def a9s{l:List aj}(h:bp dz l=false):wO l=1:=by unfold wO;rw[h];rfl
def b1F{l:List aj}(h:bp dz l=true)(h2:bp Ch l=false):wO l=8:=by unfold wO;rw[h,h2];rfl
def b1E{l:List aj}(h:bp dz l=true)(h2:bp Ch l=true):wO l=0:=by unfold wO;rw[h,h2];rfl
def a9u{p:aj}(h:dz p=false):rp p=1:=by unfold rp;rw[h];rfl
def a9v{p:aj}(h:dz p=true)(h2:(zR p:Int)<(p.af.length:Int)):rp p=8:=by unfold rp Ch;rw[h,decide_eq_false (by omega)];rfl
def a9t{p:aj}(h:dz p=true)(h2:¬ (zR p:Int)<(p.af.length:Int)):rp p=0:=by unfold rp Ch;rw[h,decide_eq_true (by omega)];rfl
def b1f{p:aj}(h2:(zR p:Int)<(p.af.length:Int)):Ch p=false:=by unfold Ch;exact decide_eq_false (by omega)
def b1e{p:aj}(h2:¬ (zR p:Int)<(p.af.length:Int)):Ch p=true:=by unfold Ch;exact decide_eq_true (by omega)
structure LY(l:List aj)(k:Nat):Prop where
 v:bp dz l=true
 t:lI Ch l k
def LY.pv{l:List aj}{k:Nat}(h:LY l k)(hk:k<l.length):mo (l.getD k (aj.mk (aU.mk (0:Int) (0:Int)) [])):=⟨xl dz (aj.mk (aU.mk (0:Int) (0:Int)) []) l k h.v hk⟩
def LY.bad{l:List aj}{k:Nat}(h:LY l k)(hk:k<l.length)(h2:(zR (l.getD k (aj.mk (aU.mk (0:Int) (0:Int)) [])):Int)<((l.getD k (aj.mk (aU.mk (0:Int) (0:Int)) [])).af.length:Int)):wO l=8:=b1F h.v (h.t.bad (aj.mk (aU.mk (0:Int) (0:Int)) []) hk (b1f h2))
def LY.next{l:List aj}{k:Nat}(h:LY l k)(hk:k<l.length)(h2:¬ (zR (l.getD k (aj.mk (aU.mk (0:Int) (0:Int)) [])):Int)<((l.getD k (aj.mk (aU.mk (0:Int) (0:Int)) [])).af.length:Int)):LY l (k+1):=⟨h.v,h.t.next (aj.mk (aU.mk (0:Int) (0:Int)) []) hk (b1e h2)⟩
def LY.end{l:List aj}{k:Nat}(h:LY l k)(hk:l.length<=k):wO l=0:=b1E h.v (h.t.done hk)
def Dv:aL:=⟨DY,[.v (.slice (.st .proof))],λ (l:List aj)=>⟨(none,[⟨(.int .i64),wO l⟩])⟩⟩
def Rz(l:List aj):Nat->az:=(cP 0 (.b (Nat) (λ k=>lI dz l k) (λ k=>l.length - k) [] (λ k=>[(9, .aF ⟨(.int .i64),((k:Int):Int)⟩)])) (cP 2 (.b (Nat) (λ k=>LY l k) (λ k=>l.length - k) [0,7,8,9,10] (λ k=>[(19, .aF ⟨(.int .i64),((k:Int):Int)⟩)])) bI))
def KD:aL.Good Dv:=by
 refine⟨ar Ai,?_⟩;intro (l:List aj) _;refine aV [yH,F2] [] [] [] ⟨He,MA,ae⟩ Ai Kh (Rz l) (let v0:=aj.mk (aU.mk (0:Int) (0:Int)) [];let v1:=(l.length:Int);((O v1->((∃ k1:Nat,(lI dz l k1/\((l=l/\(l=l/\(v1=v1/\((0:Int)=(k1:Int)/\True))))/\True)))/\(∀ k1:Nat,(lI dz l k1->(((decide ((k1:Int)<v1))=true->(ak (k1:Int) l.length/\(((!(dz (l.getD k1 v0)))=true->(1:Int)=(wO l))/\((!(dz (l.getD k1 v0)))=false->(O ((k1:Int)+(1:Int))/\(∃ k2:Nat,(lI dz l k2/\(l.length - k2<l.length - k1/\((l=l/\(l=l/\(v1=v1/\(((k1:Int)+(1:Int))=(k2:Int)/\True))))/\True)))))))))/\((decide ((k1:Int)<v1))=false->(O v1->((∃ k2:Nat,(LY l k2/\((l=l/\(v1=v1/\((0:Int)=(k2:Int)/\True)))/\True)))/\(∀ k2:Nat,let v3:=l.getD k2 v0;let v2:=decide (((zR v3:Int))<((v3.af.length:Int)));(LY l k2->(((decide ((k2:Int)<v1))=true->(ak (k2:Int) l.length/\(mo v3/\(O ((zR v3:Int))->(v3.af.length<=140737488355328->(O ((v3.af.length:Int))->((v2=true->(8:Int)=(wO l))/\(v2=false->(O ((k2:Int)+(1:Int))/\(∃ k3:Nat,(LY l k3/\(l.length - k3<l.length - k2/\((l=l/\(v1=v1/\(((k2:Int)+(1:Int))=(k3:Int)/\True)))/\True)))))))))))))/\((decide ((k2:Int)<v1))=false->(0:Int)=(wO l))))))))))))))) ?_;refine λ _=>⟨⟨0,?_,⟨rfl,rfl,rfl,?_,ae⟩,ae⟩,λ k1 _=>⟨λ _=>⟨?_,λ _=>?_,λ _=>⟨?_,k1+1,?_,?_,⟨rfl,rfl,rfl,?_,ae⟩,ae⟩⟩,λ _ _=>⟨⟨0,?_,⟨rfl,rfl,?_,ae⟩,ae⟩,λ k2 _=>⟨λ _=>⟨?_,?_,λ _ _ _=>⟨λ _=>?_,λ _=>⟨?_,k2+1,?_,?_,⟨rfl,rfl,?_,ae⟩,ae⟩⟩⟩,λ _=>?_⟩⟩⟩⟩;all_goals try and_intros
 all_goals first|with_reducible rfl|with_reducible assumption|exact True.intro|(simp only[b3D,b3C,b3B,b3z] at *;done)|((try simp only[b3Y,J.eta,b3v,b3u,b3B,b3z,b3I,b3Q,ak,O,aY,b3J,b3G,b3T,b3M,b3R] at *);first|with_reducible exact True.intro|omega|exact lI.zero _ _|(have h:lI dz l k1:=(by with_reducible assumption);first|exact a9s (h.bad _ (by omega) (by with_reducible assumption))|exact (a9s (h.bad _ (by omega) (by with_reducible assumption))).symm|exact⟨h.done (by omega),lI.zero _ _⟩|exact h.next _ (by omega) (by with_reducible assumption)|(have:=h.le;omega))|(have h:LY l k1:=(by with_reducible assumption);first|exact h.pv (by omega)|exact h.bad (by omega) (by omega)|exact (h.bad (by omega) (by omega)).symm|exact h.end (by omega)|exact (h.end (by omega)).symm|exact h.next (by omega) (by omega)|(have:=h.t.le;omega))|(have h:LY l k2:=(by with_reducible assumption);first|exact h.pv (by omega)|exact h.bad (by omega) (by omega)|exact (h.bad (by omega) (by omega)).symm|exact h.end (by omega)|exact (h.end (by omega)).symm|exact h.next (by omega) (by omega)|(have:=h.t.le;omega)))
def Gj:aL:=⟨GI,[.r (.st .proof)],λ (p:aj)=>⟨(none,[⟨(.int .i64),rp p⟩])⟩⟩
def T3(p:aj):Nat->az:=bI
def MT:aL.Good Gj:=by
 refine⟨ar CF,?_⟩;intro (p:aj) _;refine aV [B3,DF] [] [] [] ⟨Dd,KO,ae⟩ CF Mj (T3 p) (let v0:=decide (((zR p:Int))<((p.af.length:Int)));((((!(dz p))=true->(1:Int)=(rp p))/\((!(dz p))=false->(mo p/\(O ((zR p:Int))->(p.af.length<=140737488355328->(O ((p.af.length:Int))->((v0=true->(8:Int)=(rp p))/\(v0=false->(0:Int)=(rp p))))))))))) ?_;refine⟨λ _=>?_,λ _=>⟨?_,λ _ _ _=>⟨λ _=>?_,λ _=>?_⟩⟩⟩;all_goals try and_intros
 all_goals first|with_reducible rfl|with_reducible assumption|exact True.intro|(simp only[b3D,b3C,b3B,b3z] at *;done)|((try simp only[b3Y,J.eta,b3v,b3u,b3B,b3z,b3I,b3Q,ak,O,aY,b3J,b3G,b3T,b3M,b3R] at *);first|exact True.intro|exact⟨(by with_reducible assumption)⟩|exact a9u (by with_reducible assumption)|exact (a9u (by with_reducible assumption)).symm|exact a9v (by with_reducible assumption) (by omega)|exact (a9v (by with_reducible assumption) (by omega)).symm|exact a9t (by with_reducible assumption) (by omega)|exact (a9t (by with_reducible assumption) (by omega)).symm|omega)
end
end Go.Proofs.YtmjfpcajohhbeaaGreatDoor

set_option maxRecDepth 4000
set_option maxHeartbeats 4000000
namespace Go.Proofs.YtmjfpcajohhbeaaGreatDoor
noncomputable section
def pA(tt:List Int)(i:Int):Int:=tt.getD i.toNat 0
def Uk(F:Int->Int)(s:U):Int:=if s.use<0 then -1 - F (-1 - s.use) else s.use
def oQ(F:Int->Int)(s:U):U:=U.mk (Uk F s) s.back s.path s.av s.bd
def Qc(F:Int->Int)(c:ag):Int:=if c.aH=1 then 0 else F c.ref
def WV(F:Int->Int)(c:ag):ag:=ag.mk c.left c.right c.aH (Qc F c) (c.steps.map (oQ F))
def b0Q{F:Int->Int}{s:U}(h:s.use<0):Uk F s = -1 - F (-1 - s.use):=by unfold Uk;rw[if_pos h]
def b0P{F:Int->Int}{s:U}(h:¬ s.use<0):Uk F s=s.use:=by unfold Uk;rw[if_neg h]
def a0t{F:Int->Int}{c:ag}(h:c.aH=1):Qc F c=0:=by unfold Qc;rw[if_pos h]
def a0s{F:Int->Int}{c:ag}(h:¬ c.aH=1):Qc F c=F c.ref:=by unfold Qc;rw[if_neg h]
structure MvP(tt:List Int)(c:ag):Prop where
 r:¬ c.aH=1->0<=c.ref/\c.ref<(tt.length:Int)
 s:∀ i,i<c.steps.length -> -1000<=(c.steps.getD i (U.mk (0:Int) false [] [] [])).use /\ -1 - (c.steps.getD i (U.mk (0:Int) false [] [] [])).use<(tt.length:Int)
 b:∀ i,0<=pA tt i/\pA tt i<=1000
def a1L(F:Int->Int)(xs:List U)(i:Nat)(h:i<xs.length):(xs.take (i+1)).map (oQ F)=(xs.take i).map (oQ F)++[oQ F (xs.getD i (U.mk (0:Int) false [] [] []))]:=by
 rw[cj (U.mk (0:Int) false [] [] []) xs i h,b5n];rfl
def a8R(F:Int->Int)(xs:List U)(i:Nat)(h:xs.length<=i):(xs.take i).map (oQ F)=xs.map (oQ F):=by rw[b3U h]
def rV(a:Int):Nat->List Int
 | 0=>[]
 | n+1=>rV a n++[a+(n:Int)]
def Z4(a:Int)(n:Nat):rV a (n+1)=rV a n++[a+(n:Int)]:=rfl
def b0u(a:Int):rV a 0=[]:=rfl
def Ij(a:Int):∀ n:Nat,(rV a n).length=n
 | 0=>rfl
 | n+1=>by rw[Z4,b3J,Ij a n];rfl
def DM:aL:=⟨GJ,[.v (.int .i64), .v (.int .i64)],λ (a:Int) (n:Int)=>⟨(some (0<=a/\a<=1000/\0<=n/\n<=1000),[⟨(.slice (.int .i64)),rV a n.toNat⟩])⟩⟩
def RW(a:Int)(n:Int):Nat->az:=(cP 0 (.a (Nat) (λ i=>(i:Int)<=n) (λ i=>n.toNat - i) [4,7] (λ i=>[(6, .aF ⟨(.int .i64),((i:Int):Int)⟩),(5, .aw 900)]) [] (λ i=>[(900, .aw (.int .i64) (rV a i:List Int))])) bI)
def Le:aL.cS DM:=by
 refine⟨ar CG,?_⟩;intro (a:Int) (n:Int) (hp:0<=a/\a<=1000/\0<=n/\n<=1000);refine bX [] [] [] [] [7,17,18] [] [] [] trivial trivial trivial trivial CG Mk (RW a n) ((((∃ i1:Nat,((i1:Int)<=n/\((a=a/\(n=n/\(True/\((0:Int)=(i1:Int)/\True))))/\([]=(rV a i1)/\True))))/\(∀ i1:Nat,let v0:=(i1:Int);(v0<=n->(((decide (v0<n))=true->(O (a+v0)/\(aY ((rV a i1).length+([(a+v0)]).length) 8/\(O (v0+(1:Int))/\(∃ i2:Nat,((i2:Int)<=n/\(n.toNat - i2<n.toNat - i1/\((a=a/\(n=n/\(True/\((v0+(1:Int))=(i2:Int)/\True))))/\(((rV a i1)++([(a+v0)]))=(rV a i2)/\True)))))))))/\((decide (v0<n))=false->(rV a i1)=(rV a n.toNat)))))))) ?_;have f1:=b0u a;refine⟨⟨0,?_,⟨rfl,rfl,ae,?_,ae⟩,?_,ae⟩,λ i1 _=>⟨λ _=>⟨?_,?_,?_,i1+1,?_,?_,⟨rfl,rfl,ae,?_,ae⟩,?_,ae⟩,λ _=>?_⟩⟩;all_goals try and_intros
 all_goals first|with_reducible rfl|with_reducible assumption|exact True.intro|(simp only[b3D,b3C,b3B,b3z] at *;done)|((try simp only[b3Y,J.eta,b3v,b3u,b3B,b3z,b3I,b3Q,ak,O,aY,b3J,b3G,b3T,b3M,b3R] at *);first|exact True.intro|omega|exact f1.symm|exact (Z4 a i1).symm|(rw[Z4];done)|(have:=Ij a i1;omega)|(rw[show n.toNat=i1 by omega];done)|omega)
def Bd:aL:=⟨Ec,[.r (.st .claim), .v (.slice (.int .i64))],λ (c:ag) (tt:List Int)=>⟨(some (bz c<=1048576/\MvP tt c),[⟨(.st .claim),WV (pA tt) c⟩])⟩⟩
def P8(c:ag)(tt:List Int):Nat->az:=(cP 100004 (.u (True) [8,9,10,11,12,13,14,15,16,17,18,19,20] [] [4] [(5, .box [.aF ⟨(.int .i64),(c.left.aq:Int)⟩, .aF ⟨(.int .i64),(c.left.aN:Int)⟩, .aw 900, .aF ⟨(.int .i64),(c.right.aq:Int)⟩, .aF ⟨(.int .i64),(c.right.aN:Int)⟩, .aw 1200, .aF ⟨(.int .i64),(c.aH:Int)⟩, .aF ⟨(.int .i64),((Qc (pA tt) c):Int)⟩, .nil]),(900, .aw (.st .expr) (c.left.M:List J)),(1200, .aw (.st .expr) (c.right.M:List J))] (cP 0 (.mk (Nat) (λ i=>i<=c.steps.length) (λ i=>c.steps.length - i) [] [] (λ i=>[(6, .aF ⟨(.int .i64),((i:Int):Int)⟩)]) [4] (λ i=>[(5, .box [.aF ⟨(.int .i64),(c.left.aq:Int)⟩, .aF ⟨(.int .i64),(c.left.aN:Int)⟩, .aw 900, .aF ⟨(.int .i64),(c.right.aq:Int)⟩, .aF ⟨(.int .i64),(c.right.aN:Int)⟩, .aw 1200, .aF ⟨(.int .i64),(c.aH:Int)⟩, .aF ⟨(.int .i64),((Qc (pA tt) c):Int)⟩, .aw 3000]),(900, .aw (.st .expr) (c.left.M:List J)),(1200, .aw (.st .expr) (c.right.M:List J)),(3000, .aw (.st .proofStep) ((c.steps.take i).map (oQ (pA tt)):List U))]) [] [] (λ i=>(cP 100010 (.u (i<c.steps.length) [34,35,36,37,38,39,40,43,44,45,46,47,48,49] [] [4,5,900,1200,3000] [(7, .box [.aF ⟨(.int .i64),((Uk (pA tt) (c.steps.getD i (U.mk (0:Int) false [] [] []))):Int)⟩, .aF ⟨.bool,((c.steps.getD i (U.mk (0:Int) false [] [] [])).back:Bool)⟩, .aw 5000, .aw 5100, .aw 5200]),(5000, .aw (.int .i64) ((c.steps.getD i (U.mk (0:Int) false [] [] [])).path:List Int)),(5100, .aw (.st .expr) ((c.steps.getD i (U.mk (0:Int) false [] [] [])).av:List J)),(5200, .aw (.st .expr) ((c.steps.getD i (U.mk (0:Int) false [] [] [])).bd:List J))] bI) bI))) bI)) bI)
abbrev je :Prop:=(let v0:=(0:Int);((v0=v0/\(v0=v0/\(True/\(v0=v0/\(v0=v0/\(True/\(v0=v0/\(v0=v0/\(True/\True)))))))))/\True))
abbrev nG(c:ag)(tt:List Int):Prop:=(c.left.aq=c.left.aq/\(c.left.aN=c.left.aN/\(True/\(c.right.aq=c.right.aq/\(c.right.aN=c.right.aN/\(True/\(c.aH=c.aH/\((Qc (pA tt) c)=(Qc (pA tt) c)/\(True/\True)))))))))
abbrev wq(c:ag)(i2:Nat):Prop:=(let v0:=c.steps.getD i2 (U.mk (0:Int) false [] [] []);(v0.back=(v0.back)/\(True/\(True/\(True/\True)))))
abbrev wu(c:ag)(tt:List Int)(i2:Nat):Prop:=(let v0:=c.steps.getD i2 (U.mk (0:Int) false [] [] []);let v1:=(c.steps.take i2).map (oQ (pA tt));(v0.path=(v0.path)/\(v0.av=(v0.av)/\(v0.bd=(v0.bd)/\((nG c tt)/\(c.left.M=c.left.M/\(c.right.M=c.right.M/\(v1=v1/\je))))))))
def Jv:aL.cS Bd:=by
 refine⟨ar Aw,?_⟩;intro (c:ag) (tt:List Int) (hp:bz c<=1048576/\MvP tt c);refine bX [] [eA,nI] [] [] [11,15,49,64,65] [] [] [] trivial ⟨fD,qC,ae⟩ trivial trivial Aw Ky (P8 c tt) (let v1:=c.left.M=c.left.M/\(c.right.M=c.right.M/\je);let v2:=True/\True;let v3:=pA tt;let v4:=(0:Int);let v0:=U.mk v4 false [] [] [];let v5:=(c.steps.length:Int);let v6:=(-1:Int);let v7:=c=c/\(tt=tt/\(True/\v2));let v8 := !(decide (c.aH=(1:Int)));((O c.aH->(c=c/\(c=c/\(c.left=c.left/\(c=c/\(c=c/\(c.right=c.right/\(c=c/\(c=c/\(c.aH=c.aH/\(c.aH=c.aH/\(aB c.left<=1048576/\(c=c/\(c=c/\(c.right=c.right/\(c=c/\(c=c/\(c.aH=c.aH/\(c.aH=c.aH/\(aB c.right<=1048576/\(c=c/\(c=c/\(c.aH=c.aH/\(c.aH=c.aH/\((O c.aH->((v8=true->(O c.ref->(ak c.ref tt.length/\(O (tt.getD (Int.toNat c.ref) v4)->(∃ u1:Unit,(True/\(v7/\((c.left.aq=c.left.aq/\(c.left.aN=c.left.aN/\(True/\(c.right.aq=c.right.aq/\(c.right.aN=c.right.aN/\(True/\(c.aH=c.aH/\((tt.getD (Int.toNat c.ref) v4)=(Qc v3 c)/\v2))))))))/\v1))))))))/\(v8=false->(∃ u1:Unit,(True/\(v7/\((c.left.aq=c.left.aq/\(c.left.aN=c.left.aN/\(True/\(c.right.aq=c.right.aq/\(c.right.aN=c.right.aN/\(True/\(c.aH=c.aH/\(v4=(Qc v3 c)/\v2))))))))/\v1)))))))/\(∀ u1:Unit,(True->((∃ i2:Nat,(i2<=c.steps.length/\((c=c/\(tt=tt/\(True/\(True/\(v4=(i2:Int)/\True)))))/\((nG c tt)/\(c.left.M=c.left.M/\(c.right.M=c.right.M/\(((c.steps.take i2).map (oQ v3))=[]/\je)))))))/\(∀ i2:Nat,let v9:=c.steps.getD i2 v0;let vb:=tt.getD (Int.toNat (v6 - v9.use)) v4;let vc:=[(U.mk (Uk v3 v9) (v9.back) (v9.path) (v9.av) (v9.bd))];let vd:=(c.steps.take i2).map (oQ v3);let ve:=(i2:Int);let va:=c=c/\(tt=tt/\(True/\(True/\(ve=ve/\v2))));(i2<=c.steps.length->(c.steps.length<=140737488355328->(O v5->(((decide (ve<v5))=true->(c.steps.length<=140737488355328->(ak ve c.steps.length/\(aX v9<=1048576/\((O v9.use->(((decide (v9.use<v4))=true->(O v9.use->(O (v6 - v9.use)/\(ak (v6 - v9.use) tt.length/\(O vb->(O (v6 - vb)/\(∃ u3:Unit,(i2<c.steps.length/\(va/\(((v6 - vb)=(Uk v3 v9)/\(wq c i2))/\(wu c tt i2)))))))))))/\((decide (v9.use<v4))=false->(∃ u3:Unit,(i2<c.steps.length/\(va/\((v9.use=(Uk v3 v9)/\(wq c i2))/\(wu c tt i2))))))))/\(∀ u3:Unit,(i2<c.steps.length->(aY (vd.length+vc.length) 88/\(O (ve+(1:Int))/\(∃ i4:Nat,(i4<=c.steps.length/\(c.steps.length - i4<c.steps.length - i2/\((c=c/\(tt=tt/\(True/\(True/\((ve+(1:Int))=(i4:Int)/\True)))))/\((nG c tt)/\(c.left.M=c.left.M/\(c.right.M=c.right.M/\((vd++vc)=((c.steps.take i4).map (oQ v3))/\je)))))))))))))))))/\((decide (ve<v5))=false->(ag.mk (J.mk c.left.aq c.left.aN c.left.M) (J.mk c.right.aq c.right.aN c.right.M) c.aH (Qc v3 c) vd)=(WV v3 c))))))))))))))))))))))))))))))))))))) ?_;obtain⟨g0,g1⟩:=hp;rw[gB] at g0;have f1:=λ i (h:i<c.steps.length)=>dK aX (U.mk (0:Int) false [] [] []) c.steps i h;refine λ _=>⟨rfl,rfl,rfl,rfl,rfl,rfl,rfl,rfl,rfl,rfl,?_,rfl,rfl,rfl,rfl,rfl,rfl,rfl,?_,rfl,rfl,rfl,rfl,λ _=>⟨λ _ _=>⟨?_,λ _=>⟨(),?_,⟨rfl,rfl,ae,ae,ae⟩,⟨rfl,rfl,ae,rfl,rfl,ae,rfl,?_,ae,ae⟩,rfl,rfl,⟨rfl,rfl,ae,rfl,rfl,ae,rfl,rfl,ae,ae⟩,ae⟩⟩,λ _=>⟨(),?_,⟨rfl,rfl,ae,ae,ae⟩,⟨rfl,rfl,ae,rfl,rfl,ae,rfl,?_,ae,ae⟩,rfl,rfl,⟨rfl,rfl,ae,rfl,rfl,ae,rfl,rfl,ae,ae⟩,ae⟩⟩,λ u1 _=>⟨⟨0,?_,⟨rfl,rfl,ae,ae,?_,ae⟩,⟨rfl,rfl,ae,rfl,rfl,ae,rfl,rfl,ae,ae⟩,rfl,rfl,?_,⟨rfl,rfl,ae,rfl,rfl,ae,rfl,rfl,ae,ae⟩,ae⟩,λ i2 _ _ _=>⟨λ _ _=>⟨?_,?_,λ _=>⟨λ _ _=>⟨?_,?_,λ _=>⟨?_,(),?_,⟨rfl,rfl,ae,ae,rfl,ae,ae⟩,⟨?_,?_,ae,ae,ae,ae⟩,?_,?_,?_,⟨rfl,rfl,ae,rfl,rfl,ae,rfl,rfl,ae,ae⟩,rfl,rfl,rfl,⟨rfl,rfl,ae,rfl,rfl,ae,rfl,rfl,ae,ae⟩,ae⟩⟩,λ _=>⟨(),?_,⟨rfl,rfl,ae,ae,rfl,ae,ae⟩,⟨?_,?_,ae,ae,ae,ae⟩,?_,?_,?_,⟨rfl,rfl,ae,rfl,rfl,ae,rfl,rfl,ae,ae⟩,rfl,rfl,rfl,⟨rfl,rfl,ae,rfl,rfl,ae,rfl,rfl,ae,ae⟩,ae⟩⟩,λ u3 _=>⟨?_,?_,i2+1,?_,?_,⟨rfl,rfl,ae,ae,?_,ae⟩,⟨rfl,rfl,ae,rfl,rfl,ae,rfl,rfl,ae,ae⟩,rfl,rfl,?_,⟨rfl,rfl,ae,rfl,rfl,ae,rfl,rfl,ae,ae⟩,ae⟩⟩,λ _=>?_⟩⟩⟩;all_goals try and_intros
 all_goals first|with_reducible rfl|with_reducible assumption|exact True.intro|(simp only[Bool.true_eq_false,Bool.false_eq_true,Bool.not_true,Bool.not_false] at *;done)|((try simp only[List.nil_append,J.eta,decide_eq_true_eq,decide_eq_false_iff_not,Bool.not_true,Bool.not_false,Bool.not_eq_true',Bool.not_eq_false',ak,O,aY,List.length_append,List.length_cons,List.length_nil,List.length_map,List.length_take] at *);first|exact True.intro|omega|exact (g1.r (by with_reducible assumption)).1|exact (g1.r (by with_reducible assumption)).2|exact (a0s (F:=pA tt) (c:=c) (by with_reducible assumption)).symm|exact (a0t (by with_reducible assumption)).symm|(rw[List.take_zero];rfl)|(have:=f1 i2 (by omega);omega)|(have:=g1.s i2 (by omega);omega)|(have h:=g1.b (-1 - (c.steps.getD i2 (U.mk (0:Int) false [] [] [])).use);unfold pA at h;omega)|exact (b0Q (F:=pA tt) (s:=c.steps.getD i2 (U.mk (0:Int) false [] [] [])) (by with_reducible assumption)).symm|exact (b0P (by with_reducible assumption)).symm|exact (a1L (pA tt) c.steps i2 (by with_reducible assumption)).symm|(rw[a1L (pA tt) c.steps i2 (by with_reducible assumption)];done)|(rw[a8R _ _ _ (by omega)];rfl)|omega)
end
end Go.Proofs.YtmjfpcajohhbeaaGreatDoor

/- VmPf2, VmPf3, VmPf4, VmPf5, VmPf6, VmPf7, VmLnx, VmPf8, VmPf9, VmPf10, VmPf11, VmPf12, VmPf13, VmPf14, VmPf15, VmPf16, VmPf17, VmPf18, VmPf19, VmPf21, VmPf22. -/
import Derived.Test.YtmjfpcajohhbeaaGreatDoorVmAxi
import Derived.WalkKit
import Derived.Deep.QuietTactic
import Derived.BigQuiet
import Derived.LoopTactic
import Derived.Deep.RegionWith
import Derived.Lib.Walk
import Derived.Lib.SliceRun
import Derived.Deep.LoopGhost
set_option linter.all false
set_option maxHeartbeats 4000000
set_option maxRecDepth 4000
namespace Go.Proofs.YtmjfpcajohhbeaaGreatDoor
def b7H:=@List.getElem?_take_of_lt
def b5W:=@Array.getElem?_push
def b6I:=@Array.size_push
def b8p:=@Go.heap_setCell_same
def b8h:=@Go.heap_setCell_other
def b7R:=@Go.Lib.run_eql_slice_nil
def b8i:=@Go.World.ownsRow_made
def b8K:=@Go.Lib.cell?_alloc_some
def b8x:=@Int.lt_trans
noncomputable section
def lM(gg:aW)(s:U):Bool:=decide (-40<=s.use/\s.use<=23)&&decide ((s.path.length:Int)<=40)&&bu (wE 2) s.path&&decide ((s.aw.length:Int)<=3)&&decide ((s.bd.length:Int)<=4)&&bu (cE gg) s.aw&&bu bq s.aw&&bu (cE gg) s.bd
def lQ(gg:aW)(c:ag):Bool:=cE gg c.left&&cE gg c.right&&decide (1<=c.aM/\c.aM<=3)&&decide (0<=c.ref/\c.ref<=39)&&decide (c.steps.length<=60) && !(decide (c.aM=1) && !decide (c.ref=0) || !decide (c.aM=1)&&decide (0<c.steps.length))&&bu (lM gg) c.steps
def dQ(p:ai):Bool:=bP p.sig&&decide (p.af.length<=40)&&bu (lQ p.sig) p.af
abbrev gv:ag:=ag.mk zE zE (0:Int) (0:Int) []
def bQ(p:ai)(i:Int):ag:=p.af.getD i.toNat (ag.mk zE zE (0:Int) (0:Int) [])
def ph(k u:Int):Bool:=decide (0<=u)||decide (-1 - u<k)
def dA(p:ai)(k u:Int):au:=if 0<=u then Hc.getD u.toNat (au.mk zE zE) else if -1 - u<k then au.mk (bQ p (-1 - u)).left (bQ p (-1 - u)).right else au.mk zE zE
def apX(q:au)(s:U):J:=dx s.aw s.bd (bif s.back then q.right else q.left)
def VI(q:au)(s:U):J:=dx s.aw s.bd (bif s.back then q.left else q.right)
def apF(q:au)(s:U):Bool:=decide ((cu [q.left,q.right]).1=(s.aw.length:Int))&&decide ((cu [q.left,q.right]).2=(s.bd.length:Int))
def VH(gg:aW)(q:au)(s:U):Bool:=cE gg (dx s.aw s.bd q.left)&&cE gg (dx s.aw s.bd q.right)
def iT(p:ai)(k:Int)(e:J)(s:U):Int :=
 bif !(ph k s.use&&eC e s.path) then 2 else bif !apF (dA p k s.use) s then 2 else bif !VH p.sig (dA p k s.use) s then 3 else
 bif !bH (dM e s.path) (apX (dA p k s.use) s) then 6 else pQ p.sig e s.path (VI (dA p k s.use) s)
def kI(p:ai)(k:Int)(e:J)(s:U):J:=if iT p k e s=0 then fV (VI (dA p k s.use) s) e s.path else J.mk (0:Int) (0:Int) []
def pR(q:au):Bool:=decide (q.left.aq=6)&&decide ((q.left.M.getD 0 zE).aq=6)&&bH (q.left.M.getD 1 zE) q.right
def Va(q:au):J:=bif pR q then (q.left.M.getD 0 zE).M.getD 0 zE else J.mk (0:Int) (0:Int) []
def Av(q:au):J:=bif pR q then (q.left.M.getD 0 zE).M.getD 1 zE else J.mk (0:Int) (0:Int) []
def Oy(q:au):J:=bif pR q then q.right else J.mk (0:Int) (0:Int) []
def inW(r:Int)(q x:J):J:=if r=2 then J.mk 7 0 [J.mk 8 0 [x.M.getD 0 zE],q] else J.mk 7 0 [q,J.mk 8 0 [x.M.getD 1 zE]]
def a5l(r:Int)(x:J):J:=if r=2 then x.M.getD 1 zE else x.M.getD 0 zE
def vJ(c f:ag):Bool:=pR (au.mk f.left f.right)&&decide ((Av (au.mk f.left f.right)).aq=7)&&bH (a5l c.aM (Av (au.mk f.left f.right))) f.right &&
 bH c.left (J.mk 6 0 [inW c.aM (Va (au.mk f.left f.right)) (Av (au.mk f.left f.right)),f.right])&&bH c.right f.right
def lL(p:ai)(k:Int):Nat->J
 | 0=>(bQ p k).left
 | i+1=>kI p k (lL p k i) ((bQ p k).steps.getD i (U.mk 0 false [] [] []))
def YW(p:ai)(k:Int):Nat->Bool
 | 0=>true
 | i+1=>YW p k i&&decide (iT p k (lL p k i) ((bQ p k).steps.getD i (U.mk 0 false [] [] []))=0)
def ik(p:ai)(k:Int):Bool:=if (bQ p k).aM=1 then YW p k (bQ p k).steps.length&&bH (lL p k (bQ p k).steps.length) (bQ p k).right else decide ((bQ p k).ref<k)&&vJ (bQ p k) (bQ p (bQ p k).ref)
def Ug(f:Nat->Bool):Nat->Nat
 | 0=>0
 | n+1=>if Ug f n<n then Ug f n else if f n then n+1 else n
def a0v(f:Nat->Bool):∀ n,Ug f n<=n
 | 0=>b5w _
 | n+1=>by
  have:=a0v f n;rw[Ug];split
  .omega
  .split<;>omega
def Wn(f:Nat->Bool):∀ n,Y7 f n=true->Ug f n=n
 | 0,_=>rfl
 | n+1,h=>by
  rw[Y7,b4S] at h;rw[Ug,Wn f n h.1,b4Z (by omega),b5u h.2]
def a5d(f:Nat->Bool)(k:Nat)(h:Y7 f k=true)(hk:f k=false):∀ n,k<n->Ug f n=k
 | 0,hn=>by omega
 | n+1,hn=>by
  rw[Ug];rcases b5Q k n with g|g
  .rw[a5d f k h hk n g,b5u g]
  .have:k=n:=by omega
   subst this;rw[Wn f k h,b4Z (by omega),b4Z (by rw[hk];decide)]
def Am(p:ai):Nat:=Ug (λ k=>ik p (k:Int)) p.af.length
def B1(gg:aW)(c:ag):Bool:=cE gg c.left&&cE gg c.right&&decide (1<=c.aM/\c.aM<=3)&&decide (0<=c.ref/\c.ref<=39)&&decide (c.steps.length<=60) && !(decide (c.aM=1) && !decide (c.ref=0) || !decide (c.aM=1)&&decide (0<c.steps.length))
def E2(gg:aW)(c:ag):lQ gg c=(B1 gg c&&bu (lM gg) c.steps):=rfl
def clG(gg:aW)(c:ag):Bool:=bu (cE gg) [c.left,c.right]&&(decide (1<=c.aM/\c.aM<=3)&&(decide (0<=c.ref/\c.ref<=39)&&(!decide (60<(c.steps.length:Int))&&(!(decide (c.aM=1) && !decide (c.ref=0)) && !(!decide (c.aM=1)&&decide (0<(c.steps.length:Int)))))))
def a4T(gg:aW)(c:ag):B1 gg c=clG gg c:=by
 unfold B1 clG;rw[show decide (c.steps.length<=60) = !decide (60<(c.steps.length:Int)) by
  by_cases h:c.steps.length<=60
  .rw[b5B h,b5c (by omega)];rfl
  .rw[b5c h,b5B (by omega)];rfl,
  show decide (0<c.steps.length)=decide (0<(c.steps.length:Int)) by
  by_cases h:0<c.steps.length
  .rw[b5B h,b5B (by omega)]
  .rw[b5c h,b5c (by omega)]]
 simp only[bu,b6B,Bool.not_or,b8b]
structure uA(p:ai)(k:Nat):Prop where
 sg:bP p.sig=true
 ln:p.af.length<=40
 le:k<=p.af.length
 al:bu (lQ p.sig) (p.af.take k)=true
structure EF(gg:aW)(c:ag):Prop where
 l:cE gg c.left=true
 r:cE gg c.right=true
 u:1<=c.aM/\c.aM<=3
 f:0<=c.ref/\c.ref<=39
def MT{gg:aW}{c:ag}(h:B1 gg c=false):lQ gg c=false:=by rw[E2,h];rfl
def a7p{gg:aW}{c:ag}(h:cE gg c.left=false):lQ gg c=false:=MT (by unfold B1;rw[h];rfl)
def a7q{gg:aW}{c:ag}(h:cE gg c.right=false):lQ gg c=false:=MT (by unfold B1;rw[h];simp)
def a3s{gg:aW}{c:ag}(h:¬ (1<=c.aM/\c.aM<=3)):lQ gg c=false:=MT (by unfold B1;rw[decide_eq_false h];simp)
def a3t{gg:aW}{c:ag}(h:¬ (0<=c.ref/\c.ref<=39)):lQ gg c=false:=MT (by unfold B1;rw[decide_eq_false h];simp)
def EF.h{gg:aW}{c:ag}(h:EF gg c):B1 gg c=(decide (c.steps.length<=60) && !(decide (c.aM=1) && !decide (c.ref=0) || !decide (c.aM=1)&&decide (0<c.steps.length))):=by
 unfold B1;rw[h.l,h.r,decide_eq_true h.u,decide_eq_true h.f];rfl
def EF.n1{gg:aW}{c:ag}(h:EF gg c)(h1:c.aM=1)(h2:¬ c.ref=0):lQ gg c=false:=MT (by rw[h.h,b5B h1,b5c h2];simp)
def EF.n2{gg:aW}{c:ag}(h:EF gg c)(h1:¬ c.aM=1)(h2:0<c.steps.length):lQ gg c=false:=MT (by rw[h.h,b5c h1,b5B h2];simp)
def EF.n3{gg:aW}{c:ag}(h:EF gg c)(h1:¬ c.steps.length<=60):lQ gg c=false:=MT (by rw[h.h,b5c h1];rfl)
def EF.y1{gg:aW}{c:ag}(h:EF gg c)(h1:c.aM=1)(h2:c.ref=0)(h3:c.steps.length<=60):B1 gg c=true:=by rw[h.h,b5B h1,b5B h2,b5B h3];rfl
def EF.y2{gg:aW}{c:ag}(h:EF gg c)(h1:¬ c.aM=1)(h2:¬ 0<c.steps.length):B1 gg c=true:=by rw[h.h,b5c h1,b5c h2,b5B (show c.steps.length<=60 by omega)];rfl
structure Mr(p:ai)(k:Nat):Prop where
 pp:uA p k
 lt:k<p.af.length
 a:EF p.sig (p.af.getD k gv)
 n:(p.af.getD k gv).steps.length<=60
structure VA(p:ai)(k:Nat):Prop where
 pp:uA p k
 lt:k<p.af.length
 hd:B1 p.sig (p.af.getD k gv)=true
structure Rv(p:ai)(k j:Nat):Prop where
 h:VA p k
 le:j<=(p.af.getD k gv).steps.length
 al:bu (lM p.sig) ((p.af.getD k gv).steps.take j)=true
def uA.zero{p:ai}(h:bP p.sig=true)(h2:¬ 40<(p.af.length:Int)):uA p 0:=⟨h,by omega,b5Y _,by simp[bu]⟩
def uA.end{p:ai}{k:Nat}(h:uA p k)(hk:p.af.length<=k):dQ p=true:=by
 have:=h.al;rw[List.take_of_length_le hk] at this;unfold dQ;rw[h.sg,this,decide_eq_true h.ln];rfl
def uA.bad{p:ai}{k:Nat}(h:uA p k)(hk:k<p.af.length)(hb:lQ p.sig (p.af.getD k gv)=false):dQ p=false:=by
 unfold dQ;rw[dK (lQ p.sig) gv p.af k hk hb,Bool.and_false]
def uA.a{p:ai}{k:Nat}(h:uA p k)(hk:k<p.af.length)(h1:bu (cE p.sig) [(p.af.getD k gv).left,(p.af.getD k gv).right]=true)(hu:1<=(p.af.getD k gv).aM/\(p.af.getD k gv).aM<=3)(hf:0<=(p.af.getD k gv).ref/\(p.af.getD k gv).ref<=39)(hn:(p.af.getD k gv).steps.length<=60):Mr p k:=by
 simp only[bu,b4S,b5d] at h1;exact⟨h,hk,⟨h1.1,h1.2,hu,hf⟩,hn⟩
def uA.b{p:ai}{k:Nat}(h:uA p k)(hk:k<p.af.length)(hb:lQ p.sig (p.af.getD k gv)=false):dQ p=false:=h.bad hk hb
def uA.b1{p:ai}{k:Nat}(h:uA p k)(hk:k<p.af.length)(h1:bu (cE p.sig) [(p.af.getD k gv).left,(p.af.getD k gv).right]=false):dQ p=false:=by
 refine h.b hk ?_;rw[E2,a4T];unfold clG;rw[h1];rfl
def Mr.n1{p:ai}{k:Nat}(h:Mr p k)(h1:(p.af.getD k gv).aM=1)(h2:¬ (p.af.getD k gv).ref=0):dQ p=false:=h.pp.b h.lt (h.a.n1 h1 h2)
def Mr.n2{p:ai}{k:Nat}(h:Mr p k)(h1:¬ (p.af.getD k gv).aM=1)(h2:0<(p.af.getD k gv).steps.length):dQ p=false:=h.pp.b h.lt (h.a.n2 h1 h2)
def Mr.y1{p:ai}{k:Nat}(h:Mr p k)(h1:(p.af.getD k gv).aM=1)(h2:(p.af.getD k gv).ref=0):VA p k:=⟨h.pp,h.lt,h.a.y1 h1 h2 h.n⟩
def Mr.y2{p:ai}{k:Nat}(h:Mr p k)(h1:¬ (p.af.getD k gv).aM=1)(h2:¬ 0<(p.af.getD k gv).steps.length):VA p k:=⟨h.pp,h.lt,h.a.y2 h1 h2⟩
def uA.b3O{p:ai}{k:Nat}(h:uA p k)(hk:k<p.af.length)(hb:B1 p.sig (p.af.getD k gv)=false):dQ p=false:=h.bad hk (by rw[E2,hb];rfl)
def VA.zero{p:ai}{k:Nat}(h:VA p k):Rv p k 0:=⟨h,b5Y _,by simp[bu]⟩
def Rv.bad{p:ai}{k j:Nat}(h:Rv p k j)(hj:j<(p.af.getD k gv).steps.length)(hb:lM p.sig ((p.af.getD k gv).steps.getD j (U.mk (0:Int) false [] [] []))=false):dQ p=false :=
 h.h.pp.bad h.h.lt (by rw[E2,dK (lM p.sig) _ _ j hj hb,b6n])
def Rv.next{p:ai}{k j:Nat}(h:Rv p k j)(hj:j<(p.af.getD k gv).steps.length)(hb:lM p.sig ((p.af.getD k gv).steps.getD j (U.mk (0:Int) false [] [] []))=true):Rv p k (j+1) :=
 ⟨h.h,hj,by rw[dj (lM p.sig) (U.mk (0:Int) false [] [] []) _ j hj,h.al,hb];rfl⟩
def Rv.done{p:ai}{k j:Nat}(h:Rv p k j)(hj:(p.af.getD k gv).steps.length<=j):uA p (k+1):=by
 have h1:=h.al;rw[b5o hj] at h1;exact⟨h.h.pp.sg,h.h.pp.ln,h.h.lt,by rw[dj (lQ p.sig) gv _ k h.h.lt,h.h.pp.al,E2,h.h.hd,h1];rfl⟩
def a5v{p:ai}(h:bP p.sig=false):dQ p=false:=by unfold dQ;rw[h];rfl
def a5w{p:ai}(h:40<(p.af.length:Int)):dQ p=false:=by unfold dQ;rw[decide_eq_false (show ¬ p.af.length<=40 by omega)];simp
def rD:aN:=⟨rJ,[.v (.slice (.st .expr))],λ (xs:List J)=>⟨(none,[⟨.bool,bu bq xs⟩])⟩⟩
def Hz(xs:List J):Nat->aA:=(cQ 0 (.b (Nat) (λ k=>k<=xs.length/\bu bq (xs.take k)=true) (λ k=>xs.length - k) [0] (λ k=>[(7, .aH ⟨(.int .i64),((k:Int):Int)⟩)])) bJ)
def Cf:aN.Good rD:=by
 refine⟨ar pX,?_⟩;intro (xs:List J) _;refine aX [fg] [] [] [] ⟨gB,ae⟩ pX BW (Hz xs) (let v0:=(xs.length:Int);((O v0->((∃ k1:Nat,((k1<=xs.length/\bu bq (xs.take k1)=true)/\((xs=xs/\(v0=v0/\((0:Int)=(k1:Int)/\True)))/\True)))/\(∀ k1:Nat,let v1 := !(bq (aI (xs.getD k1 zE)));((k1<=xs.length/\bu bq (xs.take k1)=true)->(((decide ((k1:Int)<v0))=true->(ak (k1:Int) xs.length/\((v1=true->false=(bu bq xs))/\(v1=false->(O ((k1:Int)+(1:Int))/\(∃ k2:Nat,((k2<=xs.length/\bu bq (xs.take k2)=true)/\(xs.length - k2<xs.length - k1/\((xs=xs/\(v0=v0/\(((k1:Int)+(1:Int))=(k2:Int)/\True)))/\True)))))))))/\((decide ((k1:Int)<v0))=false->true=(bu bq xs))))))))) ?_;have f1:=all_zero bq xs;refine λ _=>⟨⟨0,?_,⟨rfl,rfl,?_,ae⟩,ae⟩,λ k1 _=>have H3:=dj bq zE xs k1;have H4:=dK bq zE xs k1;have H5:=dW bq xs k1;⟨λ _=>⟨?_,λ _=>?_,λ _=>⟨?_,k1+1,?_,?_,⟨rfl,rfl,?_,ae⟩,ae⟩⟩,λ _=>?_⟩⟩;all_goals try and_intros
 all_goals try (first|with_reducible rfl|with_reducible assumption)
 all_goals try simp only[J.eta,ag.eta,au.eta,aK,br,bL] at *
 all_goals first|rfl|trivial|(simp only[b4N,b4M,ak,O] at *;omega)|(simp_all;done)|(simp_all [ak,O];omega)
def I0:aN:=⟨Jo,[.v (.st .sig), .v (.st .proofStep)],λ (gg:aW) (s:U)=>⟨(some (bP gg=true),[⟨.bool,lM gg s⟩])⟩⟩
def W1(gg:aW)(s:U):Nat->aA:=bJ
abbrev sx(gg:aW)(s:U):Prop:=(s.aw.length<=140737488355328 ->
 (((bu bq s.aw)=true ->
 (s.bd.length<=140737488355328 ->
 (bu (cE gg) s.bd&&bP gg)=(lM gg s)))/\((bu bq s.aw)=(!true) ->
 false=(lM gg s))))
abbrev sy(gg:aW)(s:U):Prop:=((false=true ->
 (s.bd.length<=140737488355328 ->
 (bu (cE gg) s.bd&&bP gg)=(lM gg s)))/\(false=(!true) ->
 false=(lM gg s)))
abbrev DF(gg:aW)(s:U):Prop:=(let v0:=bu (cE gg) s.aw&&bP gg;(s.aw.length<=140737488355328 ->
 ((v0=true ->
 (sx gg s))/\(v0=(!true) ->
 (sy gg s)))))
abbrev sA(gg:aW)(s:U):Prop:=(let v0:=decide (((s.bd.length:Int))<=(4:Int));(s.bd.length<=140737488355328 ->
 (O ((s.bd.length:Int)) ->
 ((v0=true ->
 (DF gg s))/\(v0=(!true) ->
 ((false=true ->
 (sx gg s))/\(false=(!true) ->
 (sy gg s))))))))
abbrev sB(gg:aW)(s:U):Prop:=((false=true ->
 (DF gg s))/\(false=(!true) ->
 ((false=true ->
 (sx gg s))/\(false=(!true) ->
 (sy gg s)))))
abbrev DG(gg:aW)(s:U):Prop:=(let v0:=decide (((s.aw.length:Int))<=(3:Int));(s.aw.length<=140737488355328 ->
 (O ((s.aw.length:Int)) ->
 ((v0=true ->
 (sA gg s))/\(v0=(!true) ->
 (sB gg s))))))
abbrev DH(gg:aW)(s:U):Prop:=(s.path.length<=140737488355328 ->
 ((0<=(2:Int)/\(2:Int)<=4096)/\(((bu (wE (2:Int)) s.path)=true ->
 (DG gg s))/\((bu (wE (2:Int)) s.path)=(!true) ->
 ((false=true ->
 (sA gg s))/\(false=(!true) ->
 (sB gg s)))))))
abbrev DI(gg:aW)(s:U):Prop:=((false=true ->
 (DG gg s))/\(false=(!true) ->
 ((false=true ->
 (sA gg s))/\(false=(!true) ->
 (sB gg s)))))
def PR:aN.Good I0:=by
 refine⟨ar FZ,?_⟩;intro (gg:aW) (s:U) (hp:bP gg=true);refine aX [fO,Gi,oX,rD] [] [] [2,3] ⟨fY,M6,rA,Cf,ae⟩ FZ O9 (W1 gg s) (let v0:=decide ((-40:Int)<=s.use/\s.use<=(23:Int));let v1:=decide (((s.path.length:Int))<=(40:Int));((O s.use->(((v0=true)->(s.path.length<=140737488355328->(O ((s.path.length:Int))->((v1=true->(DH gg s))/\(v1=(!true)->(DI gg s))))))/\((v0=(!true))->((false=true->(DH gg s))/\(false=(!true)->(DI gg s)))))))) ?_;refine λ _=>⟨λ _ _ _=>⟨λ _ _=>⟨?_,λ _ _ _=>⟨λ _ _ _=>⟨λ _ _=>⟨λ _ _=>⟨λ _ _=>?_,λ _=>?_⟩,λ _=>⟨λ _ _=>?_,λ _=>?_⟩⟩,λ _=>⟨λ _ _=>⟨λ _ _=>?_,λ _=>?_⟩,λ _=>⟨λ _ _=>?_,λ _=>?_⟩⟩⟩,λ _=>⟨λ _ _=>⟨λ _ _=>⟨λ _ _=>?_,λ _=>?_⟩,λ _=>⟨λ _ _=>?_,λ _=>?_⟩⟩,λ _=>⟨λ _ _=>⟨λ _ _=>?_,λ _=>?_⟩,λ _=>⟨λ _ _=>?_,λ _=>?_⟩⟩⟩⟩,λ _=>⟨λ _ _ _=>⟨λ _ _=>⟨λ _ _=>⟨λ _ _=>?_,λ _=>?_⟩,λ _=>⟨λ _ _=>?_,λ _=>?_⟩⟩,λ _=>⟨λ _ _=>⟨λ _ _=>?_,λ _=>?_⟩,λ _=>⟨λ _ _=>?_,λ _=>?_⟩⟩⟩,λ _=>⟨λ _ _=>⟨λ _ _=>⟨λ _ _=>?_,λ _=>?_⟩,λ _=>⟨λ _ _=>?_,λ _=>?_⟩⟩,λ _=>⟨λ _ _=>⟨λ _ _=>?_,λ _=>?_⟩,λ _=>⟨λ _ _=>?_,λ _=>?_⟩⟩⟩⟩⟩,λ _=>⟨λ _ _ _=>⟨λ _ _ _=>⟨λ _ _=>⟨λ _ _=>⟨λ _ _=>?_,λ _=>?_⟩,λ _=>⟨λ _ _=>?_,λ _=>?_⟩⟩,λ _=>⟨λ _ _=>⟨λ _ _=>?_,λ _=>?_⟩,λ _=>⟨λ _ _=>?_,λ _=>?_⟩⟩⟩,λ _=>⟨λ _ _=>⟨λ _ _=>⟨λ _ _=>?_,λ _=>?_⟩,λ _=>⟨λ _ _=>?_,λ _=>?_⟩⟩,λ _=>⟨λ _ _=>⟨λ _ _=>?_,λ _=>?_⟩,λ _=>⟨λ _ _=>?_,λ _=>?_⟩⟩⟩⟩,λ _=>⟨λ _ _ _=>⟨λ _ _=>⟨λ _ _=>⟨λ _ _=>?_,λ _=>?_⟩,λ _=>⟨λ _ _=>?_,λ _=>?_⟩⟩,λ _=>⟨λ _ _=>⟨λ _ _=>?_,λ _=>?_⟩,λ _=>⟨λ _ _=>?_,λ _=>?_⟩⟩⟩,λ _=>⟨λ _ _=>⟨λ _ _=>⟨λ _ _=>?_,λ _=>?_⟩,λ _=>⟨λ _ _=>?_,λ _=>?_⟩⟩,λ _=>⟨λ _ _=>⟨λ _ _=>?_,λ _=>?_⟩,λ _=>⟨λ _ _=>?_,λ _=>?_⟩⟩⟩⟩⟩⟩,λ _=>⟨λ _ _=>⟨?_,λ _ _ _=>⟨λ _ _ _=>⟨λ _ _=>⟨λ _ _=>⟨λ _ _=>?_,λ _=>?_⟩,λ _=>⟨λ _ _=>?_,λ _=>?_⟩⟩,λ _=>⟨λ _ _=>⟨λ _ _=>?_,λ _=>?_⟩,λ _=>⟨λ _ _=>?_,λ _=>?_⟩⟩⟩,λ _=>⟨λ _ _=>⟨λ _ _=>⟨λ _ _=>?_,λ _=>?_⟩,λ _=>⟨λ _ _=>?_,λ _=>?_⟩⟩,λ _=>⟨λ _ _=>⟨λ _ _=>?_,λ _=>?_⟩,λ _=>⟨λ _ _=>?_,λ _=>?_⟩⟩⟩⟩,λ _=>⟨λ _ _ _=>⟨λ _ _=>⟨λ _ _=>⟨λ _ _=>?_,λ _=>?_⟩,λ _=>⟨λ _ _=>?_,λ _=>?_⟩⟩,λ _=>⟨λ _ _=>⟨λ _ _=>?_,λ _=>?_⟩,λ _=>⟨λ _ _=>?_,λ _=>?_⟩⟩⟩,λ _=>⟨λ _ _=>⟨λ _ _=>⟨λ _ _=>?_,λ _=>?_⟩,λ _=>⟨λ _ _=>?_,λ _=>?_⟩⟩,λ _=>⟨λ _ _=>⟨λ _ _=>?_,λ _=>?_⟩,λ _=>⟨λ _ _=>?_,λ _=>?_⟩⟩⟩⟩⟩,λ _=>⟨λ _ _ _=>⟨λ _ _ _=>⟨λ _ _=>⟨λ _ _=>⟨λ _ _=>?_,λ _=>?_⟩,λ _=>⟨λ _ _=>?_,λ _=>?_⟩⟩,λ _=>⟨λ _ _=>⟨λ _ _=>?_,λ _=>?_⟩,λ _=>⟨λ _ _=>?_,λ _=>?_⟩⟩⟩,λ _=>⟨λ _ _=>⟨λ _ _=>⟨λ _ _=>?_,λ _=>?_⟩,λ _=>⟨λ _ _=>?_,λ _=>?_⟩⟩,λ _=>⟨λ _ _=>⟨λ _ _=>?_,λ _=>?_⟩,λ _=>⟨λ _ _=>?_,λ _=>?_⟩⟩⟩⟩,λ _=>⟨λ _ _ _=>⟨λ _ _=>⟨λ _ _=>⟨λ _ _=>?_,λ _=>?_⟩,λ _=>⟨λ _ _=>?_,λ _=>?_⟩⟩,λ _=>⟨λ _ _=>⟨λ _ _=>?_,λ _=>?_⟩,λ _=>⟨λ _ _=>?_,λ _=>?_⟩⟩⟩,λ _=>⟨λ _ _=>⟨λ _ _=>⟨λ _ _=>?_,λ _=>?_⟩,λ _=>⟨λ _ _=>?_,λ _=>?_⟩⟩,λ _=>⟨λ _ _=>⟨λ _ _=>?_,λ _=>?_⟩,λ _=>⟨λ _ _=>?_,λ _=>?_⟩⟩⟩⟩⟩⟩⟩;all_goals try and_intros
 all_goals first|with_reducible rfl|with_reducible assumption|exact True.intro|(simp only[Bool.true_eq_false,Bool.false_eq_true,Bool.not_true,Bool.not_false] at *;done)|omega|(simp only[hp,Bool.and_true,Bool.not_true,Bool.not_false] at *;unfold lM;simp only[*,Bool.and_true,Bool.true_and,Bool.and_false,Bool.false_and];done)|(simp only[ak,O,bc] at *;omega)
def yZ:aN:=⟨zq,[.v (.st .proof)],λ (p:ai)=>⟨(none,[⟨.bool,dQ p⟩])⟩⟩
def NN(p:ai):Nat->aA:=(cQ 0 (.mk (Nat) (λ k=>uA p k) (λ k=>p.af.length - k) [] [0,7,8,9,10,11,12,13,14,15,16,17] (λ k=>[(20, .aH ⟨(.int .i64),((k:Int):Int)⟩)]) [] (λ k=>[]) [] [] (λ k=>(cQ 100008 (.u (Mr p k) [21,22,23] [] [4] [] (cQ 100010 (.u (VA p k) [] [] [4] [] (cQ 2 (.a (Nat) (λ j=>Rv p k j) (λ j=>(p.af.getD k (ag.mk zE zE (0:Int) (0:Int) [])).steps.length - j) [4,70] (λ j=>[(73, .aH ⟨(.int .i64),((j:Int):Int)⟩)]) [4] (λ j=>[])) bJ)) bJ)) bJ))) bJ)
abbrev mc(p:ai)(k1:Nat):Prop:=(let v0:=p.af.getD k1 (ag.mk zE zE (0:Int) (0:Int) []);((v0.left.aq=v0.left.aq/\(v0.left.aS=v0.left.aS/\(v0.left.M=v0.left.M/\(v0.right.aq=v0.right.aq/\(v0.right.aS=v0.right.aS/\(v0.right.M=v0.right.M/\(v0.aM=v0.aM/\(v0.ref=v0.ref/\(v0.steps=v0.steps/\True)))))))))/\True))
abbrev fN(p:ai)(k1:Nat):Prop:=((p=p/\(True/\(p.af=p.af/\(((p.af.length:Int))=((p.af.length:Int))/\((k1:Int)=(k1:Int)/\True)))))/\(mc p k1))
abbrev tH(p:ai)(k1:Nat):Prop:=(let v0:=p.af.getD k1 (ag.mk zE zE (0:Int) (0:Int) []);let v1:=decide ((60:Int)<((v0.steps.length:Int)));(v0.steps.length<=140737488355328 ->
 (O ((v0.steps.length:Int)) ->
 ((v1=true ->
 false=(dQ p))/\(v1=false ->
 (∃ u2:Unit,(Mr p k1/\(fN p k1))))))))
abbrev tI(p:ai)(k1:Nat):Prop:=(let v0:=p.af.getD k1 (ag.mk zE zE (0:Int) (0:Int) []);let v1 := !(decide ((0:Int)<=v0.ref/\v0.ref<=(39:Int)));(O v0.ref ->
 (((v1=false) ->
 (tH p k1))/\((v1=(!false)) ->
 ((true=true ->
 false=(dQ p))/\(true=false ->
 (∃ u2:Unit,(Mr p k1/\(fN p k1)))))))))
abbrev tJ(p:ai)(k1:Nat):Prop:=((true=false ->
 (tH p k1))/\(true=(!false) ->
 ((true=true ->
 false=(dQ p))/\(true=false ->
 (∃ u2:Unit,(Mr p k1/\(fN p k1)))))))
abbrev tK(p:ai)(k1:Nat):Prop:=(let v0:=p.af.getD k1 (ag.mk zE zE (0:Int) (0:Int) []);let v1:=decide ((0:Int)<((v0.steps.length:Int)));let v2:=VA p k1/\(fN p k1);let v3 := !(decide (v0.aM=(1:Int)));(O v0.aM ->
 ((v3=true ->
 (v0.steps.length<=140737488355328 ->
 (O ((v0.steps.length:Int)) ->
 ((v1=true ->
 false=(dQ p))/\(v1=false ->
 (∃ u3:Unit,v2))))))/\(v3=(!true) ->
 ((false=true ->
 false=(dQ p))/\(false=false ->
 (∃ u3:Unit,v2)))))))
abbrev tL(p:ai):Prop:=(let v1:=(p.af.length:Int);let v2:=(0:Int);let v0:=ag.mk zE zE v2 v2 [];let v3:=(1:Int);let v4:=U.mk v2 false [] [] [];(p.af.length<=140737488355328 ->
 (O v1 ->
 ((∃ k1:Nat,(uA p k1/\((p=p/\(p.af=p.af/\(v1=v1/\(v2=(k1:Int)/\True))))/\True)))/\(∀ k1:Nat,let v5:=p.af.getD k1 v0;let v6:=(v5.steps.length:Int);let v7 := !(bu (cE p.sig) ([(aI v5.left),(aI v5.right)])&&bP p.sig);let v8:=(k1:Int);let v9 := !(decide (v3<=v5.aM/\v5.aM<=(3:Int)));let va:=VA p k1/\(fN p k1);(uA p k1 ->
 (((decide (v8<v1))=true ->
 (ak v8 p.af.length/\(((v7=false ->
 (O v5.aM ->
 (((v9=false) ->
 (tI p k1))/\((v9=(!false)) ->
 (tJ p k1)))))/\(v7=(!false) ->
 ((true=false ->
 (tI p k1))/\(true=(!false) ->
 (tJ p k1)))))/\(∀ u2:Unit,(Mr p k1 ->
 ((O v5.aM ->
 (((decide (v5.aM=v3))=true ->
 (O v5.ref ->
 (((!(decide (v5.ref=v2)))=false ->
 (tK p k1))/\((!(decide (v5.ref=v2)))=(!false) ->
 ((true=true ->
 false=(dQ p))/\(true=false ->
 (∃ u3:Unit,va)))))))/\((decide (v5.aM=v3))=(!true) ->
 ((false=false ->
 (tK p k1))/\(false=(!false) ->
 ((true=true ->
 false=(dQ p))/\(true=false ->
 (∃ u3:Unit,va))))))))/\(∀ u3:Unit,(VA p k1 ->
 (v5.steps.length<=140737488355328 ->
 (O v6 ->
 ((∃ j4:Nat,(Rv p k1 j4/\((p=p/\(p.af=p.af/\(v1=v1/\(v8=v8/\(v5.steps=v5.steps/\(v6=v6/\(v2=(j4:Int)/\True)))))))/\(mc p k1))))/\(∀ j4:Nat,let vb := !(lM p.sig (v5.steps.getD j4 v4));(Rv p k1 j4 ->
 (((decide ((j4:Int)<v6))=true ->
 (ak (j4:Int) v5.steps.length/\(bP p.sig=true/\((vb=true ->
 false=(dQ p))/\(vb=false ->
 (O ((j4:Int)+v3)/\(∃ j5:Nat,(Rv p k1 j5/\(v5.steps.length - j5<v5.steps.length - j4/\((p=p/\(p.af=p.af/\(v1=v1/\(v8=v8/\(v5.steps=v5.steps/\(v6=v6/\(((j4:Int)+v3)=(j5:Int)/\True)))))))/\(mc p k1)))))))))))/\((decide ((j4:Int)<v6))=false ->
 (O (v8+v3)/\(∃ k5:Nat,(uA p k5/\(p.af.length - k5<p.af.length - k1/\((p=p/\(p.af=p.af/\(v1=v1/\((v8+v3)=(k5:Int)/\True))))/\True))))))))))))))))))))/\((decide (v8<v1))=false ->
 true=(dQ p)))))))))
def Ho:aN.Good yZ:=by
 refine⟨ar we,?_⟩;intro (p:ai) _;refine aX [sC,oX,fO,I0] [] [] [1] ⟨wA,rA,fY,PR,ae⟩ we Hd (NN p) (let v0:=decide ((40:Int)<((p.af.length:Int)));((((!(bP p.sig))=false->(p.af.length<=140737488355328->(O ((p.af.length:Int))->((v0=true->false=(dQ p))/\(v0=false->(tL p))))))/\((!(bP p.sig))=(!false)->((true=true->false=(dQ p))/\(true=false->(tL p))))))) ?_;refine⟨λ _ _ _=>⟨λ _=>?_,λ _ _ _=>⟨⟨0,?_,⟨rfl,rfl,rfl,?_,ae⟩,ae⟩,λ k1 _=>⟨λ _=>⟨?_,⟨λ _ _=>⟨λ _ _=>⟨λ _ _ _=>⟨λ _=>?_,λ _=>⟨(),?_,⟨rfl,ae,rfl,rfl,rfl,ae⟩,⟨rfl,rfl,rfl,rfl,rfl,rfl,rfl,rfl,rfl,ae⟩,ae⟩⟩,λ _=>⟨λ _=>?_,λ _=>⟨(),?_,⟨rfl,ae,rfl,rfl,rfl,ae⟩,⟨rfl,rfl,rfl,rfl,rfl,rfl,rfl,rfl,rfl,ae⟩,ae⟩⟩⟩,λ _=>⟨λ _ _ _=>⟨λ _=>?_,λ _=>⟨(),?_,⟨rfl,ae,rfl,rfl,rfl,ae⟩,⟨rfl,rfl,rfl,rfl,rfl,rfl,rfl,rfl,rfl,ae⟩,ae⟩⟩,λ _=>⟨λ _=>?_,λ _=>⟨(),?_,⟨rfl,ae,rfl,rfl,rfl,ae⟩,⟨rfl,rfl,rfl,rfl,rfl,rfl,rfl,rfl,rfl,ae⟩,ae⟩⟩⟩⟩,λ _=>⟨λ _ _=>⟨λ _ _ _=>⟨λ _=>?_,λ _=>⟨(),?_,⟨rfl,ae,rfl,rfl,rfl,ae⟩,⟨rfl,rfl,rfl,rfl,rfl,rfl,rfl,rfl,rfl,ae⟩,ae⟩⟩,λ _=>⟨λ _=>?_,λ _=>⟨(),?_,⟨rfl,ae,rfl,rfl,rfl,ae⟩,⟨rfl,rfl,rfl,rfl,rfl,rfl,rfl,rfl,rfl,ae⟩,ae⟩⟩⟩,λ _=>⟨λ _ _ _=>⟨λ _=>?_,λ _=>⟨(),?_,⟨rfl,ae,rfl,rfl,rfl,ae⟩,⟨rfl,rfl,rfl,rfl,rfl,rfl,rfl,rfl,rfl,ae⟩,ae⟩⟩,λ _=>⟨λ _=>?_,λ _=>⟨(),?_,⟨rfl,ae,rfl,rfl,rfl,ae⟩,⟨rfl,rfl,rfl,rfl,rfl,rfl,rfl,rfl,rfl,ae⟩,ae⟩⟩⟩⟩⟩,λ u2 _=>⟨λ _=>⟨λ _ _=>⟨λ _ _=>⟨λ _ _ _=>⟨λ _=>?_,λ _=>⟨(),?_,⟨rfl,ae,rfl,rfl,rfl,ae⟩,⟨rfl,rfl,rfl,rfl,rfl,rfl,rfl,rfl,rfl,ae⟩,ae⟩⟩,λ _=>⟨λ _=>?_,λ _=>⟨(),?_,⟨rfl,ae,rfl,rfl,rfl,ae⟩,⟨rfl,rfl,rfl,rfl,rfl,rfl,rfl,rfl,rfl,ae⟩,ae⟩⟩⟩,λ _=>⟨λ _=>?_,λ _=>⟨(),?_,⟨rfl,ae,rfl,rfl,rfl,ae⟩,⟨rfl,rfl,rfl,rfl,rfl,rfl,rfl,rfl,rfl,ae⟩,ae⟩⟩⟩,λ _=>⟨λ _ _=>⟨λ _ _ _=>⟨λ _=>?_,λ _=>⟨(),?_,⟨rfl,ae,rfl,rfl,rfl,ae⟩,⟨rfl,rfl,rfl,rfl,rfl,rfl,rfl,rfl,rfl,ae⟩,ae⟩⟩,λ _=>⟨λ _=>?_,λ _=>⟨(),?_,⟨rfl,ae,rfl,rfl,rfl,ae⟩,⟨rfl,rfl,rfl,rfl,rfl,rfl,rfl,rfl,rfl,ae⟩,ae⟩⟩⟩,λ _=>⟨λ _=>?_,λ _=>⟨(),?_,⟨rfl,ae,rfl,rfl,rfl,ae⟩,⟨rfl,rfl,rfl,rfl,rfl,rfl,rfl,rfl,rfl,ae⟩,ae⟩⟩⟩⟩,λ u3 _ _ _=>⟨⟨0,?_,⟨rfl,rfl,rfl,rfl,rfl,rfl,?_,ae⟩,⟨rfl,rfl,rfl,rfl,rfl,rfl,rfl,rfl,rfl,ae⟩,ae⟩,λ j4 _=>⟨λ _=>⟨?_,?_,λ _=>?_,λ _=>⟨?_,j4+1,?_,?_,⟨rfl,rfl,rfl,rfl,rfl,rfl,?_,ae⟩,⟨rfl,rfl,rfl,rfl,rfl,rfl,rfl,rfl,rfl,ae⟩,ae⟩⟩,λ _=>⟨?_,k1+1,?_,?_,⟨rfl,rfl,rfl,?_,ae⟩,ae⟩⟩⟩⟩⟩,λ _=>?_⟩⟩⟩,λ _=>⟨λ _=>?_,λ _ _ _=>⟨⟨0,?_,⟨rfl,rfl,rfl,?_,ae⟩,ae⟩,λ k1 _=>⟨λ _=>⟨?_,⟨λ _ _=>⟨λ _ _=>⟨λ _ _ _=>⟨λ _=>?_,λ _=>⟨(),?_,⟨rfl,ae,rfl,rfl,rfl,ae⟩,⟨rfl,rfl,rfl,rfl,rfl,rfl,rfl,rfl,rfl,ae⟩,ae⟩⟩,λ _=>⟨λ _=>?_,λ _=>⟨(),?_,⟨rfl,ae,rfl,rfl,rfl,ae⟩,⟨rfl,rfl,rfl,rfl,rfl,rfl,rfl,rfl,rfl,ae⟩,ae⟩⟩⟩,λ _=>⟨λ _ _ _=>⟨λ _=>?_,λ _=>⟨(),?_,⟨rfl,ae,rfl,rfl,rfl,ae⟩,⟨rfl,rfl,rfl,rfl,rfl,rfl,rfl,rfl,rfl,ae⟩,ae⟩⟩,λ _=>⟨λ _=>?_,λ _=>⟨(),?_,⟨rfl,ae,rfl,rfl,rfl,ae⟩,⟨rfl,rfl,rfl,rfl,rfl,rfl,rfl,rfl,rfl,ae⟩,ae⟩⟩⟩⟩,λ _=>⟨λ _ _=>⟨λ _ _ _=>⟨λ _=>?_,λ _=>⟨(),?_,⟨rfl,ae,rfl,rfl,rfl,ae⟩,⟨rfl,rfl,rfl,rfl,rfl,rfl,rfl,rfl,rfl,ae⟩,ae⟩⟩,λ _=>⟨λ _=>?_,λ _=>⟨(),?_,⟨rfl,ae,rfl,rfl,rfl,ae⟩,⟨rfl,rfl,rfl,rfl,rfl,rfl,rfl,rfl,rfl,ae⟩,ae⟩⟩⟩,λ _=>⟨λ _ _ _=>⟨λ _=>?_,λ _=>⟨(),?_,⟨rfl,ae,rfl,rfl,rfl,ae⟩,⟨rfl,rfl,rfl,rfl,rfl,rfl,rfl,rfl,rfl,ae⟩,ae⟩⟩,λ _=>⟨λ _=>?_,λ _=>⟨(),?_,⟨rfl,ae,rfl,rfl,rfl,ae⟩,⟨rfl,rfl,rfl,rfl,rfl,rfl,rfl,rfl,rfl,ae⟩,ae⟩⟩⟩⟩⟩,λ u2 _=>⟨λ _=>⟨λ _ _=>⟨λ _ _=>⟨λ _ _ _=>⟨λ _=>?_,λ _=>⟨(),?_,⟨rfl,ae,rfl,rfl,rfl,ae⟩,⟨rfl,rfl,rfl,rfl,rfl,rfl,rfl,rfl,rfl,ae⟩,ae⟩⟩,λ _=>⟨λ _=>?_,λ _=>⟨(),?_,⟨rfl,ae,rfl,rfl,rfl,ae⟩,⟨rfl,rfl,rfl,rfl,rfl,rfl,rfl,rfl,rfl,ae⟩,ae⟩⟩⟩,λ _=>⟨λ _=>?_,λ _=>⟨(),?_,⟨rfl,ae,rfl,rfl,rfl,ae⟩,⟨rfl,rfl,rfl,rfl,rfl,rfl,rfl,rfl,rfl,ae⟩,ae⟩⟩⟩,λ _=>⟨λ _ _=>⟨λ _ _ _=>⟨λ _=>?_,λ _=>⟨(),?_,⟨rfl,ae,rfl,rfl,rfl,ae⟩,⟨rfl,rfl,rfl,rfl,rfl,rfl,rfl,rfl,rfl,ae⟩,ae⟩⟩,λ _=>⟨λ _=>?_,λ _=>⟨(),?_,⟨rfl,ae,rfl,rfl,rfl,ae⟩,⟨rfl,rfl,rfl,rfl,rfl,rfl,rfl,rfl,rfl,ae⟩,ae⟩⟩⟩,λ _=>⟨λ _=>?_,λ _=>⟨(),?_,⟨rfl,ae,rfl,rfl,rfl,ae⟩,⟨rfl,rfl,rfl,rfl,rfl,rfl,rfl,rfl,rfl,ae⟩,ae⟩⟩⟩⟩,λ u3 _ _ _=>⟨⟨0,?_,⟨rfl,rfl,rfl,rfl,rfl,rfl,?_,ae⟩,⟨rfl,rfl,rfl,rfl,rfl,rfl,rfl,rfl,rfl,ae⟩,ae⟩,λ j4 _=>⟨λ _=>⟨?_,?_,λ _=>?_,λ _=>⟨?_,j4+1,?_,?_,⟨rfl,rfl,rfl,rfl,rfl,rfl,?_,ae⟩,⟨rfl,rfl,rfl,rfl,rfl,rfl,rfl,rfl,rfl,ae⟩,ae⟩⟩,λ _=>⟨?_,k1+1,?_,?_,⟨rfl,rfl,rfl,?_,ae⟩,ae⟩⟩⟩⟩⟩,λ _=>?_⟩⟩⟩⟩;all_goals try and_intros
 all_goals try (first|with_reducible rfl|with_reducible assumption)
 all_goals try simp only[J.eta,ag.eta,au.eta,aK,br,bL] at *
 all_goals first|with_reducible rfl|with_reducible assumption|exact True.intro|(simp only[Bool.true_eq_false,Bool.false_eq_true,Bool.not_true,Bool.not_false] at *;done)|(have h:uA p k1:=(by with_reducible assumption);have sg:=h.sg;simp only[sg,Bool.and_true,Bool.not_true,Bool.not_false,Bool.not_eq_true',Bool.not_eq_false'] at *;first|exact True.intro|exact (h.b1 (by simp only[decide_eq_true_eq] at *;omega) (by with_reducible assumption)).symm|exact (h.b (by simp only[decide_eq_true_eq] at *;omega) (a3s (by simp only[gv,decide_eq_true_eq,decide_eq_false_iff_not] at *;omega))).symm|exact (h.b (by simp only[decide_eq_true_eq] at *;omega) (a3t (by simp only[gv,decide_eq_true_eq,decide_eq_false_iff_not] at *;omega))).symm|exact h.a (by simp only[decide_eq_true_eq] at *;omega) (by with_reducible assumption) (by simp only[gv,decide_eq_true_eq,decide_eq_false_iff_not] at *;omega) (by simp only[gv,decide_eq_true_eq,decide_eq_false_iff_not] at *;omega) (by simp only[gv,decide_eq_true_eq,decide_eq_false_iff_not] at *;omega)|(refine (h.b3O (by simp only[decide_eq_true_eq] at *;omega) ?_).symm;(rw[a4T];unfold clG;simp only[gv, *,Bool.and_true,Bool.true_and,Bool.and_false,Bool.false_and,Bool.not_true,Bool.not_false];done)))|((try simp only[gv,List.nil_append,J.eta,decide_eq_true_eq,decide_eq_false_iff_not,Bool.not_true,Bool.not_false,Bool.not_eq_true',Bool.not_eq_false',ak,O,bc,List.length_append,List.length_cons,List.length_nil,List.length_map,List.length_take] at *);first|exact True.intro|omega|exact (a5v (by with_reducible assumption)).symm|exact (a5w (by omega)).symm|exact uA.zero (by with_reducible assumption) (by omega)|exact (uA.end (by with_reducible assumption) (by omega)).symm|exact VA.zero (by with_reducible assumption)|(have h:uA p k1:=(by with_reducible assumption);have:=h.le;have:=h.ln;omega)|(have h:Mr p k1:=(by with_reducible assumption);have l:=h.lt;first|omega|exact (h.n1 (by simp only[gv];omega) (by simp only[gv];omega)).symm|exact (h.n2 (by simp only[gv];omega) (by simp only[gv];omega)).symm|exact h.y1 (by simp only[gv];omega) (by simp only[gv];omega)|exact h.y2 (by simp only[gv];omega) (by simp only[gv];omega))|(have h:VA p k1:=(by with_reducible assumption);have:=h.lt;omega)|(have h:Rv p k1 j4:=(by with_reducible assumption);first|exact h.h.pp.sg|exact (h.bad (by simp only[gv];omega) (by with_reducible assumption)).symm|exact h.next (by simp only[gv];omega) (by with_reducible assumption)|exact h.done (by simp only[gv];omega)|(have:=h.le;have:=h.h.lt;omega)))
def ZJ{gg:aW}{x:J}(hg:bP gg=true)(h:cE gg x=true):bg 62 62 x=true:=by
 rw[yL] at h;rw[X4] at hg;rw[FK _ (by omega),FK _ (by omega)] at h;exact JZ _ _ _ _ (by omega) (by omega) x h.1
def Z8{t a:Int}{x:J}(h:bg t a x=true):cV x.aq=(x.M.length:Int):=by
 rw[iu,Bool.and_eq_true] at h;have h1:=h.1;unfold oV at h1;simp only[Bool.and_eq_true,decide_eq_true_eq] at h1;exact h1.1.1
def Ks{t a:Int}{x:J}(h:bg t a x=true)(hk:x.aq=6\/x.aq=7):x.M.length=2:=by
 have:=Z8 h;rcases hk with hk|hk<;>rw[hk] at this<;>simp[cV] at this<;>omega
def rM{α:Type}(f:α->Bool)(z:α)(xs:List α)(i:Nat)(h:bu f xs=true)(hi:i<xs.length):f (xs.getD i z)=true:=by
 refine xr f xs h _ ?_;rw[b5b,b5p hi];exact b6h _
structure pU(p:ai):Prop where
 v:dQ p=true
def pU.sg{p:ai}(h:pU p):bP p.sig=true:=by
 have:=h.v;simp only[dQ,b4S] at this;exact this.1.1
def pU.ln{p:ai}(h:pU p):p.af.length<=40:=by
 have:=h.v;simp only[dQ,b4S,b4N] at this;exact this.1.2
def pU.cl{p:ai}(h:pU p){i:Int}(h0:0<=i)(hi:i<(p.af.length:Int)):lQ p.sig (bQ p i)=true:=by
 have:=h.v;simp only[dQ,b4S] at this;exact rM _ _ _ _ this.2 (by omega)
def pU.e{p:ai}(h:pU p){i:Int}(h0:0<=i)(hi:i<(p.af.length:Int)):cE p.sig (bQ p i).left=true/\cE p.sig (bQ p i).right=true/\(1<=(bQ p i).aM/\(bQ p i).aM<=3)/\(0<=(bQ p i).ref/\(bQ p i).ref<=39)/\(bQ p i).steps.length<=60/\bu (lM p.sig) (bQ p i).steps=true:=by
 have:=h.cl h0 hi;simp only[lQ,b4S,b4N] at this;exact⟨this.1.1.1.1.1.1,this.1.1.1.1.1.2,this.1.1.1.1.2,this.1.1.1.2,this.1.1.2,this.2⟩
def pU.t{p:ai}(h:pU p){i:Int}(h0:0<=i)(hi:i<(p.af.length:Int)):bg 62 62 (bQ p i).left=true/\bg 62 62 (bQ p i).right=true:=⟨ZJ h.sg (h.e h0 hi).1,ZJ h.sg (h.e h0 hi).2.1⟩
def VT:Hc.length=24:=by unfold Hc;rw[List.length_map];rfl
def a5P:Hc.all (λ q=>bg 62 62 q.left&&bg 62 62 q.right)=true:=by kernel_rfl
def J0{p:ai}{k u:Int}(h:pU p)(hk:k<=(p.af.length:Int))(hu:u<=23)(ho:ph k u=true):bg 62 62 (dA p k u).left=true/\bg 62 62 (dA p k u).right=true:=by
 unfold dA;by_cases h0:0<=u
 .rw[b5u h0];have hm:Hc.getD u.toNat (au.mk zE zE)∈Hc:=by
   rw[b5b,b5p (by rw[VT];omega)];exact b6h _
  have:=b5F.1 a5P _ hm;rwa [b4S] at this
 .rw[b4Z h0];simp only[ph,b6G,b4N] at ho;rw[b5u (by omega)];exact h.t (by omega) (by omega)
def a9j{p:ai}{k u:Int}(h:0<=u):dA p k u=Hc.getD u.toNat (au.mk zE zE)/\ph k u=true:=by
 unfold dA ph;rw[if_pos h,decide_eq_true h];exact⟨rfl,rfl⟩
def a9k{p:ai}{k u:Int}(h:¬ 0<=u)(h2 : -1 - u<k):dA p k u=au.mk (bQ p (-1 - u)).left (bQ p (-1 - u)).right/\ph k u=true:=by
 unfold dA ph;rw[if_neg h,if_pos h2,decide_eq_true h2,Bool.or_true];exact⟨rfl,rfl⟩
def a9l{p:ai}{k u:Int}(h:¬ 0<=u)(h2:¬ -1 - u<k):dA p k u=au.mk zE zE/\ph k u=false:=by
 unfold dA ph;rw[if_neg h,if_neg h2,decide_eq_false h,decide_eq_false h2];exact⟨rfl,rfl⟩
def a4z{q:au}(h:pR q=false):Va q=J.mk (0:Int) (0:Int) []/\Av q=J.mk (0:Int) (0:Int) []/\Oy q=J.mk (0:Int) (0:Int) []:=by unfold Va Av Oy;rw[h];exact⟨rfl,rfl,rfl⟩
def Ra{q:au}(h:pR q=true):Va q=(q.left.M.getD 0 zE).M.getD 0 zE/\Av q=(q.left.M.getD 0 zE).M.getD 1 zE/\Oy q=q.right:=by unfold Va Av Oy;rw[h];exact⟨rfl,rfl,rfl⟩
def a8T{q:au}(h1:q.left.aq=6)(h2:(q.left.M.getD 0 zE).aq=6)(h3:bH (q.left.M.getD 1 zE) q.right=true):pR q=true:=by unfold pR;rw[decide_eq_true h1,decide_eq_true h2,h3];rfl
def a8Q{q:au}(h1:¬ q.left.aq=6):pR q=false:=by unfold pR;rw[decide_eq_false h1];rfl
def a8R{q:au}(h1:¬ (q.left.M.getD 0 zE).aq=6):pR q=false:=by unfold pR;rw[decide_eq_false h1,Bool.and_false];rfl
def a8S{q:au}(h1:bH (q.left.M.getD 1 zE) q.right=false):pR q=false:=by unfold pR;rw[h1,Bool.and_false]
def X6{q:au}(ht:bg 62 62 q.left=true)(h:q.left.aq=6):q.left.M.length=2/\bg 62 62 (q.left.M.getD 0 zE)=true/\((q.left.M.getD 0 zE).aq=6->(q.left.M.getD 0 zE).M.length=2/\bg 62 62 ((q.left.M.getD 0 zE).M.getD 1 zE)=true):=by
 have h2:=Ks ht (.inl h);have h3:=sT ht 0 (by omega);refine⟨h2,h3,λ hk=>?_⟩;have h4:=Ks h3 (.inl hk);exact⟨h4,sT h3 1 (by omega)⟩
def PO:aN.Good vM:=N9.plain
def I3:aN:=⟨Js,[.v (.st .proof), .v (.int .i64), .v (.int .i64)],λ (p:ai) (k:Int) (u:Int)=>⟨(some (u<=23 /\ -40<=u/\0<=k/\k<=(p.af.length:Int)),[⟨(.st .equation),dA p k u⟩,⟨.bool,ph k u⟩])⟩⟩
def W5(p:ai)(k:Int)(u:Int):Nat->aA:=bJ
def PV:aN.Good I3:=by
 refine⟨ar F2,?_⟩;intro (p:ai) (k:Int) (u:Int) (hp:u<=23 /\ -40<=u/\0<=k/\k<=(p.af.length:Int));refine aX [vM] [] [] [3] ⟨PO,ae⟩ F2 Pd (W5 p k u) (let v1:=(-1:Int) - u;let v0:=p.af.getD (Int.toNat v1) (ag.mk zE zE (0:Int) (0:Int) []);((((decide ((0:Int)<=u))=true->((Hc).length<=140737488355328->(ak u (Hc).length/\((lR ((Hc).getD (Int.toNat u) (au.mk zE zE)))=(dA p k u)/\true=(ph k u)))))/\((decide ((0:Int)<=u))=false->(O v1/\(((decide (k<=v1))=true->((au.mk zE zE)=(dA p k u)/\false=(ph k u)))/\((decide (k<=v1))=false->(p.af.length<=140737488355328->(O v1/\(ak v1 p.af.length/\((au.mk (aI v0.left) (aI v0.right))=(dA p k u)/\true=(ph k u)))))))))))) ?_;refine⟨λ _ _=>⟨?_,?_,?_⟩,λ _=>⟨?_,λ _=>⟨?_,?_⟩,λ _ _=>⟨?_,?_,?_,?_⟩⟩⟩;all_goals try and_intros
 all_goals try (first|with_reducible rfl|with_reducible assumption)
 all_goals try simp only[J.eta,ag.eta,au.eta,aK,br,bL] at *
 all_goals first|with_reducible rfl|with_reducible assumption|exact True.intro|(simp only[b4V,b4U,b4T,b4R] at *;done)|((try simp only[b5q,J.eta,b4N,b4M,b4T,b4R,b5a,b5k,ak,O,bc,b5f,b4Y,b5j,b5g,b5n] at *);first|exact True.intro|omega|((first|have Q:=a9j (p:=p) (k:=k) (u:=u) (by omega)|have Q:=a9k (p:=p) (k:=k) (u:=u) (by omega) (by omega)|have Q:=a9l (p:=p) (k:=k) (u:=u) (by omega) (by omega));first|exact Q.1|exact Q.2|exact Q.1.symm|exact Q.2.symm)|(have:=VT;omega))
def Gk:aN:=⟨GO,[.v (.st .equation)],λ (q:au)=>⟨(some (bg 62 62 q.left=true),[⟨(.st .expr),Va q⟩,⟨(.st .expr),Av q⟩,⟨(.st .expr),Oy q⟩,⟨.bool,pR q⟩])⟩⟩
def Uv(q:au):Nat->aA:=bJ
abbrev qx(q:au):Prop:=(zE=(Va q)/\(zE=(Av q)/\(zE=(Oy q)/\false=(pR q))))
abbrev qy(q:au):Prop:=(let v0:=q.left.M.getD 0 zE;let v1:=v0.M.getD 1 zE;let v2:=v0.M.getD 0 zE;let v3:=(0:Int);(q.left.M.length<=140737488355328 ->
 (ak v3 q.left.M.length/\(v0.M.length<=140737488355328 ->
 (ak v3 v0.M.length/\(q.left.M.length<=140737488355328 ->
 (ak v3 q.left.M.length/\(v0.M.length<=140737488355328 ->
 (ak (1:Int) v0.M.length/\(q.left=q.left/\(q.left.M=q.left.M/\(q.left.M=q.left.M/\(ak v3 q.left.M.length/\(v0=v0/\(v0.M=v0.M/\(v0.M=v0.M/\(ak v3 v0.M.length/\(v2=v2/\(v2=v2/\(q.left=q.left/\(q.left.M=q.left.M/\(q.left.M=q.left.M/\(ak v3 q.left.M.length/\(v0=v0/\(v0.M=v0.M/\(v0.M=v0.M/\(ak (1:Int) v0.M.length/\(v1=v1/\(v1=v1/\(q.right=q.right/\(q.right=q.right/\(q.left=q.left/\(q.left.M=q.left.M/\(q.left.M=q.left.M/\(ak v3 q.left.M.length/\(v0=v0/\(v0.M=v0.M/\(v0.M=v0.M/\(ak (1:Int) v0.M.length/\(v1=v1/\(v1=v1/\(q.right=q.right/\(q.right=q.right/\(q.right=q.right/\(q.right=q.right/\((aI v2)=(Va q)/\((aI v1)=(Av q)/\((aI q.right)=(Oy q)/\true=(pR q)))))))))))))))))))))))))))))))))))))))))))))))))
abbrev A6(q:au):Prop:=(let v0 := !(bH (q.left.M.getD 1 zE) q.right);(q.left.M.length<=140737488355328 ->
 ((v0=true ->
 (qx q))/\(v0=false ->
 (qy q)))))
def M8:aN.Good Gk:=by
 refine⟨ar CU,?_⟩;intro (q:au) (hp:bg 62 62 q.left=true);refine aX [jC] [] [] [1] ⟨jj,ae⟩ CU My (Uv q) (let v0:=q.left.M.getD 0 zE;let v1 := !(decide (q.left.aq=(6:Int)));let v2 := !(decide (v0.aq=(6:Int)));(((v1=false->(ak (0:Int) q.left.M.length/\((v2=false->(ak (1:Int) q.left.M.length/\(O q.left.aq->(q.left.M.length<=140737488355328->(O v0.aq->(A6 q))))))/\(v2=(!false)->(O q.left.aq->(q.left.M.length<=140737488355328->(O v0.aq->((true=true->(qx q))/\(true=false->(qy q))))))))))/\(v1=(!false)->((true=false->(ak (1:Int) q.left.M.length/\(O q.left.aq->(A6 q))))/\(true=(!false)->(O q.left.aq->((true=true->(qx q))/\(true=false->(qy q)))))))))) ?_;refine⟨λ _=>⟨?_,λ _=>⟨?_,λ _ _ _ _=>⟨λ _=>⟨?_,?_,?_,?_⟩,λ _ _=>⟨?_,λ _=>⟨?_,λ _=>⟨?_,λ _=>⟨?_,rfl,rfl,rfl,?_,rfl,rfl,rfl,?_,rfl,rfl,rfl,rfl,rfl,?_,rfl,rfl,rfl,?_,rfl,rfl,rfl,rfl,rfl,rfl,rfl,?_,rfl,rfl,rfl,?_,rfl,rfl,rfl,rfl,rfl,rfl,?_,?_,?_,?_⟩⟩⟩⟩⟩⟩,λ _ _ _ _=>⟨λ _=>⟨?_,?_,?_,?_⟩,λ _ _=>⟨?_,λ _=>⟨?_,λ _=>⟨?_,λ _=>⟨?_,rfl,rfl,rfl,?_,rfl,rfl,rfl,?_,rfl,rfl,rfl,rfl,rfl,?_,rfl,rfl,rfl,?_,rfl,rfl,rfl,rfl,rfl,rfl,rfl,?_,rfl,rfl,rfl,?_,rfl,rfl,rfl,rfl,rfl,rfl,?_,?_,?_,?_⟩⟩⟩⟩⟩⟩,λ _=>⟨λ _=>⟨?_,λ _ _=>⟨λ _=>⟨?_,?_,?_,?_⟩,λ _ _=>⟨?_,λ _=>⟨?_,λ _=>⟨?_,λ _=>⟨?_,rfl,rfl,rfl,?_,rfl,rfl,rfl,?_,rfl,rfl,rfl,rfl,rfl,?_,rfl,rfl,rfl,?_,rfl,rfl,rfl,rfl,rfl,rfl,rfl,?_,rfl,rfl,rfl,?_,rfl,rfl,rfl,rfl,rfl,rfl,?_,?_,?_,?_⟩⟩⟩⟩⟩⟩,λ _ _=>⟨λ _=>⟨?_,?_,?_,?_⟩,λ _ _=>⟨?_,λ _=>⟨?_,λ _=>⟨?_,λ _=>⟨?_,rfl,rfl,rfl,?_,rfl,rfl,rfl,?_,rfl,rfl,rfl,rfl,rfl,?_,rfl,rfl,rfl,?_,rfl,rfl,rfl,rfl,rfl,rfl,rfl,?_,rfl,rfl,rfl,?_,rfl,rfl,rfl,rfl,rfl,rfl,?_,?_,?_,?_⟩⟩⟩⟩⟩⟩⟩;all_goals try and_intros
 all_goals try (first|with_reducible rfl|with_reducible assumption)
 all_goals try simp only[J.eta,ag.eta,au.eta,aK,br,bL] at *
 all_goals first|with_reducible rfl|with_reducible assumption|exact True.intro|(simp only[b4V,b4U,b4T,b4R] at *;done)|((try simp only[b5q,J.eta,b4N,b4M,b4T,b4R,b5a,b5k,ak,O,bc,b5f,b4Y,b5j,b5g,b5n] at *);first|exact True.intro|omega|(have h:=X6 hp (by with_reducible assumption);have h2:=h.1;first|omega|(have h3:=(h.2.2 (by with_reducible assumption)).1;omega))|((first|have Q:=a4z (q:=q) (a8Q (by with_reducible assumption))|have Q:=a4z (q:=q) (a8R (by with_reducible assumption))|have Q:=a4z (q:=q) (a8S (by with_reducible assumption))|have Q:=Ra (q:=q) (a8T (by with_reducible assumption) (by with_reducible assumption) (by with_reducible assumption)));first|exact Q.1|exact Q.1.symm|exact Q.2.1|exact Q.2.1.symm|exact Q.2.2|exact Q.2.2.symm)|((first|have Q:=a8Q (q:=q) (by with_reducible assumption)|have Q:=a8R (q:=q) (by with_reducible assumption)|have Q:=a8S (q:=q) (by with_reducible assumption)|have Q:=a8T (q:=q) (by with_reducible assumption) (by with_reducible assumption) (by with_reducible assumption));first|exact Q|exact Q.symm))
structure Rt(p:ai)(k:Int)(e:J)(s:U):Prop where
 v:pU p
 k0:0<=k
 k1:k<=(p.af.length:Int)
 e:cE p.sig e=true
 s:lM p.sig s=true
def Rt.u{p:ai}{k:Int}{e:J}{s:U}(h:Rt p k e s):(-40<=s.use/\s.use<=23)/\s.path.length<=40/\s.aw.length<=3/\s.bd.length<=4/\bu (cE p.sig) s.aw=true/\bu (cE p.sig) s.bd=true:=by
 have:=h.s;simp only[lM,b4S,b4N] at this;have h1:=this.1.1.1.1.1.1.2;have h2:=this.1.1.1.1.2;have h3:=this.1.1.1.2;exact⟨this.1.1.1.1.1.1.1,by omega,by omega,by omega,this.1.1.2,this.2⟩
def Rt.fl{p:ai}{k:Int}{e:J}{s:U}(h:Rt p k e s):OL s.aw s.bd :=
 ⟨λ y hy=>Fq p.sig y (xr _ _ h.u.2.2.2.2.1 y hy),λ y hy=>Fq p.sig y (xr _ _ h.u.2.2.2.2.2 y hy)⟩
def IA{q:au}{s:U}(h1:(cu [q.left,q.right]).1=(s.aw.length:Int))(h2:(cu [q.left,q.right]).2=(s.bd.length:Int)):gf s.aw s.bd q.left/\gf s.aw s.bd q.right:=by
 simp only[cu] at h1 h2;exact⟨⟨by omega,by omega⟩,⟨by omega,by omega⟩⟩
def a1m{p:ai}{k:Int}{e:J}{s:U}{c:Int}(h:iT p k e s=c)(hc:c≠0):kI p k e s=J.mk (0:Int) (0:Int) []/\iT p k e s=c:=⟨by unfold kI;rw[if_neg (by rw[h];exact hc)],h⟩
def a4M{p:ai}{k:Int}{e:J}{s:U}(h:ph k s.use=false\/eC e s.path=false):kI p k e s=J.mk (0:Int) (0:Int) []/\iT p k e s=2:=by
 refine a1m ?_ (by decide);unfold iT;rcases h with h|h<;>rw[h]<;>simp
def a4N{p:ai}{k:Int}{e:J}{s:U}(h:apF (dA p k s.use) s=false):kI p k e s=J.mk (0:Int) (0:Int) []/\iT p k e s=2:=by
 refine a1m ?_ (by decide);unfold iT;rw[h];cases ph k s.use&&eC e s.path<;>rfl
def a7a{q:au}{s:U}(h:¬ (cu [q.left,q.right]).1=(s.aw.length:Int)):apF q s=false:=by unfold apF;rw[decide_eq_false h];rfl
def a7b{q:au}{s:U}(h:¬ (cu [q.left,q.right]).2=(s.bd.length:Int)):apF q s=false:=by unfold apF;rw[decide_eq_false h,Bool.and_false]
structure Ad(p:ai)(k:Int)(e:J)(s:U):Prop where
 u:ph k s.use=true
 n:eC e s.path=true
 t:(cu [(dA p k s.use).left,(dA p k s.use).right]).1=(s.aw.length:Int)
 a:(cu [(dA p k s.use).left,(dA p k s.use).right]).2=(s.bd.length:Int)
def Ad.c{p:ai}{k:Int}{e:J}{s:U}(h:Ad p k e s):iT p k e s=bif !VH p.sig (dA p k s.use) s then 3 else bif !bH (dM e s.path) (apX (dA p k s.use) s) then 6 else pQ p.sig e s.path (VI (dA p k s.use) s):=by
 unfold iT;rw[h.u,h.n,show apF (dA p k s.use) s=true by unfold apF;rw[decide_eq_true h.t,decide_eq_true h.a];rfl];rfl
def Kf{gg:aW}{x:J}{ts as_:List J}(h:qw gg x ts as_=0):cE gg (dx ts as_ x)=true/\wF gg x ts as_=dx ts as_ x:=by
 cases hb:cE gg (dx ts as_ x) with
 | true=>exact⟨rfl,(a0F hb).1⟩
 | false=>rw[(a3R hb).2] at h;cases h
def a7Z{gg:aW}{x:J}{ts as_:List J}(h:¬ qw gg x ts as_=0):cE gg (dx ts as_ x)=false:=by
 cases hb:cE gg (dx ts as_ x) with
 | true=>exact absurd (a0F hb).2 h
 | false=>rfl
def Ad.c3{p:ai}{k:Int}{e:J}{s:U}(h:Ad p k e s)(h2:¬ qw p.sig (dA p k s.use).left s.aw s.bd=0\/¬ qw p.sig (dA p k s.use).right s.aw s.bd=0):kI p k e s=J.mk (0:Int) (0:Int) []/\iT p k e s=3:=by
 refine a1m ?_ (by decide);rw[h.c];unfold VH;rcases h2 with h2|h2<;>rw[a7Z h2]<;>simp
def Ad.i{p:ai}{k:Int}{e:J}{s:U}(h1:qw p.sig (dA p k s.use).left s.aw s.bd=0)(h2:qw p.sig (dA p k s.use).right s.aw s.bd=0):VH p.sig (dA p k s.use) s=true:=by
 unfold VH;rw[(Kf h1).1,(Kf h2).1];rfl
structure CH(p:ai)(k:Int)(e:J)(s:U)(x y:J):Prop where
 r:Ad p k e s
 i:VH p.sig (dA p k s.use) s=true
 x:x=apX (dA p k s.use) s
 y:y=VI (dA p k s.use) s
def Ad.s1{p:ai}{k:Int}{e:J}{s:U}(h:Ad p k e s)(h1:qw p.sig (dA p k s.use).left s.aw s.bd=0)(h2:qw p.sig (dA p k s.use).right s.aw s.bd=0)(hb:s.back=true):CH p k e s (wF p.sig (dA p k s.use).right s.aw s.bd) (wF p.sig (dA p k s.use).left s.aw s.bd) :=
 ⟨h,Ad.i (e:=e) h1 h2,by rw[(Kf h2).2];unfold apX;rw[hb];rfl,by rw[(Kf h1).2];unfold VI;rw[hb];rfl⟩
def Ad.s0{p:ai}{k:Int}{e:J}{s:U}(h:Ad p k e s)(h1:qw p.sig (dA p k s.use).left s.aw s.bd=0)(h2:qw p.sig (dA p k s.use).right s.aw s.bd=0)(hb:s.back=false):CH p k e s (wF p.sig (dA p k s.use).left s.aw s.bd) (wF p.sig (dA p k s.use).right s.aw s.bd) :=
 ⟨h,Ad.i (e:=e) h1 h2,by rw[(Kf h1).2];unfold apX;rw[hb];rfl,by rw[(Kf h2).2];unfold VI;rw[hb];rfl⟩
def CH.c6{p:ai}{k:Int}{e:J}{s:U}{x y:J}(h:CH p k e s x y)(h2:bH (Jz e s.path) x=false):kI p k e s=J.mk (0:Int) (0:Int) []/\iT p k e s=6:=by
 refine a1m ?_ (by decide);have e1:Jz e s.path=dM e s.path:=by unfold Jz;rw[h.r.n];rfl
 rw[h.r.c,h.i,<-h.x,<-e1,h2];rfl
def CH.go{p:ai}{k:Int}{e:J}{s:U}{x y:J}(h:CH p k e s x y)(h2:bH (Jz e s.path) x=true):kI p k e s=Au p.sig e s.path y/\iT p k e s=pQ p.sig e s.path y:=by
 have e1:Jz e s.path=dM e s.path:=by unfold Jz;rw[h.r.n];rfl
 have c:iT p k e s=pQ p.sig e s.path y:=by rw[h.r.c,h.i,<-h.x,<-e1,h2,h.y];rfl
 refine⟨?_,c⟩;unfold kI;rw[c,<-h.y];unfold Au pQ;cases eC e s.path<;>cases o7 e s.path<;>cases bq y<;>cases cE p.sig (fV y e s.path)<;>rfl
def CH.c4{p:ai}{k:Int}{e:J}{s:U}{x y:J}(h:CH p k e s x y)(h2:bH (Jz e s.path) x=true)(h3:FE e s.path=true)(h4:bq y=false):kI p k e s=J.mk (0:Int) (0:Int) []/\iT p k e s=4:=by
 have g:=h.go h2;have g2:=a4x (gg:=p.sig) (y:=y) h.r.n h3 h4;rw[g.1,g.2];exact g2
def CH.sz{p:ai}{k:Int}{e:J}{s:U}{x y:J}(h:CH p k e s x y):aE y<=1048576:=by
 have:=h.i;rw[VH,Bool.and_eq_true] at this;refine Fq p.sig y ?_;rw[h.y];unfold VI;cases s.back
 .exact this.2
 .exact this.1
def KY:aN.Good qI:=JF.plain
def oZ:aN:=⟨BC,[.v (.st .proof), .v (.int .i64), .v (.st .expr), .v (.st .proofStep)],λ (p:ai) (k:Int) (e:J) (s:U)=>⟨(some (Rt p k e s),[⟨(.st .expr),kI p k e s⟩,⟨(.int .i64),iT p k e s⟩])⟩⟩
def NW(p:ai)(k:Int)(e:J)(s:U):Nat->aA:=bJ
abbrev tN(p:ai)(k:Int)(e:J)(s:U):Prop:=(let v0:=aI (wF p.sig (aI (dA p k s.use).left) s.aw s.bd);(s.path.length<=140737488355328 ->
 ((aE e<=1048576/\aE v0<=1048576/\s.path.length<=1000)/\(O (pQ p.sig e s.path v0) ->
 ((aI (Au p.sig e s.path v0))=(kI p k e s)/\(pQ p.sig e s.path v0)=(iT p k e s))))))
abbrev tO(p:ai)(k:Int)(e:J)(s:U):Prop:=(let v0:=aI (wF p.sig (aI (dA p k s.use).right) s.aw s.bd);(s.path.length<=140737488355328 ->
 ((aE e<=1048576/\aE v0<=1048576/\s.path.length<=1000)/\(O (pQ p.sig e s.path v0) ->
 ((aI (Au p.sig e s.path v0))=(kI p k e s)/\(pQ p.sig e s.path v0)=(iT p k e s))))))
abbrev tP(p:ai)(k:Int)(e:J)(s:U):Prop:=(let v0:=aI (wF p.sig (aI (dA p k s.use).right) s.aw s.bd);let v1:=aI (wF p.sig (aI (dA p k s.use).left) s.aw s.bd);let v2:=zE=(kI p k e s)/\(4:Int)=(iT p k e s);let v3:=aI (Jz e s.path);let v4:=zE=(kI p k e s)/\(6:Int)=(iT p k e s);let v5:=FE e s.path;((s.back=true ->
 (((!(bH v3 v0))=true ->
 v4)/\((!(bH v3 v0))=false ->
 ((v5=true ->
 (((!(bq v1))=true ->
 v2)/\((!(bq v1))=false ->
 (tN p k e s))))/\(v5=(!true) ->
 ((false=true ->
 v2)/\(false=false ->
 (tN p k e s))))))))/\(s.back=false ->
 (((!(bH v3 v1))=true ->
 v4)/\((!(bH v3 v1))=false ->
 ((v5=true ->
 (((!(bq v0))=true ->
 v2)/\((!(bq v0))=false ->
 (tO p k e s))))/\(v5=(!true) ->
 ((false=true ->
 v2)/\(false=false ->
 (tO p k e s))))))))))
abbrev tQ(p:ai)(k:Int)(e:J)(s:U):Prop:=(let v2:=dA p k s.use;let v1:=qw p.sig (aI v2.left) s.aw s.bd;let v3:=zE=(kI p k e s)/\(3:Int)=(iT p k e s);let v4:=aI v2.right;let v0:=qw p.sig v4 s.aw s.bd;(s.aw.length<=140737488355328 ->
 (s.bd.length<=140737488355328 ->
 ((gf s.aw s.bd (aI v2.left)/\bg 62 62 (aI v2.left)=true/\OL s.aw s.bd/\s.aw.length<=1000/\s.bd.length<=1000)/\(O v1 ->
 (s.aw.length<=140737488355328 ->
 (s.bd.length<=140737488355328 ->
 ((gf s.aw s.bd v4/\bg 62 62 v4=true/\OL s.aw s.bd/\s.aw.length<=1000/\s.bd.length<=1000)/\(O v0 ->
 (((!(decide (v1=(0:Int))))=false ->
 (((!(decide (v0=(0:Int))))=true ->
 v3)/\((!(decide (v0=(0:Int))))=false ->
 (tP p k e s))))/\((!(decide (v1=(0:Int))))=(!false) ->
 ((true=true ->
 v3)/\(true=false ->
 (tP p k e s))))))))))))))
abbrev tR(p:ai)(k:Int)(e:J)(s:U):Prop:=(let v1:=lR (dA p k s.use);let v0:=cu [v1.left,v1.right];let v2:=zE=(kI p k e s)/\(2:Int)=(iT p k e s);let v3 := !(decide ((v0.1)=((s.aw.length:Int))));let v4 := !(decide ((v0.2)=((s.bd.length:Int))));((bg 62 62 v1.left=true/\bg 62 62 v1.right=true)/\(O (v0.1) ->
 (O (v0.2) ->
 (s.aw.length<=140737488355328 ->
 (O ((s.aw.length:Int)) ->
 ((v3=false ->
 (s.bd.length<=140737488355328 ->
 (O ((s.bd.length:Int)) ->
 ((v4=true ->
 v2)/\(v4=false ->
 (tQ p k e s))))))/\(v3=(!false) ->
 ((true=true ->
 v2)/\(true=false ->
 (tQ p k e s)))))))))))
def HI:aN.cZ oZ:=by
 refine⟨ar xK,?_⟩;intro (p:ai) (k:Int) (e:J) (s:U) (hp:Rt p k e s);refine cp [I3,y8,IZ,qI,jC,fg] [zj] [] [] [115] [] [] [4,6,7] ⟨PV,AZ,PQ,KY,jj,gB,ae⟩ ⟨HL,ae⟩ trivial trivial xK H7 (NW p k e s) (let v0:=zE=(kI p k e s)/\(2:Int)=(iT p k e s);((O s.use->((s.use<=23 /\ -40<=s.use/\0<=k/\k<=(p.af.length:Int))/\(s.path.length<=140737488355328->(((!(ph k s.use))=false->(((!(eC e s.path))=true->v0)/\((!(eC e s.path))=false->(tR p k e s))))/\((!(ph k s.use))=(!false)->((true=true->v0)/\(true=false->(tR p k e s)))))))))) ?_;refine λ _=>⟨?_,λ _=>⟨λ _=>⟨λ _=>⟨?_,?_⟩,λ _=>⟨?_,λ _ _ _ _=>⟨λ _ _ _=>⟨λ _=>⟨?_,?_⟩,λ _ _ _=>⟨?_,λ _ _ _=>⟨?_,λ _=>⟨λ _=>⟨λ _=>⟨?_,?_⟩,λ _=>⟨λ _=>⟨λ _=>⟨?_,?_⟩,λ _=>⟨λ _=>⟨λ _=>⟨?_,?_⟩,λ _ _=>⟨?_,λ _=>⟨?_,?_⟩⟩⟩,λ _=>⟨λ _=>⟨?_,?_⟩,λ _ _=>⟨?_,λ _=>⟨?_,?_⟩⟩⟩⟩⟩,λ _=>⟨λ _=>⟨?_,?_⟩,λ _=>⟨λ _=>⟨λ _=>⟨?_,?_⟩,λ _ _=>⟨?_,λ _=>⟨?_,?_⟩⟩⟩,λ _=>⟨λ _=>⟨?_,?_⟩,λ _ _=>⟨?_,λ _=>⟨?_,?_⟩⟩⟩⟩⟩⟩⟩,λ _=>⟨λ _=>⟨?_,?_⟩,λ _=>⟨λ _=>⟨λ _=>⟨?_,?_⟩,λ _=>⟨λ _=>⟨λ _=>⟨?_,?_⟩,λ _ _=>⟨?_,λ _=>⟨?_,?_⟩⟩⟩,λ _=>⟨λ _=>⟨?_,?_⟩,λ _ _=>⟨?_,λ _=>⟨?_,?_⟩⟩⟩⟩⟩,λ _=>⟨λ _=>⟨?_,?_⟩,λ _=>⟨λ _=>⟨λ _=>⟨?_,?_⟩,λ _ _=>⟨?_,λ _=>⟨?_,?_⟩⟩⟩,λ _=>⟨λ _=>⟨?_,?_⟩,λ _ _=>⟨?_,λ _=>⟨?_,?_⟩⟩⟩⟩⟩⟩⟩⟩⟩⟩⟩,λ _=>⟨λ _=>⟨?_,?_⟩,λ _ _ _=>⟨?_,λ _ _ _=>⟨?_,λ _=>⟨λ _=>⟨λ _=>⟨?_,?_⟩,λ _=>⟨λ _=>⟨λ _=>⟨?_,?_⟩,λ _=>⟨λ _=>⟨λ _=>⟨?_,?_⟩,λ _ _=>⟨?_,λ _=>⟨?_,?_⟩⟩⟩,λ _=>⟨λ _=>⟨?_,?_⟩,λ _ _=>⟨?_,λ _=>⟨?_,?_⟩⟩⟩⟩⟩,λ _=>⟨λ _=>⟨?_,?_⟩,λ _=>⟨λ _=>⟨λ _=>⟨?_,?_⟩,λ _ _=>⟨?_,λ _=>⟨?_,?_⟩⟩⟩,λ _=>⟨λ _=>⟨?_,?_⟩,λ _ _=>⟨?_,λ _=>⟨?_,?_⟩⟩⟩⟩⟩⟩⟩,λ _=>⟨λ _=>⟨?_,?_⟩,λ _=>⟨λ _=>⟨λ _=>⟨?_,?_⟩,λ _=>⟨λ _=>⟨λ _=>⟨?_,?_⟩,λ _ _=>⟨?_,λ _=>⟨?_,?_⟩⟩⟩,λ _=>⟨λ _=>⟨?_,?_⟩,λ _ _=>⟨?_,λ _=>⟨?_,?_⟩⟩⟩⟩⟩,λ _=>⟨λ _=>⟨?_,?_⟩,λ _=>⟨λ _=>⟨λ _=>⟨?_,?_⟩,λ _ _=>⟨?_,λ _=>⟨?_,?_⟩⟩⟩,λ _=>⟨λ _=>⟨?_,?_⟩,λ _ _=>⟨?_,λ _=>⟨?_,?_⟩⟩⟩⟩⟩⟩⟩⟩⟩⟩⟩⟩⟩⟩,λ _=>⟨λ _=>⟨?_,?_⟩,λ _=>⟨?_,λ _ _ _ _=>⟨λ _ _ _=>⟨λ _=>⟨?_,?_⟩,λ _ _ _=>⟨?_,λ _ _ _=>⟨?_,λ _=>⟨λ _=>⟨λ _=>⟨?_,?_⟩,λ _=>⟨λ _=>⟨λ _=>⟨?_,?_⟩,λ _=>⟨λ _=>⟨λ _=>⟨?_,?_⟩,λ _ _=>⟨?_,λ _=>⟨?_,?_⟩⟩⟩,λ _=>⟨λ _=>⟨?_,?_⟩,λ _ _=>⟨?_,λ _=>⟨?_,?_⟩⟩⟩⟩⟩,λ _=>⟨λ _=>⟨?_,?_⟩,λ _=>⟨λ _=>⟨λ _=>⟨?_,?_⟩,λ _ _=>⟨?_,λ _=>⟨?_,?_⟩⟩⟩,λ _=>⟨λ _=>⟨?_,?_⟩,λ _ _=>⟨?_,λ _=>⟨?_,?_⟩⟩⟩⟩⟩⟩⟩,λ _=>⟨λ _=>⟨?_,?_⟩,λ _=>⟨λ _=>⟨λ _=>⟨?_,?_⟩,λ _=>⟨λ _=>⟨λ _=>⟨?_,?_⟩,λ _ _=>⟨?_,λ _=>⟨?_,?_⟩⟩⟩,λ _=>⟨λ _=>⟨?_,?_⟩,λ _ _=>⟨?_,λ _=>⟨?_,?_⟩⟩⟩⟩⟩,λ _=>⟨λ _=>⟨?_,?_⟩,λ _=>⟨λ _=>⟨λ _=>⟨?_,?_⟩,λ _ _=>⟨?_,λ _=>⟨?_,?_⟩⟩⟩,λ _=>⟨λ _=>⟨?_,?_⟩,λ _ _=>⟨?_,λ _=>⟨?_,?_⟩⟩⟩⟩⟩⟩⟩⟩⟩⟩⟩,λ _=>⟨λ _=>⟨?_,?_⟩,λ _ _ _=>⟨?_,λ _ _ _=>⟨?_,λ _=>⟨λ _=>⟨λ _=>⟨?_,?_⟩,λ _=>⟨λ _=>⟨λ _=>⟨?_,?_⟩,λ _=>⟨λ _=>⟨λ _=>⟨?_,?_⟩,λ _ _=>⟨?_,λ _=>⟨?_,?_⟩⟩⟩,λ _=>⟨λ _=>⟨?_,?_⟩,λ _ _=>⟨?_,λ _=>⟨?_,?_⟩⟩⟩⟩⟩,λ _=>⟨λ _=>⟨?_,?_⟩,λ _=>⟨λ _=>⟨λ _=>⟨?_,?_⟩,λ _ _=>⟨?_,λ _=>⟨?_,?_⟩⟩⟩,λ _=>⟨λ _=>⟨?_,?_⟩,λ _ _=>⟨?_,λ _=>⟨?_,?_⟩⟩⟩⟩⟩⟩⟩,λ _=>⟨λ _=>⟨?_,?_⟩,λ _=>⟨λ _=>⟨λ _=>⟨?_,?_⟩,λ _=>⟨λ _=>⟨λ _=>⟨?_,?_⟩,λ _ _=>⟨?_,λ _=>⟨?_,?_⟩⟩⟩,λ _=>⟨λ _=>⟨?_,?_⟩,λ _ _=>⟨?_,λ _=>⟨?_,?_⟩⟩⟩⟩⟩,λ _=>⟨λ _=>⟨?_,?_⟩,λ _=>⟨λ _=>⟨λ _=>⟨?_,?_⟩,λ _ _=>⟨?_,λ _=>⟨?_,?_⟩⟩⟩,λ _=>⟨λ _=>⟨?_,?_⟩,λ _ _=>⟨?_,λ _=>⟨?_,?_⟩⟩⟩⟩⟩⟩⟩⟩⟩⟩⟩⟩⟩⟩⟩⟩;all_goals try and_intros
 all_goals try (first|with_reducible rfl|with_reducible assumption)
 all_goals try simp only[J.eta,ag.eta,au.eta,aK,br,bL] at *
 all_goals first|with_reducible rfl|with_reducible assumption|exact True.intro|(simp only[b4V,b4U,b4T,b4R] at *;done)|((try simp only[b5q,J.eta,b4N,b4M,b4T,b4R,b5a,b5k,ak,O,bc,b5f,b4Y,b5j,b5g,b5n] at *);first|exact True.intro|omega|exact hp.u.1.1|exact hp.u.1.2|exact hp.k0|exact hp.k1|exact hp.fl|(have:=hp.u;omega)|exact Fq _ _ hp.e|exact (J0 hp.v hp.k1 hp.u.1.2 (by with_reducible assumption)).1|exact (J0 hp.v hp.k1 hp.u.1.2 (by with_reducible assumption)).2|((first|have Q:=a4M (p:=p) (k:=k) (e:=e) (s:=s) (.inl (by with_reducible assumption))|have Q:=a4M (p:=p) (k:=k) (e:=e) (s:=s) (.inr (by with_reducible assumption))|have Q:=a4N (p:=p) (k:=k) (e:=e) (s:=s) (a7a (by omega))|have Q:=a4N (p:=p) (k:=k) (e:=e) (s:=s) (a7b (by omega)));first|exact Q.1|exact Q.2|exact Q.1.symm|exact Q.2.symm)|(have A:Ad p k e s:=⟨(by with_reducible assumption),(by with_reducible assumption),by omega,by omega⟩;first|exact (IA A.t A.a).1|exact (IA A.t A.a).2|((first|have Q:=(A.c3 (.inl (by with_reducible assumption)))|have Q:=(A.c3 (.inr (by with_reducible assumption))));first|exact Q.1|exact Q.2|exact Q.1.symm|exact Q.2.symm)|(have B:=A.s1 (by with_reducible assumption) (by with_reducible assumption) (by with_reducible assumption);first|exact B.sz|((first|have Q:=(B.c6 (by with_reducible assumption))|have Q:=(B.c4 (by with_reducible assumption) (by with_reducible assumption) (by with_reducible assumption))|have Q:=(B.go (by with_reducible assumption)));first|exact Q.1|exact Q.2|exact Q.1.symm|exact Q.2.symm))|(have B:=A.s0 (by with_reducible assumption) (by with_reducible assumption) (by with_reducible assumption);first|exact B.sz|((first|have Q:=(B.c6 (by with_reducible assumption))|have Q:=(B.c4 (by with_reducible assumption) (by with_reducible assumption) (by with_reducible assumption))|have Q:=(B.go (by with_reducible assumption)));first|exact Q.1|exact Q.2|exact Q.1.symm|exact Q.2.symm)))|exact (IA (by omega) (by omega)).1|exact (IA (by omega) (by omega)).2)
structure InQ(c f:ag):Prop where
 c1:bg 62 62 c.left=true
 f1:bg 62 62 f.left=true
 f2:bg 62 62 f.right=true
abbrev fQ(f:ag):au:=au.mk f.left f.right
def InQ.x{c f:ag}(h:InQ c f)(h2:pR (au.mk f.left f.right)=true)(h3:(Av (au.mk f.left f.right)).aq=7):(Av (au.mk f.left f.right)).M.length=2:=by
 have e:=(Ra h2).2.1;rw[e] at h3 ⊢;unfold pR at h2;simp only[Bool.and_eq_true,decide_eq_true_eq] at h2;exact Ks ((X6 (q:=fQ f) h.f1 h2.1.1).2.2 h2.1.2).2 (.inr h3)
def in_1{c f:ag}(h:pR (au.mk f.left f.right)=false):vJ c f=false:=by unfold vJ;rw[h];rfl
def b0Y{c f:ag}(h:¬ (Av (au.mk f.left f.right)).aq=7):vJ c f=false:=by unfold vJ;rw[decide_eq_false h,Bool.and_false];rfl
def b3M{c f:ag}(h:pR (au.mk f.left f.right)=true)(h3:(Av (au.mk f.left f.right)).aq=7)(h2:c.aM=2):vJ c f=(bH ((Av (au.mk f.left f.right)).M.getD 1 zE) (Oy (au.mk f.left f.right))&&(bH c.left (J.mk 6 0 [J.mk 7 0 [J.mk 8 0 [(Av (au.mk f.left f.right)).M.getD 0 zE],Va (au.mk f.left f.right)],Oy (au.mk f.left f.right)])&&bH c.right (Oy (au.mk f.left f.right)))):=by
 have e:=(Ra h).2.2;unfold vJ a5l inW;rw[h,decide_eq_true h3,if_pos h2,if_pos h2,e];simp only[Bool.true_and,Bool.and_assoc]
def b3N{c f:ag}(h:pR (au.mk f.left f.right)=true)(h3:(Av (au.mk f.left f.right)).aq=7)(h2:¬ c.aM=2):vJ c f=(bH ((Av (au.mk f.left f.right)).M.getD 0 zE) (Oy (au.mk f.left f.right))&&(bH c.left (J.mk 6 0 [J.mk 7 0 [Va (au.mk f.left f.right),J.mk 8 0 [(Av (au.mk f.left f.right)).M.getD 1 zE]],Oy (au.mk f.left f.right)])&&bH c.right (Oy (au.mk f.left f.right)))):=by
 have e:=(Ra h).2.2;unfold vJ a5l inW;rw[h,decide_eq_true h3,if_neg h2,if_neg h2,e];simp only[Bool.true_and,Bool.and_assoc]
def DN:aN:=⟨Ee,[.v (.st .claim), .v (.st .claim)],λ (c:ag) (f:ag)=>⟨(some (InQ c f),[⟨.bool,vJ c f⟩])⟩⟩
def Sl(c:ag)(f:ag):Nat->aA:=bJ
abbrev yN(c:ag)(f:ag):Prop:=((false=true ->
 (bH c.right (aI (Oy (au.mk (aI f.left) (aI f.right)))))=(vJ c f))/\(false=(!true) ->
 false=(vJ c f)))
abbrev yO(c:ag)(f:ag):Prop:=(let v0:=au.mk (aI f.left) (aI f.right);let v3:=aI (Oy v0);let v4:=Av v0;let v5:=v4.M.getD 1 zE;let v2:=bH c.left (J.mk (6:Int) 0 ([(aI (J.mk (7:Int) 0 ([(aI (Va v0)),(J.mk (8:Int) 0 ([v5]))]))),v3]));let v6:=v4.M.getD 0 zE;let v1:=bH c.left (J.mk (6:Int) 0 ([(aI (J.mk (7:Int) 0 ([(J.mk (8:Int) 0 ([v6])),(aI (Va v0))]))),v3]));(O c.aM ->
 (((decide (c.aM=(2:Int)))=true ->
 (ak (1:Int) v4.M.length/\(v4.M.length<=140737488355328 ->
 (ak (0:Int) v4.M.length/\(v4.M.length<=140737488355328 ->
 (((bH v5 v3)=true ->
 ((v1=true ->
 (bH c.right v3)=(vJ c f))/\(v1=(!true) ->
 false=(vJ c f))))/\((bH v5 v3)=(!true) ->
 (yN c f))))))))/\((decide (c.aM=(2:Int)))=false ->
 (ak (0:Int) v4.M.length/\(v4.M.length<=140737488355328 ->
 (ak (1:Int) v4.M.length/\(v4.M.length<=140737488355328 ->
 (((bH v6 v3)=true ->
 ((v2=true ->
 (bH c.right v3)=(vJ c f))/\(v2=(!true) ->
 false=(vJ c f))))/\((bH v6 v3)=(!true) ->
 (yN c f)))))))))))
def KX:aN.Good DN:=by
 refine⟨ar AF,?_⟩;intro (c:ag) (f:ag) (hp:InQ c f);refine aX [Gk,Fs,jC] [] [] [2,3,42,45,58,60,68] ⟨M8,Ga,jj,ae⟩ AF KC (Sl c f) (let v0:=au.mk (aI f.left) (aI f.right);let v1 := !(decide ((Av v0).aq=(7:Int)));((bg 62 62 v0.left=true/\(((!(pR v0))=false->(O (Av v0).aq->((v1=true->false=(vJ c f))/\(v1=false->(yO c f)))))/\((!(pR v0))=(!false)->((true=true->false=(vJ c f))/\(true=false->(yO c f)))))))) ?_;refine⟨?_,λ _ _=>⟨λ _=>?_,λ _ _=>⟨λ _=>⟨?_,λ _=>⟨?_,λ _=>⟨λ _=>⟨λ _=>?_,λ _=>?_⟩,λ _=>⟨λ _=>?_,λ _=>?_⟩⟩⟩⟩,λ _=>⟨?_,λ _=>⟨?_,λ _=>⟨λ _=>⟨λ _=>?_,λ _=>?_⟩,λ _=>⟨λ _=>?_,λ _=>?_⟩⟩⟩⟩⟩⟩,λ _=>⟨λ _=>?_,λ _ _=>⟨λ _=>⟨?_,λ _=>⟨?_,λ _=>⟨λ _=>⟨λ _=>?_,λ _=>?_⟩,λ _=>⟨λ _=>?_,λ _=>?_⟩⟩⟩⟩,λ _=>⟨?_,λ _=>⟨?_,λ _=>⟨λ _=>⟨λ _=>?_,λ _=>?_⟩,λ _=>⟨λ _=>?_,λ _=>?_⟩⟩⟩⟩⟩⟩⟩;all_goals try and_intros
 all_goals try (first|with_reducible rfl|with_reducible assumption)
 all_goals try simp only[J.eta,ag.eta,au.eta,aK,br,bL] at *
 all_goals first|with_reducible rfl|with_reducible assumption|exact True.intro|(simp only[b4V,b4U,b4T,b4R] at *;done)|((try simp only[b5q,J.eta,b4N,b4M,b4T,b4R,b5a,b5k,ak,O,bc,b5f,b4Y,b5j,b5g,b5n] at *);first|exact True.intro|omega|exact hp.f1|(have:=hp.x (by with_reducible assumption) (by with_reducible assumption);omega)|exact in_1 (by with_reducible assumption)|exact (in_1 (by with_reducible assumption)).symm|exact b0Y (by with_reducible assumption)|exact (b0Y (by with_reducible assumption)).symm|(rw[b3M (by with_reducible assumption) (by with_reducible assumption) (by with_reducible assumption)];simp only[*,b6B,b6e,b6n,b6j];done)|(rw[b3N (by with_reducible assumption) (by with_reducible assumption) (by with_reducible assumption)];simp only[*,b6B,b6e,b6n,b6j];done))
def a6Z{p:ai}{k:Int}{e:J}{s:U}(h:iT p k e s=0):cE p.sig (kI p k e s)=true:=by
 unfold kI;rw[if_pos h];unfold iT at h;cases h1 : !(ph k s.use&&eC e s.path)<;>rw[h1] at h
 .cases h2 : !apF (dA p k s.use) s<;>rw[h2] at h
  .cases h3 : !VH p.sig (dA p k s.use) s<;>rw[h3] at h
   .cases h4 : !bH (dM e s.path) (apX (dA p k s.use) s)<;>rw[h4] at h
    .simp only[cond_false] at h;unfold pQ at h;cases h5:eC e s.path<;>rw[h5] at h
     .cases h
     .cases h6:o7 e s.path && !bq (VI (dA p k s.use) s)<;>rw[h6] at h
      .cases h7:cE p.sig (fV (VI (dA p k s.use) s) e s.path)<;>rw[h7] at h;cases h
      .cases h
    .cases h
   .cases h
  .cases h
 .cases h
structure Hb(p:ai)(k:Int):Prop where
 v:pU p
 k0:0<=k
 k1:k<(p.af.length:Int)
def Hb.b{p:ai}{k:Int}(h:Hb p k):cE p.sig (bQ p k).left=true/\cE p.sig (bQ p k).right=true/\(1<=(bQ p k).aM/\(bQ p k).aM<=3)/\(0<=(bQ p k).ref/\(bQ p k).ref<=39)/\(bQ p k).steps.length<=60/\bu (lM p.sig) (bQ p k).steps=true:=h.v.e h.k0 h.k1
def Ir(p:ai)(i:Int):p.af.getD i.toNat (ag.mk zE zE (0:Int) (0:Int) [])=bQ p i:=rfl
structure CM(p:ai)(k:Int)(j:Nat):Prop where
 h:Hb p k
 r:(bQ p k).aM=1
 jl:j<=(bQ p k).steps.length
 o:YW p k j=true
 e:cE p.sig (lL p k j)=true
def JT{p:ai}{k:Int}(h:¬ (bQ p k).aM=1):ik p k=(decide ((bQ p k).ref<k)&&vJ (bQ p k) (bQ p (bQ p k).ref)):=by unfold ik;rw[if_neg h]
def Hb.i{p:ai}{k:Int}(h:Hb p k)(h2:(bQ p k).ref<k):InQ (bQ p k) (bQ p (bQ p k).ref)/\0<=(bQ p k).ref/\(bQ p k).ref<(p.af.length:Int):=by
 have b:=h.b.2.2.2.1;have:=h.k1;exact⟨⟨(h.v.t h.k0 h.k1).1,(h.v.t (i:=(bQ p k).ref) b.1 (by omega)).1,(h.v.t (i:=(bQ p k).ref) b.1 (by omega)).2⟩,b.1,by omega⟩
def Hb.z{p:ai}{k:Int}(h:Hb p k)(h2:(bQ p k).aM=1):CM p k 0:=⟨h,h2,b5Y _,rfl,h.b.1⟩
def a2H{p:ai}{k:Int}{j:Nat}(h:YW p k (j+1)=false):∀ n,j<n->YW p k n=false
 | 0,hn=>by omega
 | n+1,hn=>by
  rcases b5Q j n with g|g
  .rw[YW,a2H h n g];rfl
  .have:j=n:=by omega
   subst this;exact h
def CM.ap{p:ai}{k:Int}{j:Nat}(h:CM p k j)(hj:j<(bQ p k).steps.length):Rt p k (lL p k j) ((bQ p k).steps.getD j (U.mk (0:Int) false [] [] [])) :=
 ⟨h.h.v,h.h.k0,by have:=h.h.k1;omega,h.e,rM _ _ _ _ h.h.b.2.2.2.2.2 hj⟩
def CM.no{p:ai}{k:Int}{j:Nat}(h:CM p k j)(hj:j<(bQ p k).steps.length)(hc:¬ iT p k (lL p k j) ((bQ p k).steps.getD j (U.mk (0:Int) false [] [] []))=0):ik p k=false:=by
 unfold ik;rw[if_pos h.r,a2H (j:=j) (by rw[YW,decide_eq_false hc,Bool.and_false]) _ hj];rfl
def CM.next{p:ai}{k:Int}{j:Nat}(h:CM p k j)(hj:j<(bQ p k).steps.length)(hc:iT p k (lL p k j) ((bQ p k).steps.getD j (U.mk (0:Int) false [] [] []))=0):CM p k (j+1) :=
 ⟨h.h,h.r,hj,by rw[YW,h.o,b5B hc];rfl,by rw[lL];exact a6Z hc⟩
def CM.end{p:ai}{k:Int}{j:Nat}(h:CM p k j)(hj:(bQ p k).steps.length<=j):ik p k=bH (lL p k j) (bQ p k).right:=by
 have:(bQ p k).steps.length=j:=by have:=h.jl;omega
 unfold ik;rw[if_pos h.r,this,h.o];rfl
def b1b(p:ai)(k:Int):lL p k 0=(bQ p k).left:=rfl
def a5C(p:ai)(k:Int)(j:Nat):lL p k (j+1)=kI p k (lL p k j) ((bQ p k).steps.getD j (U.mk (0:Int) false [] [] [])):=rfl
structure xF(p:ai)(k:Nat):Prop where
 v:pU p
 kl:k<=p.af.length
 a:Y7 (λ k=>ik p (k:Int)) k=true
def xF.zero{p:ai}(h:pU p):xF p 0:=⟨h,b5Y _,rfl⟩
def xF.sh{p:ai}{k:Nat}(h:xF p k)(hk:k<p.af.length):Hb p (k:Int):=⟨h.v,by omega,by omega⟩
def xF.next{p:ai}{k:Nat}(h:xF p k)(hk:k<p.af.length)(hb:ik p (k:Int)=true):xF p (k+1):=⟨h.v,hk,by rw[Y7,h.a,hb];rfl⟩
def xF.no{p:ai}{k:Nat}(h:xF p k)(hk:k<p.af.length)(hb:ik p (k:Int)=false):(Am p:Int)=(k:Int):=by
 unfold Am;rw[a5d (λ k=>ik p (k:Int)) k h.a hb _ hk]
def xF.end{p:ai}{k:Nat}(h:xF p k)(hk:p.af.length<=k):(Am p:Int)=(p.af.length:Int):=by
 have:k=p.af.length:=by have:=h.kl;omega
 subst this;unfold Am;rw[Wn (λ k=>ik p (k:Int)) _ h.a]
def IF:aN.Good oZ:=HI.plain
def Gj:aN:=⟨GN,[.v (.st .proof), .v (.int .i64)],λ (p:ai) (k:Int)=>⟨(some (Hb p k),[⟨.bool,ik p k⟩])⟩⟩
def Uu(p:ai)(k:Int):Nat->aA:=(cQ 0 (.a (Nat) (λ j=>CM p k j) (λ j=>(bQ p k).steps.length - j) [0,11,12,13,14,15,16,17,18,33,34,35] (λ j=>[(38, .aH ⟨(.int .i64),((j:Int):Int)⟩)]) [5] (λ j=>[(6, .box [.aH ⟨(.int .i64),((lL p k j).aq:Int)⟩, .aH ⟨(.int .i64),((lL p k j).aS:Int)⟩, .aH ⟨(.slice (.st .expr)),((lL p k j).M:List J)⟩])])) bJ)
abbrev A5(p:ai)(k:Int):Prop:=(let v0:=p.af.getD (Int.toNat k) (ag.mk zE zE (0:Int) (0:Int) []);((v0.left.aq=v0.left.aq/\(v0.left.aS=v0.left.aS/\(v0.left.M=v0.left.M/\(v0.right.aq=v0.right.aq/\(v0.right.aS=v0.right.aS/\(v0.right.M=v0.right.M/\(v0.aM=v0.aM/\(v0.ref=v0.ref/\(v0.steps=v0.steps/\True)))))))))/\True))
def M7:aN.Good Gj:=by
 refine⟨ar CT,?_⟩;intro (p:ai) (k:Int) (hp:Hb p k);refine aX [DN,oZ,jC] [] [] [2] ⟨KX,IF,jj,ae⟩ CT Mx (Uu p k) (let v6:=(0:Int);let v1:=U.mk v6 false [] [] [];let v3:=ag.mk zE zE v6 v6 [];let v0:=p.af.getD (Int.toNat k) v3;let v2:=(v0.steps.length:Int);let v4:=p.af.getD (Int.toNat v0.ref) v3;let v5 := !(decide (v0.aM=(1:Int)));((p.af.length<=140737488355328->(ak k p.af.length/\(O v0.aM->((v5=true->(((decide (v0.ref<k))=true->(ak v0.ref p.af.length/\(O v0.ref->(p.af.length<=140737488355328->(O v0.ref->(InQ (qb v0) v4/\(vJ (qb v0) v4)=(ik p k)))))))/\((decide (v0.ref<k))=(!true)->(O v0.ref->false=(ik p k)))))/\(v5=false->(v0.steps.length<=140737488355328->(O v2->((∃ j1:Nat,(CM p k j1/\((k=k/\(p=p/\(True/\(True/\(v0.steps=v0.steps/\(v2=v2/\(v6=(j1:Int)/\True)))))))/\((v0.left.aq=((lL p k j1).aq)/\(v0.left.aS=((lL p k j1).aS)/\(v0.left.M=((lL p k j1).M)/\True)))/\(A5 p k)))))/\(∀ j1:Nat,let v7:=J.mk ((lL p k j1).aq) ((lL p k j1).aS) ((lL p k j1).M);let v8:=v0.steps.getD j1 v1;let v9 := !(decide ((iT p k v7 v8)=v6));(CM p k j1->(((decide ((j1:Int)<v2))=true->(ak (j1:Int) v0.steps.length/\(Rt p k v7 v8/\(O (iT p k v7 v8)->((v9=true->false=(ik p k))/\(v9=false->(O ((j1:Int)+(1:Int))/\(∃ j2:Nat,(CM p k j2/\((bQ p k).steps.length - j2<(bQ p k).steps.length - j1/\((k=k/\(p=p/\(True/\(True/\(v0.steps=v0.steps/\(v2=v2/\(((j1:Int)+(1:Int))=(j2:Int)/\True)))))))/\(((kI p k v7 v8).aq=((lL p k j2).aq)/\((kI p k v7 v8).aS=((lL p k j2).aS)/\((kI p k v7 v8).M=((lL p k j2).M)/\True)))/\(A5 p k)))))))))))))/\((decide ((j1:Int)<v2))=false->(bH v7 (aI v0.right))=(ik p k))))))))))))))) ?_;refine λ _=>⟨?_,λ _=>⟨λ _=>⟨λ _=>⟨?_,λ _ _ _=>⟨?_,?_⟩⟩,λ _ _=>?_⟩,λ _ _ _=>⟨⟨0,?_,⟨rfl,rfl,ae,ae,rfl,rfl,?_,ae⟩,⟨?_,?_,?_,ae⟩,⟨rfl,rfl,rfl,rfl,rfl,rfl,rfl,rfl,rfl,ae⟩,ae⟩,λ j1 _=>⟨λ _=>⟨?_,?_,λ _=>⟨λ _=>?_,λ _=>⟨?_,j1+1,?_,?_,⟨rfl,rfl,ae,ae,rfl,rfl,?_,ae⟩,⟨?_,?_,?_,ae⟩,⟨rfl,rfl,rfl,rfl,rfl,rfl,rfl,rfl,rfl,ae⟩,ae⟩⟩⟩,λ _=>?_⟩⟩⟩⟩;all_goals try and_intros
 all_goals try (first|with_reducible rfl|with_reducible assumption)
 all_goals try simp only[J.eta,ag.eta,au.eta,aK,br,bL] at *
 all_goals first|with_reducible rfl|with_reducible assumption|exact True.intro|(simp only[b4V,b4U,b4T,b4R] at *;done)|((try simp only[b5q,J.eta,b4N,b4M,b4T,b4R,b5a,b5k,ak,O,bc,b5f,b4Y,b5j,b5g,b5n] at *);(try simp only[Ir] at *);first|with_reducible exact True.intro|omega|(rw[b1b];done)|exact hp.k0|exact hp.k1|(have:=hp.k1;have:=hp.k0;omega)|exact (hp.i (by omega)).1|(have:=(hp.i (by omega)).2;omega)|exact hp.z (by with_reducible assumption)|exact hp.z (by omega)|(rw[JT (by with_reducible assumption)];simp only[*,b6B,b6e,b6n,b6j];done)|(rw[JT (by with_reducible assumption),b5B (by omega),b6e];done)|(rw[JT (by with_reducible assumption),b5c (by omega),b6j];done)|(have h:CM p k j1:=(by with_reducible assumption);first|exact h.ap (by omega)|exact h.no (by omega) (by with_reducible assumption)|exact (h.no (by omega) (by with_reducible assumption)).symm|exact h.end (by omega)|exact (h.end (by omega)).symm|exact h.next (by omega) (by with_reducible assumption)|(rw[a5C];done)|exact congrArg _ (a5C _ _ _).symm|(have:=h.jl;omega)))
def Gg:aN:=⟨GL,[.v (.st .proof)],λ (p:ai)=>⟨(some (pU p),[⟨(.int .i64),(Am p:Int)⟩])⟩⟩
def Us(p:ai):Nat->aA:=(cQ 0 (.b (Nat) (λ k=>xF p k) (λ k=>p.af.length - k) [0,4,5] (λ k=>[(7, .aH ⟨(.int .i64),((k:Int):Int)⟩)])) bJ)
def M5:aN.Good Gg:=by
 refine⟨ar CQ,?_⟩;intro (p:ai) (hp:pU p);refine aX [Gj] [] [] [1] ⟨M7,ae⟩ CQ Mv (Us p) (let v0:=(p.af.length:Int);((p.af.length<=140737488355328->(O v0->((∃ k1:Nat,(xF p k1/\((p=p/\(v0=v0/\((0:Int)=(k1:Int)/\True)))/\True)))/\(∀ k1:Nat,let v1:=(k1:Int);(xF p k1->(((decide (v1<v0))=true->(Hb p v1/\(((!(ik p v1))=true->v1=(Am p:Int))/\((!(ik p v1))=false->(O (v1+(1:Int))/\(∃ k2:Nat,(xF p k2/\(p.af.length - k2<p.af.length - k1/\((p=p/\(v0=v0/\((v1+(1:Int))=(k2:Int)/\True)))/\True)))))))))/\((decide (v1<v0))=false->(p.af.length<=140737488355328->(O v0->v0=(Am p:Int)))))))))))) ?_;refine λ _ _=>⟨⟨0,?_,⟨rfl,rfl,?_,ae⟩,ae⟩,λ k1 _=>⟨λ _=>⟨?_,λ _=>?_,λ _=>⟨?_,k1+1,?_,?_,⟨rfl,rfl,?_,ae⟩,ae⟩⟩,λ _ _ _=>?_⟩⟩;all_goals try and_intros
 all_goals first|with_reducible rfl|with_reducible assumption|exact True.intro|(simp only[b4V,b4U,b4T,b4R] at *;done)|((try simp only[b5q,J.eta,b4N,b4M,b4T,b4R,b5a,b5k,ak,O,bc,b5f,b4Y,b5j,b5g,b5n] at *);first|exact True.intro|omega|exact xF.zero (by with_reducible assumption)|(have h:xF p k1:=(by with_reducible assumption);first|exact h.sh (by omega)|exact h.no (by omega) (by with_reducible assumption)|exact (h.no (by omega) (by with_reducible assumption)).symm|exact h.end (by omega)|exact (h.end (by omega)).symm|exact h.next (by omega) (by with_reducible assumption)|(have:=h.kl;omega)))
def QS{gg:aW}(h:bP gg=true)(x:J):As gg x=cE gg x:=by unfold As;rw[h];rfl
def b3L(x:Int):decide (0<=x/\x<=1)=wE 2 x:=rfl
def a3U(n m:Int):decide (n<=m) = !decide (m<n):=by
 by_cases h:n<=m
 .rw[b5B h,b5c (by omega)];rfl
 .rw[b5c h,b5B (by omega)];rfl
def stG(s:U):Bool:=decide (-40<=s.use/\s.use<=23)&&(!decide (40<(s.path.length:Int))&&(!decide (3<(s.aw.length:Int)) && !decide (4<(s.bd.length:Int))))
def a0Z(gg:aW)(s:U):lM gg s=(stG s&&(bu (wE 2) s.path&&(bu (cE gg) s.aw&&(bu bq s.aw&&bu (cE gg) s.bd)))):=by
 unfold lM stG;rw[a3U (s.path.length:Int) 40,a3U (s.aw.length:Int) 3,a3U (s.bd.length:Int) 4];cases decide (-40<=s.use/\s.use<=23)<;>cases decide (40<(s.path.length:Int))<;>cases decide (3<(s.aw.length:Int))<;>cases decide (4<(s.bd.length:Int))<;>cases bu (wE 2) s.path<;>cases bu (cE gg) s.aw<;>cases bu bq s.aw<;>cases bu (cE gg) s.bd<;>rfl
structure lO{α:Type}(f:α->Bool)(xs:List α)(k:Nat):Prop where
 le:k<=xs.length
 al:bu f (xs.take k)=true
def lO.zero{α:Type}(f:α->Bool)(xs:List α):lO f xs 0:=⟨b5Y _,all_zero f xs⟩
def lO.next{α:Type}{f:α->Bool}{xs:List α}{k:Nat}(h:lO f xs k)(z:α)(hk:k<xs.length)(hb:f (xs.getD k z)=true):lO f xs (k+1):=⟨hk,by rw[dj f z xs k hk,h.al,hb];rfl⟩
def lO.bad{α:Type}{f:α->Bool}{xs:List α}{k:Nat}(_:lO f xs k)(z:α)(hk:k<xs.length)(hb:f (xs.getD k z)=false):bu f xs=false:=dK f z xs k hk hb
def lO.done{α:Type}{f:α->Bool}{xs:List α}{k:Nat}(h:lO f xs k)(hk:xs.length<=k):bu f xs=true:=by
 have:=h.al;rwa [b5o hk] at this
def rF:aN:=⟨rL,[.v (.slice (.st .expr))],λ (xs:List J)=>⟨(none,[⟨.bool,bu bq xs⟩])⟩⟩
def HB(xs:List J):Nat->aA:=(cQ 0 (.b (Nat) (λ k=>lO bq xs k) (λ k=>xs.length - k) [] (λ k=>[(3, .aH ⟨(.int .i64),((k:Int):Int)⟩)])) bJ)
def Cg:aN.Good rF:=by
 refine⟨ar pZ,?_⟩;intro (xs:List J) _;refine aX [iI] [] [] [] ⟨jz,ae⟩ pZ BZ (HB xs) (let v0:=(xs.length:Int);(((∃ k1:Nat,(lO bq xs k1/\((xs=xs/\((0:Int)=(k1:Int)/\True))/\True)))/\(∀ k1:Nat,(lO bq xs k1->(O v0->(((decide ((k1:Int)<v0))=true->(ak (k1:Int) xs.length/\(((!(bq (xs.getD k1 zE)))=true->false=(bu bq xs))/\((!(bq (xs.getD k1 zE)))=false->(O ((k1:Int)+(1:Int))/\(∃ k2:Nat,(lO bq xs k2/\(xs.length - k2<xs.length - k1/\((xs=xs/\(((k1:Int)+(1:Int))=(k2:Int)/\True))/\True)))))))))/\((decide ((k1:Int)<v0))=false->true=(bu bq xs))))))))) ?_;refine⟨⟨0,?_,⟨rfl,?_,ae⟩,ae⟩,λ k1 _ _=>⟨λ _=>⟨?_,λ _=>?_,λ _=>⟨?_,k1+1,?_,?_,⟨rfl,?_,ae⟩,ae⟩⟩,λ _=>?_⟩⟩;all_goals try and_intros
 all_goals first|with_reducible rfl|with_reducible assumption|exact True.intro|(simp only[b4V,b4U,b4T,b4R] at *;done)|((try simp only[b5q,J.eta,b4N,b4M,b4T,b4R,b5a,b5k,ak,O,bc,b5f,b4Y,b5j,b5g,b5n] at *);  first|with_reducible exact True.intro|omega|exact lO.zero _ _|(have h:lO bq xs k1:=(by with_reducible assumption);first|exact h.bad _ (by omega) (by with_reducible assumption)|exact (h.bad _ (by omega) (by with_reducible assumption)).symm|exact h.done (by omega)|exact (h.done (by omega)).symm|exact h.next _ (by omega) (by with_reducible assumption)|(have:=h.le;omega)))
def DZ:aN:=⟨Et,[.v (.st .sig), .v (.slice (.st .expr))],λ (gg:aW) (xs:List J)=>⟨(some (bP gg=true),[⟨.bool,bu (cE gg) xs⟩])⟩⟩
def Sy(gg:aW)(xs:List J):Nat->aA:=(cQ 0 (.b (Nat) (λ k=>lO (cE gg) xs k) (λ k=>xs.length - k) [0] (λ k=>[(5, .aH ⟨(.int .i64),((k:Int):Int)⟩)])) bJ)
def La:aN.Good DZ:=by
 refine⟨ar AT,?_⟩;intro (gg:aW) (xs:List J) (hp:bP gg=true);refine aX [s5] [] [] [2] ⟨mQ,ae⟩ AT KS (Sy gg xs) (let v0:=(xs.length:Int);(((∃ k1:Nat,(lO (cE gg) xs k1/\((xs=xs/\(gg=gg/\((0:Int)=(k1:Int)/\True)))/\True)))/\(∀ k1:Nat,(lO (cE gg) xs k1->(O v0->(((decide ((k1:Int)<v0))=true->(ak (k1:Int) xs.length/\(((!(As gg (xs.getD k1 zE)))=true->false=(bu (cE gg) xs))/\((!(As gg (xs.getD k1 zE)))=false->(O ((k1:Int)+(1:Int))/\(∃ k2:Nat,(lO (cE gg) xs k2/\(xs.length - k2<xs.length - k1/\((xs=xs/\(gg=gg/\(((k1:Int)+(1:Int))=(k2:Int)/\True)))/\True)))))))))/\((decide ((k1:Int)<v0))=false->true=(bu (cE gg) xs))))))))) ?_;have ok:=QS hp;refine⟨⟨0,?_,⟨rfl,rfl,?_,ae⟩,ae⟩,λ k1 _ _=>⟨λ _=>⟨?_,λ _=>?_,λ _=>⟨?_,k1+1,?_,?_,⟨rfl,rfl,?_,ae⟩,ae⟩⟩,λ _=>?_⟩⟩;all_goals try and_intros
 all_goals first|with_reducible rfl|with_reducible assumption|exact True.intro|(simp only[b4V,b4U,b4T,b4R] at *;done)|((try simp only[b5q,J.eta,b4N,b4M,b4T,b4R,b5a,b5k,ak,O,bc,b5f,b4Y,b5j,b5g,b5n] at *);(try simp only[ok] at *);first|with_reducible exact True.intro|omega|exact lO.zero _ _|(have h:lO (cE gg) xs k1:=(by with_reducible assumption);first|exact h.bad _ (by omega) (by with_reducible assumption)|exact (h.bad _ (by omega) (by with_reducible assumption)).symm|exact h.done (by omega)|exact (h.done (by omega)).symm|exact h.next _ (by omega) (by with_reducible assumption)|(have:=h.le;omega)))
structure StJ(gg:aW)(s:U)(j:Nat):Prop where
 t:lO (wE 2) s.path j
 g:stG s=true
def b2s{gg:aW}{s:U}(h:stG s=false):lM gg s=false:=by rw[a0Z,h];rfl
def StJ.bad{gg:aW}{s:U}{j:Nat}(h:StJ gg s j)(hj:j<s.path.length)(hb:wE 2 (s.path.getD j 0)=false):lM gg s=false:=by rw[a0Z,h.t.bad 0 hj hb,b6j,b6n]
def StJ.end{gg:aW}{s:U}{j:Nat}(h:StJ gg s j)(hj:s.path.length<=j):lM gg s=(bu (cE gg) s.aw&&(bu bq s.aw&&bu (cE gg) s.bd)):=by rw[a0Z,h.g,h.t.done hj];rfl
def GB:aN:=⟨G6,[.v (.st .sig), .r (.st .proofStep)],λ (gg:aW) (s:U)=>⟨(some (bP gg=true),[⟨.bool,lM gg s⟩])⟩⟩
def UO(gg:aW)(s:U):Nat->aA:=(cQ 0 (.b (Nat) (λ j=>StJ gg s j) (λ j=>s.path.length - j) [0,6,7,8,9,10,11,12,13,14,15,16,17,18,19,20,21,22,23,24,25,26,27,28,29,30,31,32,33,34,35,36,37,38] (λ j=>[(5, .aH ⟨(.int .i64),((j:Int):Int)⟩)])) bJ)
abbrev qE(gg:aW)(s:U):Prop:=(let v0:=bP gg=true/\(bu (cE gg) s.bd)=(lM gg s);let v1:=(0:Int);let v2:=(s.path.length:Int);((∃ j1:Nat,(StJ gg s j1/\((s=s/\(gg=gg/\(v1=(j1:Int)/\True)))/\True)))/\(∀ j1:Nat,let v4:=s.path.getD j1 v1;let v3 := !(decide (v1<=v4/\v4<=(1:Int)));(StJ gg s j1 ->
 (s.path.length<=140737488355328 ->
 (O v2 ->
 (((decide ((j1:Int)<v2))=true ->
 (s.path.length<=140737488355328 ->
 (ak (j1:Int) s.path.length/\(O v4 ->
 (((v3=true) ->
 false=(lM gg s))/\((v3=false) ->
 (O ((j1:Int)+(1:Int))/\(∃ j2:Nat,(StJ gg s j2/\(s.path.length - j2<s.path.length - j1/\((s=s/\(gg=gg/\(((j1:Int)+(1:Int))=(j2:Int)/\True)))/\True)))))))))))/\((decide ((j1:Int)<v2))=false ->
 (bP gg=true/\(((bu (cE gg) s.aw)=true ->
 (((bu bq s.aw)=true ->
 (s.aw.length<=140737488355328 ->
 (s.aw.length<=140737488355328 ->
 (s.bd.length<=140737488355328 ->
 v0))))/\((bu bq s.aw)=(!true) ->
 (s.aw.length<=140737488355328 ->
 (s.aw.length<=140737488355328 ->
 false=(lM gg s))))))/\((bu (cE gg) s.aw)=(!true) ->
 ((false=true ->
 (s.aw.length<=140737488355328 ->
 (s.bd.length<=140737488355328 ->
 v0)))/\(false=(!true) ->
 (s.aw.length<=140737488355328 ->
 false=(lM gg s)))))))))))))))
abbrev Bd(gg:aW)(s:U):Prop:=(let v0:=decide ((4:Int)<((s.bd.length:Int)));(s.bd.length<=140737488355328 ->
 (O ((s.bd.length:Int)) ->
 ((v0=true ->
 false=(lM gg s))/\(v0=false ->
 (qE gg s))))))
abbrev Be(gg:aW)(s:U):Prop:=(let v0:=decide ((3:Int)<((s.aw.length:Int)));(s.aw.length<=140737488355328 ->
 (O ((s.aw.length:Int)) ->
 ((v0=false ->
 (Bd gg s))/\(v0=(!false) ->
 ((true=true ->
 false=(lM gg s))/\(true=false ->
 (qE gg s))))))))
abbrev Bf(gg:aW)(s:U):Prop:=((true=false ->
 (Bd gg s))/\(true=(!false) ->
 ((true=true ->
 false=(lM gg s))/\(true=false ->
 (qE gg s)))))
def Nu:aN.Good GB:=by
 refine⟨ar C6,?_⟩;intro (gg:aW) (s:U) (hp:bP gg=true);refine aX [gI,lj,DZ,rF] [] [] [2] ⟨jy,n7,La,Cg,ae⟩ C6 MQ (UO gg s) (let v1:=decide ((40:Int)<((s.path.length:Int)));let v2:=((oI).length:Int);let v0 := !(decide ((-40:Int)<=s.use/\s.use<=(v2 - (1:Int))));((O (v2 - (1:Int))/\(O s.use->((oI).length<=140737488355328->(O v2->(((v0=false)->(s.path.length<=140737488355328->(O ((s.path.length:Int))->((v1=false->(Be gg s))/\(v1=(!false)->(Bf gg s))))))/\((v0=(!false))->((true=false->(Be gg s))/\(true=(!false)->(Bf gg s))))))))))) ?_;have f0:(oI.length:Int) - 1=23:=by rw[n0];rfl
 refine⟨?_,λ _ _ _=>⟨λ _ _ _=>⟨λ _ _ _=>⟨λ _ _ _=>⟨λ _=>?_,λ _=>⟨⟨0,?_,⟨rfl,rfl,?_,ae⟩,ae⟩,λ j1 _ _ _=>⟨λ _ _=>⟨?_,λ _=>⟨λ _=>?_,λ _=>⟨?_,j1+1,?_,?_,⟨rfl,rfl,?_,ae⟩,ae⟩⟩⟩,λ _=>⟨?_,λ _=>⟨λ _ _ _ _=>⟨?_,?_⟩,λ _ _ _=>?_⟩,λ _=>⟨λ _ _ _=>⟨?_,?_⟩,λ _ _=>?_⟩⟩⟩⟩⟩,λ _=>⟨λ _=>?_,λ _=>⟨⟨0,?_,⟨rfl,rfl,?_,ae⟩,ae⟩,λ j1 _ _ _=>⟨λ _ _=>⟨?_,λ _=>⟨λ _=>?_,λ _=>⟨?_,j1+1,?_,?_,⟨rfl,rfl,?_,ae⟩,ae⟩⟩⟩,λ _=>⟨?_,λ _=>⟨λ _ _ _ _=>⟨?_,?_⟩,λ _ _ _=>?_⟩,λ _=>⟨λ _ _ _=>⟨?_,?_⟩,λ _ _=>?_⟩⟩⟩⟩⟩⟩,λ _=>⟨λ _ _ _=>⟨λ _=>?_,λ _=>⟨⟨0,?_,⟨rfl,rfl,?_,ae⟩,ae⟩,λ j1 _ _ _=>⟨λ _ _=>⟨?_,λ _=>⟨λ _=>?_,λ _=>⟨?_,j1+1,?_,?_,⟨rfl,rfl,?_,ae⟩,ae⟩⟩⟩,λ _=>⟨?_,λ _=>⟨λ _ _ _ _=>⟨?_,?_⟩,λ _ _ _=>?_⟩,λ _=>⟨λ _ _ _=>⟨?_,?_⟩,λ _ _=>?_⟩⟩⟩⟩⟩,λ _=>⟨λ _=>?_,λ _=>⟨⟨0,?_,⟨rfl,rfl,?_,ae⟩,ae⟩,λ j1 _ _ _=>⟨λ _ _=>⟨?_,λ _=>⟨λ _=>?_,λ _=>⟨?_,j1+1,?_,?_,⟨rfl,rfl,?_,ae⟩,ae⟩⟩⟩,λ _=>⟨?_,λ _=>⟨λ _ _ _ _=>⟨?_,?_⟩,λ _ _ _=>?_⟩,λ _=>⟨λ _ _ _=>⟨?_,?_⟩,λ _ _=>?_⟩⟩⟩⟩⟩⟩⟩,λ _=>⟨λ _ _ _=>⟨λ _ _ _=>⟨λ _=>?_,λ _=>⟨⟨0,?_,⟨rfl,rfl,?_,ae⟩,ae⟩,λ j1 _ _ _=>⟨λ _ _=>⟨?_,λ _=>⟨λ _=>?_,λ _=>⟨?_,j1+1,?_,?_,⟨rfl,rfl,?_,ae⟩,ae⟩⟩⟩,λ _=>⟨?_,λ _=>⟨λ _ _ _ _=>⟨?_,?_⟩,λ _ _ _=>?_⟩,λ _=>⟨λ _ _ _=>⟨?_,?_⟩,λ _ _=>?_⟩⟩⟩⟩⟩,λ _=>⟨λ _=>?_,λ _=>⟨⟨0,?_,⟨rfl,rfl,?_,ae⟩,ae⟩,λ j1 _ _ _=>⟨λ _ _=>⟨?_,λ _=>⟨λ _=>?_,λ _=>⟨?_,j1+1,?_,?_,⟨rfl,rfl,?_,ae⟩,ae⟩⟩⟩,λ _=>⟨?_,λ _=>⟨λ _ _ _ _=>⟨?_,?_⟩,λ _ _ _=>?_⟩,λ _=>⟨λ _ _ _=>⟨?_,?_⟩,λ _ _=>?_⟩⟩⟩⟩⟩⟩,λ _=>⟨λ _ _ _=>⟨λ _=>?_,λ _=>⟨⟨0,?_,⟨rfl,rfl,?_,ae⟩,ae⟩,λ j1 _ _ _=>⟨λ _ _=>⟨?_,λ _=>⟨λ _=>?_,λ _=>⟨?_,j1+1,?_,?_,⟨rfl,rfl,?_,ae⟩,ae⟩⟩⟩,λ _=>⟨?_,λ _=>⟨λ _ _ _ _=>⟨?_,?_⟩,λ _ _ _=>?_⟩,λ _=>⟨λ _ _ _=>⟨?_,?_⟩,λ _ _=>?_⟩⟩⟩⟩⟩,λ _=>⟨λ _=>?_,λ _=>⟨⟨0,?_,⟨rfl,rfl,?_,ae⟩,ae⟩,λ j1 _ _ _=>⟨λ _ _=>⟨?_,λ _=>⟨λ _=>?_,λ _=>⟨?_,j1+1,?_,?_,⟨rfl,rfl,?_,ae⟩,ae⟩⟩⟩,λ _=>⟨?_,λ _=>⟨λ _ _ _ _=>⟨?_,?_⟩,λ _ _ _=>?_⟩,λ _=>⟨λ _ _ _=>⟨?_,?_⟩,λ _ _=>?_⟩⟩⟩⟩⟩⟩⟩⟩⟩;all_goals try and_intros
 all_goals first|with_reducible rfl|with_reducible assumption|exact True.intro|(simp only[Bool.true_eq_false,Bool.false_eq_true,Bool.not_true,Bool.not_false] at *;done)|exact hp|(have e:=n0;clear f0;simp only[e];done)|(have e:=n0;omega)|((try simp only[f0,b3L,Bool.not_true,Bool.not_false,Bool.not_eq_true',Bool.not_eq_false'] at *);first|with_reducible exact True.intro|(refine (b2s ?_).symm;(unfold stG;simp only[*,Bool.and_true,Bool.true_and,Bool.and_false,Bool.false_and,Bool.not_true,Bool.not_false];done))|(refine⟨lO.zero _ _,?_⟩;(unfold stG;simp only[*,Bool.and_true,Bool.true_and,Bool.and_false,Bool.false_and,Bool.not_true,Bool.not_false];done))|(have h:StJ gg s j1:=(by with_reducible assumption);first|exact (h.bad (by simp only[decide_eq_true_eq,decide_eq_false_iff_not] at *;omega) (by with_reducible assumption)).symm|exact⟨h.t.next 0 (by simp only[decide_eq_true_eq,decide_eq_false_iff_not] at *;omega) (by with_reducible assumption),h.g⟩|(rw[h.end (by simp only[decide_eq_true_eq,decide_eq_false_iff_not] at *;omega)];simp only[*,Bool.and_true,Bool.true_and,Bool.and_false,Bool.false_and];done)|(have:=h.t.le;simp only[ak,O,bc,decide_eq_true_eq,decide_eq_false_iff_not] at *;omega))|(simp only[ak,O,bc,decide_eq_true_eq,decide_eq_false_iff_not] at *;omega))
structure T7(gg:aW)(c:ag)(j:Nat):Prop where
 t:lO (lM gg) c.steps j
 g:B1 gg c=true
def T7.bad{gg:aW}{c:ag}{j:Nat}(h:T7 gg c j)(hj:j<c.steps.length)(hb:lM gg (c.steps.getD j (U.mk (0:Int) false [] [] []))=false):lQ gg c=false:=by rw[E2,h.t.bad _ hj hb,b6n]
def T7.end{gg:aW}{c:ag}{j:Nat}(h:T7 gg c j)(hj:c.steps.length<=j):lQ gg c=true:=by rw[E2,h.g,h.t.done hj];rfl
def T7.zero{gg:aW}{c:ag}(g:B1 gg c=true):T7 gg c 0:=⟨lO.zero _ _,g⟩
def DX:aN:=⟨Ep,[.v (.st .sig), .r (.st .claim)],λ (gg:aW) (c:ag)=>⟨(some (bP gg=true),[⟨.bool,lQ gg c⟩])⟩⟩
def Sw(gg:aW)(c:ag):Nat->aA:=(cQ 100003 (.u (EF gg c) [0] [] [] [] (cQ 100005 (.u (B1 gg c=true) [] [] [] [] (cQ 0 (.b (Nat) (λ j=>T7 gg c j) (λ j=>c.steps.length - j) [] (λ j=>[(5, .aH ⟨(.int .i64),((j:Int):Int)⟩)])) bJ)) bJ)) bJ)
abbrev yU(gg:aW)(c:ag):Prop:=(let v0 := !(decide ((0:Int)<=c.ref/\c.ref<=(39:Int)));(O c.ref ->
 (((v0=true) ->
 false=(lQ gg c))/\((v0=false) ->
 (∃ u1:Unit,(EF gg c/\((c=c/\(gg=gg/\True))/\True)))))))
abbrev yV(gg:aW)(c:ag):Prop:=(let v0 := !(decide ((1:Int)<=c.aM/\c.aM<=(3:Int)));(O c.aM ->
 (((v0=false) ->
 (yU gg c))/\((v0=(!false)) ->
 ((true=true ->
 false=(lQ gg c))/\(true=false ->
 (∃ u1:Unit,(EF gg c/\((c=c/\(gg=gg/\True))/\True)))))))))
abbrev yW(gg:aW)(c:ag):Prop:=((true=false ->
 (yU gg c))/\(true=(!false) ->
 ((true=true ->
 false=(lQ gg c))/\(true=false ->
 (∃ u1:Unit,(EF gg c/\((c=c/\(gg=gg/\True))/\True)))))))
abbrev oW(gg:aW)(c:ag):Prop:=(let v0:=decide ((60:Int)<((c.steps.length:Int)));(c.steps.length<=140737488355328 ->
 (O ((c.steps.length:Int)) ->
 ((v0=true ->
 false=(lQ gg c))/\(v0=false ->
 (∃ u2:Unit,(B1 gg c=true/\((c=c/\(gg=gg/\True))/\True))))))))
abbrev yX(gg:aW)(c:ag):Prop:=(let v0:=B1 gg c=true/\((c=c/\(gg=gg/\True))/\True);let v1:=decide ((0:Int)<((c.steps.length:Int)));let v2 := !(decide (c.aM=(1:Int)));(O c.aM ->
 ((v2=true ->
 (c.steps.length<=140737488355328 ->
 (O ((c.steps.length:Int)) ->
 ((v1=false ->
 (oW gg c))/\(v1=(!false) ->
 ((true=true ->
 false=(lQ gg c))/\(true=false ->
 (∃ u2:Unit,v0))))))))/\(v2=(!true) ->
 ((false=false ->
 (oW gg c))/\(false=(!false) ->
 ((true=true ->
 false=(lQ gg c))/\(true=false ->
 (∃ u2:Unit,v0)))))))))
abbrev yY(gg:aW)(c:ag):Prop:=((true=false ->
 (oW gg c))/\(true=(!false) ->
 ((true=true ->
 false=(lQ gg c))/\(true=false ->
 (∃ u2:Unit,(B1 gg c=true/\((c=c/\(gg=gg/\True))/\True)))))))
def K8:aN.Good DX:=by
 refine⟨ar AQ,?_⟩;intro (gg:aW) (c:ag) (hp:bP gg=true);refine aX [s5,gI,GB] [] [] [2] ⟨mQ,jy,Nu,ae⟩ AQ KP (Sw gg c) (let v0:=(c.steps.length:Int);let v1:=U.mk (0:Int) false [] [] [];let v2 := !(decide (c.ref=(0:Int)));(((((!(As gg c.left))=false->(((!(As gg c.right))=false->(yV gg c))/\((!(As gg c.right))=(!false)->(yW gg c))))/\((!(As gg c.left))=(!false)->((true=false->(yV gg c))/\(true=(!false)->(yW gg c)))))/\(∀ u1:Unit,(EF gg c->((O c.aM->(((decide (c.aM=(1:Int)))=true->(O c.ref->((v2=false->(yX gg c))/\(v2=(!false)->(yY gg c)))))/\((decide (c.aM=(1:Int)))=(!true)->((false=false->(yX gg c))/\(false=(!false)->(yY gg c))))))/\(∀ u2:Unit,(B1 gg c=true->((∃ j3:Nat,(T7 gg c j3/\((c=c/\(gg=gg/\((0:Int)=(j3:Int)/\True)))/\True)))/\(∀ j3:Nat,let v3 := !(lM gg (c.steps.getD j3 v1));(T7 gg c j3->(c.steps.length<=140737488355328->(O v0->(((decide ((j3:Int)<v0))=true->(ak (j3:Int) c.steps.length/\(c.steps.length<=140737488355328->(bP gg=true/\((v3=true->false=(lQ gg c))/\(v3=false->(O ((j3:Int)+(1:Int))/\(∃ j4:Nat,(T7 gg c j4/\(c.steps.length - j4<c.steps.length - j3/\((c=c/\(gg=gg/\(((j3:Int)+(1:Int))=(j4:Int)/\True)))/\True)))))))))))/\((decide ((j3:Int)<v0))=false->true=(lQ gg c)))))))))))))))) ?_;have ok:=QS hp;refine⟨⟨λ _=>⟨λ _ _=>⟨λ _ _=>⟨λ _=>?_,λ _=>⟨(),?_,⟨rfl,rfl,ae⟩,ae⟩⟩,λ _=>⟨λ _=>?_,λ _=>⟨(),?_,⟨rfl,rfl,ae⟩,ae⟩⟩⟩,λ _=>⟨λ _ _=>⟨λ _=>?_,λ _=>⟨(),?_,⟨rfl,rfl,ae⟩,ae⟩⟩,λ _=>⟨λ _=>?_,λ _=>⟨(),?_,⟨rfl,rfl,ae⟩,ae⟩⟩⟩⟩,λ _=>⟨λ _ _=>⟨λ _ _=>⟨λ _=>?_,λ _=>⟨(),?_,⟨rfl,rfl,ae⟩,ae⟩⟩,λ _=>⟨λ _=>?_,λ _=>⟨(),?_,⟨rfl,rfl,ae⟩,ae⟩⟩⟩,λ _=>⟨λ _ _=>⟨λ _=>?_,λ _=>⟨(),?_,⟨rfl,rfl,ae⟩,ae⟩⟩,λ _=>⟨λ _=>?_,λ _=>⟨(),?_,⟨rfl,rfl,ae⟩,ae⟩⟩⟩⟩⟩,λ u1 _=>⟨λ _=>⟨λ _ _=>⟨λ _ _=>⟨λ _ _ _=>⟨λ _ _ _=>⟨λ _=>?_,λ _=>⟨(),?_,⟨rfl,rfl,ae⟩,ae⟩⟩,λ _=>⟨λ _=>?_,λ _=>⟨(),?_,⟨rfl,rfl,ae⟩,ae⟩⟩⟩,λ _=>⟨λ _ _ _=>⟨λ _=>?_,λ _=>⟨(),?_,⟨rfl,rfl,ae⟩,ae⟩⟩,λ _=>⟨λ _=>?_,λ _=>⟨(),?_,⟨rfl,rfl,ae⟩,ae⟩⟩⟩⟩,λ _=>⟨λ _ _ _=>⟨λ _=>?_,λ _=>⟨(),?_,⟨rfl,rfl,ae⟩,ae⟩⟩,λ _=>⟨λ _=>?_,λ _=>⟨(),?_,⟨rfl,rfl,ae⟩,ae⟩⟩⟩⟩,λ _=>⟨λ _ _=>⟨λ _ _ _=>⟨λ _ _ _=>⟨λ _=>?_,λ _=>⟨(),?_,⟨rfl,rfl,ae⟩,ae⟩⟩,λ _=>⟨λ _=>?_,λ _=>⟨(),?_,⟨rfl,rfl,ae⟩,ae⟩⟩⟩,λ _=>⟨λ _ _ _=>⟨λ _=>?_,λ _=>⟨(),?_,⟨rfl,rfl,ae⟩,ae⟩⟩,λ _=>⟨λ _=>?_,λ _=>⟨(),?_,⟨rfl,rfl,ae⟩,ae⟩⟩⟩⟩,λ _=>⟨λ _ _ _=>⟨λ _=>?_,λ _=>⟨(),?_,⟨rfl,rfl,ae⟩,ae⟩⟩,λ _=>⟨λ _=>?_,λ _=>⟨(),?_,⟨rfl,rfl,ae⟩,ae⟩⟩⟩⟩⟩,λ u2 _=>⟨⟨0,?_,⟨rfl,rfl,?_,ae⟩,ae⟩,λ j3 _ _ _=>⟨λ _=>⟨?_,λ _=>⟨?_,λ _=>?_,λ _=>⟨?_,j3+1,?_,?_,⟨rfl,rfl,?_,ae⟩,ae⟩⟩⟩,λ _=>?_⟩⟩⟩⟩;all_goals try and_intros
 all_goals first|with_reducible rfl|with_reducible assumption|exact True.intro|(simp only[b4V,b4U,b4T,b4R] at *;done)|exact hp|exact Int.ofNat_zero.symm|exact rfl|((try simp only[ok,b4T,b4R,b5a,b5k,b4N,b4M] at *);first|with_reducible exact True.intro|exact a7p (by with_reducible assumption)|exact (a7p (by with_reducible assumption)).symm|exact a7q (by with_reducible assumption)|exact (a7q (by with_reducible assumption)).symm|exact a3s (by with_reducible assumption)|exact (a3s (by with_reducible assumption)).symm|exact a3t (by with_reducible assumption)|exact (a3t (by with_reducible assumption)).symm|exact⟨(by with_reducible assumption),(by with_reducible assumption),(by with_reducible assumption),(by with_reducible assumption)⟩|(have h:EF gg c:=(by with_reducible assumption);first|exact (h.n1 (by omega) (by omega)).symm|exact (h.n2 (by omega) (by omega)).symm|exact (h.n3 (by omega)).symm|exact h.y1 (by omega) (by omega) (by omega)|exact h.y2 (by omega) (by omega))|exact T7.zero (by with_reducible assumption)|(have h:T7 gg c j3:=(by with_reducible assumption);first|exact (h.bad (by omega) (by with_reducible assumption)).symm|exact⟨h.t.next _ (by omega) (by with_reducible assumption),h.g⟩|exact (h.end (by omega)).symm|(have:=h.t.le;simp only[ak,O,bc] at *;omega))|(simp only[ak,O,bc] at *;omega))
structure PoJ(p:ai)(j:Nat):Prop where
 s:bP p.sig=true
 n:p.af.length<=40
 t:lO (lQ p.sig) p.af j
def PoJ.bad{p:ai}{j:Nat}(h:PoJ p j)(hj:j<p.af.length)(hb:lQ p.sig (p.af.getD j (ag.mk zE zE (0:Int) (0:Int) []))=false):dQ p=false:=by
 unfold dQ;rw[h.t.bad _ hj hb,Bool.and_false]
def PoJ.end{p:ai}{j:Nat}(h:PoJ p j)(hj:p.af.length<=j):dQ p=true:=by unfold dQ;rw[h.s,h.t.done hj,decide_eq_true h.n];rfl
def L5:aN:=⟨Mf,[.r (.st .proof)],λ (p:ai)=>⟨(none,[⟨.bool,dQ p⟩])⟩⟩
def YM(p:ai):Nat->aA:=(cQ 0 (.b (Nat) (λ j=>PoJ p j) (λ j=>p.af.length - j) [4,5,6,7,8,9,10,11,12,13,14,15,16,17] (λ j=>[(3, .aH ⟨(.int .i64),((j:Int):Int)⟩)])) bJ)
abbrev Gf(p:ai):Prop:=(let v0:=(p.af.length:Int);let v1:=ag.mk zE zE (0:Int) (0:Int) [];((∃ j1:Nat,(PoJ p j1/\((p=p/\((0:Int)=(j1:Int)/\True))/\True)))/\(∀ j1:Nat,let v2 := !(lQ p.sig (p.af.getD j1 v1));(PoJ p j1 ->
 (p.af.length<=140737488355328 ->
 (O v0 ->
 (((decide ((j1:Int)<v0))=true ->
 (ak (j1:Int) p.af.length/\(p.af.length<=140737488355328 ->
 (bP p.sig=true/\((v2=true ->
 false=(dQ p))/\(v2=false ->
 (O ((j1:Int)+(1:Int))/\(∃ j2:Nat,(PoJ p j2/\(p.af.length - j2<p.af.length - j1/\((p=p/\(((j1:Int)+(1:Int))=(j2:Int)/\True))/\True)))))))))))/\((decide ((j1:Int)<v0))=false ->
 true=(dQ p)))))))))
def RY:aN.Good L5:=by
 refine⟨ar H0,?_⟩;intro (p:ai) _;refine aX [qH,DX] [] [] [] ⟨qo,K8,ae⟩ H0 RF (YM p) (let v0:=decide ((40:Int)<((p.af.length:Int)));((((!(bP p.sig))=false->(p.af.length<=140737488355328->(O ((p.af.length:Int))->((v0=true->false=(dQ p))/\(v0=false->(Gf p))))))/\((!(bP p.sig))=(!false)->((true=true->false=(dQ p))/\(true=false->(Gf p))))))) ?_;refine⟨λ _ _ _=>⟨λ _=>?_,λ _=>⟨⟨0,?_,⟨rfl,?_,ae⟩,ae⟩,λ j1 _ _ _=>⟨λ _=>⟨?_,λ _=>⟨?_,λ _=>?_,λ _=>⟨?_,j1+1,?_,?_,⟨rfl,?_,ae⟩,ae⟩⟩⟩,λ _=>?_⟩⟩⟩,λ _=>⟨λ _=>?_,λ _=>⟨⟨0,?_,⟨rfl,?_,ae⟩,ae⟩,λ j1 _ _ _=>⟨λ _=>⟨?_,λ _=>⟨?_,λ _=>?_,λ _=>⟨?_,j1+1,?_,?_,⟨rfl,?_,ae⟩,ae⟩⟩⟩,λ _=>?_⟩⟩⟩⟩;all_goals try and_intros
 all_goals first|with_reducible rfl|with_reducible assumption|exact True.intro|(simp only[b4V,b4U,b4T,b4R] at *;done)|((try simp only[b4T,b4R,b5a,b5k,b4N,b4M] at *);first|with_reducible exact True.intro|exact (a5v (by with_reducible assumption)).symm|exact (a5w (by omega)).symm|exact⟨(by with_reducible assumption),by omega,lO.zero _ _⟩|(have h:PoJ p j1:=(by with_reducible assumption);first|exact h.s|exact (h.bad (by omega) (by with_reducible assumption)).symm|exact⟨h.s,h.n,h.t.next _ (by omega) (by with_reducible assumption)⟩|exact (h.end (by omega)).symm|(have:=h.t.le;simp only[ak,O,bc] at *;omega)|(have:=h.t.le;omega))|(simp only[ak,O,bc] at *;omega))
def Aw(t:Int)(e:J)(i:Nat):Int:=max (max t (if e.aq=3 then e.aS+1 else 0)) (cu (e.M.take i)).1
def CF(a:Int)(e:J)(i:Nat):Int:=max (max a (if e.aq=4 then e.aS+1 else 0)) (cu (e.M.take i)).2
def Rm{x:J}(h:bg 62 62 x=true)(hk:x.aq=3\/x.aq=4):x.M=[]:=by
 have:=Z8 h;rcases hk with hk|hk<;>rw[hk] at this<;>simp[cV] at this<;>exact b5U (by omega)
def b4d(t a:Int)(e:J):Aw t e 0=max t (max (if e.aq=3 then e.aS+1 else 0) 0)/\CF a e 0=max a (max (if e.aq=4 then e.aS+1 else 0) 0):=by
 unfold Aw CF;rw[List.take_zero,cu];dsimp only;omega
def b4f(t a:Int)(e:J)(i:Nat)(hi:i<e.M.length):Aw t e (i+1)=max (Aw t e i) (du (e.M.getD i zE)).1/\CF a e (i+1)=max (CF a e i) (du (e.M.getD i zE)).2:=by
 unfold Aw CF;rw[T5 e i hi];dsimp only;omega
def b4e(t a:Int)(e:J)(i:Nat)(h:bg 62 62 e=true)(hi:e.M.length<=i)(ht:0<=t)(ha:0<=a):Aw t e i=max t (du e).1/\CF a e i=max a (du e).2:=by
 unfold Aw CF;have hn:=kZ h;by_cases h3:e.aq=3
 .have:=hn (.inl h3);rw[if_pos h3,if_neg (show ¬ e.aq=4 by omega),Rm h (.inl h3),List.take_nil,cu,a9e e h3];dsimp only;omega
 .by_cases h4:e.aq=4
  .have:=hn (.inr h4);rw[if_neg h3,if_pos h4,Rm h (.inr h4),List.take_nil,cu,a9f e h3 h4];dsimp only;omega
  .have:=S9 e h i;rw[b4Z h3,b4Z h4,<-a4F e h3 h4 i hi];rw[<-a4F e h3 h4 i hi] at this;omega
def b2y(t a:Int)(e:J)(i:Nat)(h:bg 62 62 e=true)(ht:0<=t/\t<=1000)(ha:0<=a/\a<=1000):(0<=Aw t e i/\Aw t e i<=1000)/\0<=CF a e i/\CF a e i<=1000:=by
 have h1:=S9 e h i;have hn:=kZ h;unfold Aw CF;have:(if e.aq=3 then e.aS+1 else 0)<=63:=by
  split
  .rename_i q;have:=hn (.inl q);omega
  .omega
 have:(if e.aq=4 then e.aS+1 else 0)<=63:=by
  split
  .rename_i q;have:=hn (.inr q);omega
  .omega
 omega
def nr(n:Nat):fG:=⟨zJ,[[.d (.int .i64)],[.d (.int .i64)]],[.r (.st .expr), .b 0, .b 1],[[(.int .i64)],[(.int .i64)]],λ (e:J) (t:Int) (a:Int)=>⟨(some (cd e<n/\bg 62 62 e=true/\(0<=t/\t<=1000)/\0<=a/\a<=1000),[],[[⟨(.int .i64),max t (du e).1⟩],[⟨(.int .i64),max a (du e).2⟩]])⟩⟩
def GI:fG:=⟨zJ,[[.d (.int .i64)],[.d (.int .i64)]],[.r (.st .expr), .b 0, .b 1],[[(.int .i64)],[(.int .i64)]],λ (e:J) (t:Int) (a:Int)=>⟨(some (bg 62 62 e=true/\(0<=t/\t<=1000)/\0<=a/\a<=1000),[],[[⟨(.int .i64),max t (du e).1⟩],[⟨(.int .i64),max a (du e).2⟩]])⟩⟩
def U0(e:J)(t:Int)(a:Int):Nat->aA:=(cQ 100004 (.u (True) [7,8,9,10,11,12,13,14,15,16,17,18,19,20,21,22] [] [] [(400000, .box [.aH ⟨(.int .i64),(Aw t e 0:Int)⟩]),(400001, .box [.aH ⟨(.int .i64),(CF a e 0:Int)⟩])] (cQ 0 (.a (Nat) (λ i=>i<=e.M.length) (λ i=>e.M.length - i) [] (λ i=>[(6, .aH ⟨(.int .i64),((i:Int):Int)⟩)]) [] (λ i=>[(400000, .box [.aH ⟨(.int .i64),(Aw t e i:Int)⟩]),(400001, .box [.aH ⟨(.int .i64),(CF a e i:Int)⟩])])) bJ)) bJ)
abbrev Bn(n:Nat)(e:J)(t:Int)(a:Int):Prop:=(let v0:=(e.M.length:Int);(∀ u1:Unit,(True ->
 ((∃ i2:Nat,(i2<=e.M.length/\((e=e/\(True/\(True/\((0:Int)=(i2:Int)/\True))))/\(((Aw t e 0)=(Aw t e i2)/\True)/\(((CF a e 0)=(CF a e i2)/\True)/\True)))))/\(∀ i2:Nat,let v1:=e.M.getD i2 zE;(i2<=e.M.length ->
 (e.M.length<=140737488355328 ->
 (O v0 ->
 (((decide ((i2:Int)<v0))=true ->
 (e.M.length<=140737488355328 ->
 (ak (i2:Int) e.M.length/\((cd v1<n/\bg 62 62 v1=true/\(0<=(Aw t e i2)/\(Aw t e i2)<=1000)/\0<=(CF a e i2)/\(CF a e i2)<=1000)/\(O ((i2:Int)+(1:Int))/\(∃ i3:Nat,(i3<=e.M.length/\(e.M.length - i3<e.M.length - i2/\((e=e/\(True/\(True/\(((i2:Int)+(1:Int))=(i3:Int)/\True))))/\(((max (Aw t e i2) (du v1).1)=(Aw t e i3)/\True)/\(((max (CF a e i2) (du v1).2)=(CF a e i3)/\True)/\True)))))))))))/\((decide ((i2:Int)<v0))=false ->
 (True/\((Aw t e i2)=(max t (du e).1)/\((CF a e i2)=(max a (du e).2)/\True)))))))))))))
def S3(n:Nat)(hE:bC [mn])(hO:gn [])(hM:iv [])(hS:gF [nr n]):fG.Good (nr (n+1)):=by
 refine⟨ar oz,?_⟩;intro (e:J) (t:Int) (a:Int) (hp:cd e<n+1/\bg 62 62 e=true/\(0<=t/\t<=1000)/\0<=a/\a<=1000);refine gQ [mn] [] [] [nr n] [] [] [] [] hE hO hM hS oz Pq (U0 e t a) rfl rfl (let v0:=e.aS+(1:Int);let v1:=e=e/\(True/\(True/\True));let v2:=decide (e.aq=(4:Int));let v3:=((max a v0)=(CF a e 0)/\True)/\True;let v4:=(a=(CF a e 0)/\True)/\True;let v5:=(max t v0)=(Aw t e 0)/\True;((O e.aq->(((decide (e.aq=(3:Int)))=true->(O v0/\(O t->(O e.aS->(O (max t v0)->((O e.aq->((v2=true->(O v0/\(O a->(O e.aS->(O (max a v0)->(∃ u1:Unit,(True/\(v1/\(v5/\v3)))))))))/\(v2=false->(∃ u1:Unit,(True/\(v1/\(v5/\v4)))))))/\(Bn n e t a)))))))/\((decide (e.aq=(3:Int)))=false->((O e.aq->((v2=true->(O v0/\(O a->(O e.aS->(O (max a v0)->(∃ u1:Unit,(True/\(v1/\((t=(Aw t e 0)/\True)/\v3)))))))))/\(v2=false->(∃ u1:Unit,(True/\(v1/\((t=(Aw t e 0)/\True)/\v4)))))))/\(Bn n e t a))))))) ?_;obtain⟨hm,g0,g1,g2⟩:=hp;have f0:=λ i (h:i<e.M.length)=>ca zE e.M i h;have f1:=dk e;have f2:=b4d t a e;have f3:=kZ g0;refine λ _=>⟨λ _=>⟨?_,λ _ _ _=>⟨λ _=>⟨λ _=>⟨?_,λ _ _ _=>⟨(),?_,⟨rfl,ae,ae,ae⟩,⟨?_,ae⟩,⟨?_,ae⟩,ae⟩⟩,λ _=>⟨(),?_,⟨rfl,ae,ae,ae⟩,⟨?_,ae⟩,⟨?_,ae⟩,ae⟩⟩,λ u1 _=>⟨⟨0,?_,⟨rfl,ae,ae,?_,ae⟩,⟨?_,ae⟩,⟨?_,ae⟩,ae⟩,λ i2 _ _ _=>⟨λ _ _=>⟨?_,?_,?_,i2+1,?_,?_,⟨rfl,ae,ae,?_,ae⟩,⟨?_,ae⟩,⟨?_,ae⟩,ae⟩,λ _=>⟨ae,?_,?_,ae⟩⟩⟩⟩⟩,λ _=>⟨λ _=>⟨λ _=>⟨?_,λ _ _ _=>⟨(),?_,⟨rfl,ae,ae,ae⟩,⟨?_,ae⟩,⟨?_,ae⟩,ae⟩⟩,λ _=>⟨(),?_,⟨rfl,ae,ae,ae⟩,⟨?_,ae⟩,⟨?_,ae⟩,ae⟩⟩,λ u1 _=>⟨⟨0,?_,⟨rfl,ae,ae,?_,ae⟩,⟨?_,ae⟩,⟨?_,ae⟩,ae⟩,λ i2 _ _ _=>⟨λ _ _=>⟨?_,?_,?_,i2+1,?_,?_,⟨rfl,ae,ae,?_,ae⟩,⟨?_,ae⟩,⟨?_,ae⟩,ae⟩,λ _=>⟨ae,?_,?_,ae⟩⟩⟩⟩⟩;all_goals try and_intros
 all_goals first|with_reducible rfl|with_reducible assumption|exact True.intro|(simp only[b4V,b4U,b4T,b4R] at *;done)|((try simp only[b5q,J.eta,b4N,b4M,b4T,b4R,b5a,b5k,ak,O,bc,b5f,b4Y,b5j,b5g,b5n] at *);first|exact True.intro|omega|exact sT g0 _ (by omega)|(have h1:=f0 i2 (by omega);omega)|(have h1:=b4f t a e i2 (by omega);omega)|(have h1:=b4e t a e i2 g0 (by omega) (by omega) (by omega);omega)|(have h1:=b2y t a e i2 g0 (by omega) (by omega);omega)|(rw[f2.1];simp only[*,b6M,b7M];omega)|(rw[f2.2];simp only[*,b6M,b7M];omega)|(have:=f3 (by omega);omega))
def VG:∀ n,gF [nr n]
 | 0=>⟨⟨ar oz,λ _ _ _ h=>absurd h.1 (b5H _)⟩,ae⟩
 | n+1=>by
  have ih:=VG n;exact⟨S3 n ⟨A0,ae⟩ trivial trivial ⟨ih.1,ae⟩,ae⟩
def Ox:fG.Good GI :=
 ⟨ar oz,λ e t a hp=>(VG (cd e+1)).1.2 e t a (⟨b5C _,hp⟩)⟩
def Gz:aN:=⟨GY,[.r (.st .equation)],λ (q:au)=>⟨(some (bg 62 62 q.left=true/\bg 62 62 q.right=true),[⟨(.int .i64),(cu [q.left,q.right]).1⟩,⟨(.int .i64),(cu [q.left,q.right]).2⟩])⟩⟩
def UM(q:au):Nat->aA:=bJ
def Nr:aN.Good Gz:=by
 refine⟨ar C3,?_⟩;intro (q:au) (hp:bg 62 62 q.left=true/\bg 62 62 q.right=true);refine XL [] [] [] [GI] [] [] [] [] trivial trivial trivial ⟨Ox,ae⟩ C3 MN (UM q) (let v2:=du q.right;let v3:=(0:Int);let v0:=max v3 (du q.left).1;let v1:=max v3 (du q.left).2;(((bg 62 62 q.left=true/\(0<=v3/\v3<=1000)/\0<=v3/\v3<=1000)/\((bg 62 62 q.right=true/\(0<=v0/\v0<=1000)/\0<=v1/\v1<=1000)/\(O (max v0 v2.1)->(O (max v1 v2.2)->((max v0 v2.1)=((cu [q.left,q.right]).1)/\(max v1 v2.2)=((cu [q.left,q.right]).2)))))))) ?_;refine⟨?_,?_,λ _ _=>⟨?_,?_⟩⟩;all_goals try and_intros
 all_goals first|with_reducible rfl|with_reducible assumption|exact True.intro|(simp only[b4V,b4U,b4T,b4R] at *;done)|exact hp.1|exact hp.2|(have h1:=Rj _ hp.1;have h2:=Rj _ hp.2;(try simp only[cu]);omega)
def vN:aN:=⟨Jw,[],⟨(none,[⟨(.st .expr),J.mk 2 0 []⟩])⟩⟩
def UY :Nat->aA:=bJ
def Od:aN.cZ vN:=by
 refine⟨ar F6,?_⟩;intro  _;refine cp [] [] [] [] [] [] [] [] trivial trivial trivial trivial F6 Pm (UY ) ((J.mk (2:Int) (0:Int) [])=(J.mk 2 0 [])) ?_;refine ?_;all_goals try and_intros
 all_goals first|rfl|trivial|omega|(simp only[b4N,b4M,ak,O,bT,cB,bG,bc] at *;omega)|(simp[ak,O] at *;omega)|grind
def nf(n:Nat):aN:=⟨vX,[.r (.st .expr)],λ (x:J)=>⟨(some (cd x<n/\aO x<=1048576),[⟨(.int .i64),(aO x:Int)⟩])⟩⟩
def vL:aN:=⟨vX,[.r (.st .expr)],λ (x:J)=>⟨(some (aO x<=1048576),[⟨(.int .i64),(aO x:Int)⟩])⟩⟩
def UI(x:J):Nat->aA:=(cQ 0 (.b (Nat) (λ k=>k<=x.M.length) (λ k=>x.M.length - k) [2] (λ k=>[(4, .aH ⟨(.int .i64),((k:Int):Int)⟩),(3, .aH ⟨(.int .i64),((1+aG aO (x.M.take k):Int):Int)⟩)])) bJ)
def SU(n:Nat)(hE:bC [nf n]):aN.Good (nf (n+1)):=by
 refine⟨ar mK,?_⟩;intro (x:J) (hp:cd x<n+1/\aO x<=1048576);refine aX [nf n] [] [] [] hE mK MI (UI x) (let v0:=(x.M.length:Int);(((∃ k1:Nat,(k1<=x.M.length/\((x=x/\((1:Int)=(1+aG aO (x.M.take k1):Int)/\((0:Int)=(k1:Int)/\True)))/\True)))/\(∀ k1:Nat,let v2:=x.M.getD k1 zE;let v3:=(1+aG aO (x.M.take k1):Int);let v1:=v3+((aO v2:Int));(k1<=x.M.length->(x.M.length<=140737488355328->(O v0->(((decide ((k1:Int)<v0))=true->(x.M.length<=140737488355328->(ak (k1:Int) x.M.length/\((cd v2<n/\aO v2<=1048576)/\(O ((aO v2:Int))->(O v1/\(O ((k1:Int)+(1:Int))/\(∃ k2:Nat,(k2<=x.M.length/\(x.M.length - k2<x.M.length - k1/\((x=x/\(v1=(1+aG aO (x.M.take k2):Int)/\(((k1:Int)+(1:Int))=(k2:Int)/\True)))/\True)))))))))))/\((decide ((k1:Int)<v0))=false->v3=(aO x:Int)))))))))) ?_;rw[zM x] at hp;have f0:=dk x;have f1:=iq aO x.M;refine⟨⟨0,?_,⟨rfl,?_,?_,ae⟩,ae⟩,λ k1 _=>have C9:=fj aO zE x.M k1;have p7:=bZ aO x.M k1;have wu:=bZ aO x.M (k1+1);have H2:=gX aO x.M k1;have To:=ca zE x.M k1;λ _ _=>⟨λ _ _=>⟨?_,?_,λ _=>⟨?_,?_,k1+1,?_,?_,⟨rfl,?_,?_,ae⟩,ae⟩⟩,λ _=>?_⟩⟩;all_goals try and_intros
 all_goals try rw[zM x]
 all_goals first|rfl|trivial|omega|(simp only[b4N,b4M,ak,O,bT,cB,bG,bc] at *;omega)|(simp[ak,O] at *;omega)|grind
def VC :∀ n,bC [nf n]
 | 0=>⟨⟨ar mK,λ _ h=>absurd h.1 (b5H _)⟩,ae⟩
 | n+1=>by
  have ih:=VC  n;exact⟨SU n ⟨ih.1,ae⟩,ae⟩
def Nn :aN.Good vL :=
 ⟨ar mK,λ x hp=>(VC  (cd x+1)).1.2 x (⟨b5C _,hp⟩)⟩
def Vs(ts as_:List J)(x:J)(l:Int):e9 ts as_ x l=if l - 1<0 then (J.mk (0:Int) (0:Int) [],l - 1) else
   if x.aq=3\/x.aq=4 then ((if x.aq=4 then as_ else ts).getD x.aS.toNat zE,l - 1 - ((aO ((if x.aq=4 then as_ else ts).getD x.aS.toNat zE):Int) - 1)) else
   (J.mk x.aq x.aS (dS ts as_ x.M (l - 1)).1,(dS ts as_ x.M (l - 1)).2):=by
 cases x with
 | mk k n ks=>rw[e9]
def a5B{ts as_:List J}{x:J}{l:Int}(h:l - 1<0):(e9 ts as_ x l).1=J.mk (0:Int) (0:Int) []/\(e9 ts as_ x l).2=l - 1:=by rw[Vs,b5u h];exact⟨rfl,rfl⟩
def a5y{ts as_:List J}{x:J}{l:Int}(h:¬ l - 1<0)(h3:x.aq=3):(e9 ts as_ x l).1=ts.getD x.aS.toNat zE/\(e9 ts as_ x l).2=l - 1 - ((aO (ts.getD x.aS.toNat zE):Int) - 1):=by
 rw[Vs,b4Z h,b5u (.inl h3),b4Z (by omega)];exact⟨rfl,rfl⟩
def a5z{ts as_:List J}{x:J}{l:Int}(h:¬ l - 1<0)(h4:x.aq=4):(e9 ts as_ x l).1=as_.getD x.aS.toNat zE/\(e9 ts as_ x l).2=l - 1 - ((aO (as_.getD x.aS.toNat zE):Int) - 1):=by
 rw[Vs,b4Z h,b5u (.inr h4),b5u h4];exact⟨rfl,rfl⟩
def a5A{ts as_:List J}{x:J}{l:Int}(h:¬ l - 1<0)(h3:¬ x.aq=3)(h4:¬ x.aq=4)(i:Nat)(hi:x.M.length<=i):(e9 ts as_ x l).1=J.mk x.aq x.aS (dS ts as_ (x.M.take i) (l - 1)).1/\(e9 ts as_ x l).2=(dS ts as_ (x.M.take i) (l - 1)).2:=by
 rw[Vs,b4Z h,b4Z (by omega),b5o hi];exact⟨rfl,rfl⟩
def ZZ(ts as_:List J):∀ (xs:List J) (y:J) (l:Int),dS ts as_ (xs++[y]) l=((dS ts as_ xs l).1++[(e9 ts as_ y (dS ts as_ xs l).2).1],(e9 ts as_ y (dS ts as_ xs l).2).2)
 | [],y,l=>by rw[b5q,dS,dS];rfl
 | x::xs,y,l=>by rw[b6g,dS,ZZ ts as_ xs y,dS];rfl
def Kn(ts as_:List J)(x:J)(i:Nat)(l:Int)(hi:i<x.M.length):(dS ts as_ (x.M.take (i+1)) l).1=(dS ts as_ (x.M.take i) l).1++[(e9 ts as_ (x.M.getD i zE) (dS ts as_ (x.M.take i) l).2).1] /\
  (dS ts as_ (x.M.take (i+1)) l).2=(e9 ts as_ (x.M.getD i zE) (dS ts as_ (x.M.take i) l).2).2:=by
 rw[cC zE x.M i hi,ZZ];exact⟨rfl,rfl⟩
mutual
def a9Z(ts as_:List J):∀ (x:J) (l:Int),l - (aO (dx ts as_ x):Int)<=(e9 ts as_ x l).2
 | ⟨k,n,ks⟩,l=>by
  have hp:=BL (dx ts as_ ⟨k,n,ks⟩);rw[dx] at hp ⊢;rw[e9];by_cases h0:l - 1<0
  .rw[if_pos h0];dsimp only;omega
  .rw[b4Z h0];by_cases h3:k=3
   .subst h3;rw[if_pos (Or.inl rfl:(3:Int)=3\/(3:Int)=4),if_pos rfl,if_neg (show ¬ (3:Int)=4 by decide)];dsimp only;omega
   .by_cases h4:k=4
    .subst h4;rw[if_pos (Or.inr rfl:(4:Int)=3\/(4:Int)=4),if_neg h3,if_pos rfl,if_pos rfl];dsimp only;omega
    .rw[if_neg h3,if_neg h4,if_neg (show ¬ (k=3\/k=4) by omega),aO];have:=QX ts as_ ks (l - 1);dsimp only;omega
def QX(ts as_:List J):∀ (xs:List J) (l:Int),l - (c9 (jP ts as_ xs):Int)<=(dS ts as_ xs l).2
 | [],l=>by rw[dS,jP,c9];dsimp only;omega
 | x::xs,l=>by
  rw[dS,jP,c9];have h1:=a9Z ts as_ x l;have h2:=QX ts as_ xs (e9 ts as_ x l).2;dsimp only;omega
end
def M1(ts as_:List J):∀ (xs:List J) (i:Nat),i<xs.length->c9 (jP ts as_ (xs.take i))+aO (dx ts as_ (xs.getD i zE))<=c9 (jP ts as_ xs)
 | [],i,h=>by simp at h
 | x::xs,0,h=>by
  rw[b5T,jP,c9,jP,c9];show 0+aO (dx ts as_ x)<=_;omega
 | x::xs,i+1,h=>by
  have:=M1 ts as_ xs i (by simpa using h);rw[List.take_succ_cons,jP,c9,jP,c9];show _+aO (dx ts as_ (xs.getD i zE))<=_;omega
def Zu(ts as_:List J)(x:J)(h3:¬ x.aq=3)(h4:¬ x.aq=4):aO (dx ts as_ x)=1+c9 (jP ts as_ x.M):=by
 cases x with
 | mk k n ks=>rw[dx,b4Z h3,b4Z h4,aO]
def a9Y{ts as_:List J}{x:J}{l:Int}(h3:¬ x.aq=3)(h4:¬ x.aq=4)(i:Nat)(hi:i<x.M.length)(h:(aO (dx ts as_ x):Int)<=1000000+l)(hl:l<=1000):(aO (dx ts as_ (x.M.getD i zE)):Int)<=1000000+(dS ts as_ (x.M.take i) (l - 1)).2/\(dS ts as_ (x.M.take i) (l - 1)).2<=1000:=by
 have h1:=M1 ts as_ x.M i hi;have h2:=QX ts as_ (x.M.take i) (l - 1);have h5:=(Km ts as_ (x.M.take i) (l - 1)).1;rw[Zu ts as_ x h3 h4] at h;omega
def b2i{ts as_:List J}{x:J}{l:Int}(h3:¬ x.aq=3)(h4:¬ x.aq=4)(i:Nat)(h:(aO (dx ts as_ x):Int)<=1000000+l)(hl:l<=1000) : -1000000<=(dS ts as_ (x.M.take i) (l - 1)).2/\(dS ts as_ (x.M.take i) (l - 1)).2<=1000:=by
 have h2:=QX ts as_ (x.M.take i) (l - 1);have h5:=(Km ts as_ (x.M.take i) (l - 1)).1;have h6:c9 (jP ts as_ (x.M.take i))<=c9 (jP ts as_ x.M):=by
  rcases b5Q i x.M.length with g|g
  .have:=M1 ts as_ x.M i g;omega
  .rw[b5o g];exact b5w _
 rw[Zu ts as_ x h3 h4] at h;omega
structure EI(ts as_:List J):Prop where
 t:∀ y∈ts,aO y<=1000
 a:∀ y∈as_,aO y<=1000
def EI.gt{ts as_:List J}(h:EI ts as_){n:Int}(h0:0<=n)(h1:n<(ts.length:Int)):aO (ts.getD n.toNat zE)<=1000/\aE (ts.getD n.toNat zE)<=1048576:=by
 have:=h.t (ts.getD n.toNat zE) (by
  rw[b5b,b5p (by omega)];exact b6h _)
 have:=Kq (ts.getD n.toNat zE);omega
def EI.ga{ts as_:List J}(h:EI ts as_){n:Int}(h0:0<=n)(h1:n<(as_.length:Int)):aO (as_.getD n.toNat zE)<=1000/\aE (as_.getD n.toNat zE)<=1048576:=by
 have:=h.a (as_.getD n.toNat zE) (by
  rw[b5b,b5p (by omega)];exact b6h _)
 have:=Kq (as_.getD n.toNat zE);omega
def a2E(ts as_:List J):∀ (xs:List J) (l:Int),(dS ts as_ xs l).1.length=xs.length
 | [],l=>by rw[dS]
 | x::xs,l=>by rw[dS,b4Y,b4Y,a2E ts as_ xs]
def b2k(ts as_:List J)(x:J)(l:Int):(dS ts as_ (x.M.take 0) l).1=[]/\(dS ts as_ (x.M.take 0) l).2=l:=by rw[b5T,dS];exact⟨rfl,rfl⟩
def nm(n:Nat):fG:=⟨qW,[[.d (.int .i64)]],[.r (.st .expr), .v (.slice (.st .expr)), .v (.slice (.st .expr)), .b 0],[[(.int .i64)]],λ (e:J) (ts:List J) (as_:List J) (l:Int)=>⟨(some (cd e<n/\gf ts as_ e/\bg 62 62 e=true/\EI ts as_/\(aO (dx ts as_ e):Int)<=1000000+l/\l<=1000),[⟨(.st .expr),(e9 ts as_ e l).1⟩],[[⟨(.int .i64),(e9 ts as_ e l).2⟩]])⟩⟩
def Ur:fG:=⟨qW,[[.d (.int .i64)]],[.r (.st .expr), .v (.slice (.st .expr)), .v (.slice (.st .expr)), .b 0],[[(.int .i64)]],λ (e:J) (ts:List J) (as_:List J) (l:Int)=>⟨(some (gf ts as_ e/\bg 62 62 e=true/\EI ts as_/\(aO (dx ts as_ e):Int)<=1000000+l/\l<=1000),[⟨(.st .expr),(e9 ts as_ e l).1⟩],[[⟨(.int .i64),(e9 ts as_ e l).2⟩]])⟩⟩
def UZ(e:J)(ts:List J)(as_:List J)(l:Int):Nat->aA:=(cQ 0 (.a (Nat) (λ i=>i<=e.M.length/\¬ e.aq=3/\¬ e.aq=4/\¬ l - 1<0) (λ i=>e.M.length - i) [9,12,13,14,15,16,17,18,19,20,22,23,24,25,26,27,28,29,30,31,32,33,34,35,36,37,38,39,40,69,70,71,72,73,74,75,76,77] (λ i=>[(11, .aH ⟨(.int .i64),((i:Int):Int)⟩)]) [8] (λ i=>[(10, .box [.aH ⟨(.int .i64),(e.aq:Int)⟩, .aH ⟨(.int .i64),(e.aS:Int)⟩, .av 10100]),(10100, .av (.st .expr) ((dS ts as_ (e.M.take i) (l - 1)).1:List J)),(400000, .box [.aH ⟨(.int .i64),((dS ts as_ (e.M.take i) (l - 1)).2:Int)⟩])])) bJ)
abbrev Bl(e:J)(ts:List J)(as_:List J)(l:Int):Prop:=(let v0:=as_.getD (Int.toNat e.aS) zE;let v1:=((aO v0:Int)) - (1:Int);let v2:=e9 ts as_ e l;let v3:=decide (((as_.length:Int))<=e.aS);let v4:=l - (1:Int);(O e.aS ->
 (O ((as_.length:Int)) ->
 ((v3=true ->
 ((aI (J.mk 2 0 []))=(v2.1)/\(v4=(v2.2)/\True)))/\(v3=false ->
 (ak e.aS as_.length/\(aO v0<=1048576/\(O v1/\(O v4 ->
 (O e.aS ->
 (O ((aO v0:Int)) ->
 (O (v4 - v1)/\(O e.aS ->
 (ak e.aS as_.length/\(aE v0<=1048576/\((aI v0)=(v2.1)/\((v4 - v1)=(v2.2)/\True)))))))))))))))))
abbrev Qr(n:Nat)(e:J)(ts:List J)(as_:List J)(l:Int):Prop:=(let v0:=((0:Int)=(0:Int)/\((0:Int)=(0:Int)/\(True/\True)))/\True;let v1:=(10:Nat)=10/\(2:Nat)=2;let v2:=e.aq=e.aq/\(e.aS=e.aS/\(True/\True));let v3:=l - 1;let v4:=(e.M.length:Int);(O e.aq ->
 (O e.aS ->
 ((∃ i1:Nat,let v5:=dS ts as_ (e.M.take i1) v3;((i1<=e.M.length/\¬ e.aq=3/\¬ e.aq=4/\¬ l - 1<0)/\((e=e/\(ts=ts/\(as_=as_/\(True/\(True/\(True/\((0:Int)=(i1:Int)/\True)))))))/\(v2/\((v5.1)=[]/\(((l - (1:Int))=(v5.2)/\True)/\v0))))))/\(∀ i1:Nat,let v5:=dS ts as_ (e.M.take i1) v3;let v6:=e.M.getD i1 zE;let v7:=(i1:Int);let v8:=e9 ts as_ v6 (v5.2);((i1<=e.M.length/\¬ e.aq=3/\¬ e.aq=4/\¬ l - 1<0) ->
 (e.M.length<=140737488355328 ->
 (O v4 ->
 (((decide (v7<v4))=true ->
 (e.M.length<=140737488355328 ->
 (O v7 ->
 (ak v7 e.M.length/\(ts.length<=140737488355328 ->
 (as_.length<=140737488355328 ->
 (v1/\((10100:Nat)=10100/\(e=e/\(e=e/\(e.M=e.M/\(e.M=e.M/\(v7=v7/\(ak v7 e.M.length/\(v6=v6/\(ts=ts/\(as_=as_/\(((400000:Nat)=400000/\(0:Nat)=0)/\((cd v6<n/\gf ts as_ v6/\bg 62 62 v6=true/\EI ts as_/\(aO (dx ts as_ v6):Int)<=1000000+(v5.2)/\(v5.2)<=1000)/\(v1/\((10100:Nat)=10100/\(v1/\((10100:Nat)=10100/\(bc ((v5.1).length+([(aI (v8.1))]).length) 40/\(O (v7+(1:Int))/\(∃ i2:Nat,let v9:=dS ts as_ (e.M.take i2) v3;((i2<=e.M.length/\¬ e.aq=3/\¬ e.aq=4/\¬ l - 1<0)/\(e.M.length - i2<e.M.length - i1/\((e=e/\(ts=ts/\(as_=as_/\(True/\(True/\(True/\((v7+(1:Int))=(i2:Int)/\True)))))))/\(v2/\(((v5.1)++([(aI (v8.1))]))=(v9.1)/\(((v8.2)=(v9.2)/\True)/\v0))))))))))))))))))))))))))))))))/\((decide (v7<v4))=false ->
 ((J.mk e.aq e.aS (v5.1))=((e9 ts as_ e l).1)/\((v5.2)=((e9 ts as_ e l).2)/\True))))))))))))
abbrev Bm(e:J)(ts:List J)(as_:List J)(l:Int):Prop:=(let v0:=ts.getD (Int.toNat e.aS) zE;let v1:=((aO v0:Int)) - (1:Int);let v2:=e9 ts as_ e l;let v3:=decide (((ts.length:Int))<=e.aS);let v4:=l - (1:Int);(O e.aS ->
 (O ((ts.length:Int)) ->
 ((v3=true ->
 ((aI (J.mk 2 0 []))=(v2.1)/\(v4=(v2.2)/\True)))/\(v3=false ->
 (ak e.aS ts.length/\(aO v0<=1048576/\(O v1/\(O v4 ->
 (O e.aS ->
 (O ((aO v0:Int)) ->
 (O (v4 - v1)/\(O e.aS ->
 (ak e.aS ts.length/\(aE v0<=1048576/\((aI v0)=(v2.1)/\((v4 - v1)=(v2.2)/\True)))))))))))))))))
def S2(n:Nat)(hE:bC [vL])(hO:gn [fm,vN])(hM:iv [])(hS:gF [nm n]):fG.Good (nm (n+1)):=by
 refine⟨ar ov,?_⟩;intro (e:J) (ts:List J) (as_:List J) (l:Int) (hp:cd e<n+1/\gf ts as_ e/\bg 62 62 e=true/\EI ts as_/\(aO (dx ts as_ e):Int)<=1000000+l/\l<=1000);refine gQ [vL] [fm,vN] [] [nm n] [48,68,98,99,100] [] [] [] hE hO hM hS ov Pp (UZ e ts as_ l) rfl rfl (let v0:=decide (e.aq=(4:Int));let v1:=Qr n e ts as_ l;let v2:=decide (e.aq=(3:Int));let v3:=l - (1:Int);((O l->(O v3/\(O v3->(((decide (v3<(0:Int)))=true->(zE=((e9 ts as_ e l).1)/\(v3=((e9 ts as_ e l).2)/\True)))/\((decide (v3<(0:Int)))=false->(O e.aq->((v0=true->(O e.aq->((v2=false->(O e.aq->((v0=true->(Bl e ts as_ l))/\(v0=false->v1))))/\(v2=(!false)->((true=true->(Bl e ts as_ l))/\(true=false->v1))))))/\(v0=false->(O e.aq->((v2=false->(O e.aq->((v0=true->(Bm e ts as_ l))/\(v0=false->v1))))/\(v2=(!false)->((true=true->(Bm e ts as_ l))/\(true=false->v1))))))))))))))) ?_;obtain⟨hm,g0,g1,g2,g3,g4⟩:=hp;have f0:=λ i (h:i<e.M.length)=>ca zE e.M i h;have f1:=dk e;have f3:=b2k ts as_ e (l - 1);have f4:=BL (dx ts as_ e);have f5:=Yk g1;refine λ _=>⟨?_,λ _=>⟨λ _=>⟨?_,?_,ae⟩,λ _ _=>⟨λ _ _=>⟨λ _ _=>⟨λ _ _ _=>⟨λ _=>⟨?_,?_,ae⟩,λ _=>⟨?_,?_,?_,λ _ _ _=>⟨?_,λ _=>⟨?_,?_,?_,?_,ae⟩⟩⟩⟩,λ _ _ _=>⟨⟨0,?_,⟨rfl,rfl,rfl,ae,ae,ae,?_,ae⟩,⟨rfl,rfl,ae,ae⟩,?_,⟨?_,ae⟩,⟨rfl,rfl,ae,ae⟩,ae⟩,λ i1 _ _ _=>⟨λ _ _ _=>⟨?_,λ _ _=>⟨⟨?_,?_⟩,?_,rfl,rfl,rfl,rfl,rfl,?_,rfl,rfl,rfl,⟨?_,?_⟩,?_,⟨?_,?_⟩,?_,⟨?_,?_⟩,?_,?_,?_,i1+1,?_,?_,⟨rfl,rfl,rfl,ae,ae,ae,?_,ae⟩,⟨rfl,rfl,ae,ae⟩,?_,⟨?_,ae⟩,⟨rfl,rfl,ae,ae⟩,ae⟩⟩,λ _=>⟨?_,?_,ae⟩⟩⟩⟩,λ _=>⟨λ _ _ _=>⟨λ _=>⟨?_,?_,ae⟩,λ _=>⟨?_,?_,?_,λ _ _ _=>⟨?_,λ _=>⟨?_,?_,?_,?_,ae⟩⟩⟩⟩,λ _ _ _=>⟨⟨0,?_,⟨rfl,rfl,rfl,ae,ae,ae,?_,ae⟩,⟨rfl,rfl,ae,ae⟩,?_,⟨?_,ae⟩,⟨rfl,rfl,ae,ae⟩,ae⟩,λ i1 _ _ _=>⟨λ _ _ _=>⟨?_,λ _ _=>⟨⟨?_,?_⟩,?_,rfl,rfl,rfl,rfl,rfl,?_,rfl,rfl,rfl,⟨?_,?_⟩,?_,⟨?_,?_⟩,?_,⟨?_,?_⟩,?_,?_,?_,i1+1,?_,?_,⟨rfl,rfl,rfl,ae,ae,ae,?_,ae⟩,⟨rfl,rfl,ae,ae⟩,?_,⟨?_,ae⟩,⟨rfl,rfl,ae,ae⟩,ae⟩⟩,λ _=>⟨?_,?_,ae⟩⟩⟩⟩⟩,λ _ _=>⟨λ _ _=>⟨λ _ _ _=>⟨λ _=>⟨?_,?_,ae⟩,λ _=>⟨?_,?_,?_,λ _ _ _=>⟨?_,λ _=>⟨?_,?_,?_,?_,ae⟩⟩⟩⟩,λ _ _ _=>⟨⟨0,?_,⟨rfl,rfl,rfl,ae,ae,ae,?_,ae⟩,⟨rfl,rfl,ae,ae⟩,?_,⟨?_,ae⟩,⟨rfl,rfl,ae,ae⟩,ae⟩,λ i1 _ _ _=>⟨λ _ _ _=>⟨?_,λ _ _=>⟨⟨?_,?_⟩,?_,rfl,rfl,rfl,rfl,rfl,?_,rfl,rfl,rfl,⟨?_,?_⟩,?_,⟨?_,?_⟩,?_,⟨?_,?_⟩,?_,?_,?_,i1+1,?_,?_,⟨rfl,rfl,rfl,ae,ae,ae,?_,ae⟩,⟨rfl,rfl,ae,ae⟩,?_,⟨?_,ae⟩,⟨rfl,rfl,ae,ae⟩,ae⟩⟩,λ _=>⟨?_,?_,ae⟩⟩⟩⟩,λ _=>⟨λ _ _ _=>⟨λ _=>⟨?_,?_,ae⟩,λ _=>⟨?_,?_,?_,λ _ _ _=>⟨?_,λ _=>⟨?_,?_,?_,?_,ae⟩⟩⟩⟩,λ _ _ _=>⟨⟨0,?_,⟨rfl,rfl,rfl,ae,ae,ae,?_,ae⟩,⟨rfl,rfl,ae,ae⟩,?_,⟨?_,ae⟩,⟨rfl,rfl,ae,ae⟩,ae⟩,λ i1 _ _ _=>⟨λ _ _ _=>⟨?_,λ _ _=>⟨⟨?_,?_⟩,?_,rfl,rfl,rfl,rfl,rfl,?_,rfl,rfl,rfl,⟨?_,?_⟩,?_,⟨?_,?_⟩,?_,⟨?_,?_⟩,?_,?_,?_,i1+1,?_,?_,⟨rfl,rfl,rfl,ae,ae,ae,?_,ae⟩,⟨rfl,rfl,ae,ae⟩,?_,⟨?_,ae⟩,⟨rfl,rfl,ae,ae⟩,ae⟩⟩,λ _=>⟨?_,?_,ae⟩⟩⟩⟩⟩⟩⟩⟩;all_goals try and_intros
 all_goals try (first|with_reducible rfl|with_reducible assumption)
 all_goals try simp only[J.eta,ag.eta,au.eta,aK,br,bL] at *
 all_goals first|with_reducible rfl|with_reducible assumption|exact True.intro|(simp only[b4V,b4U,b4T,b4R] at *;done)|((try simp only[b5q,J.eta,b4N,b4M,b4T,b4R,b5a,b5k,ak,O,bc,b5f,b4Y,b5j,b5g,b5n] at *);first|exact True.intro|omega|(have h1:=a2E ts as_ (e.M.take i1) (l - 1);have h2:=b5n (l:=e.M) (i:=i1);omega)|exact f3.1|exact (f3.1).symm|exact f3.2|exact (f3.2).symm|exact (a5B (by omega)).1|exact ((a5B (by omega)).1).symm|exact (a5B (by omega)).2|exact ((a5B (by omega)).2).symm|exact (a5y (by omega) (by omega)).1|exact ((a5y (by omega) (by omega)).1).symm|exact (a5y (by omega) (by omega)).2|exact ((a5y (by omega) (by omega)).2).symm|exact (a5z (by omega) (by omega)).1|exact ((a5z (by omega) (by omega)).1).symm|exact (a5z (by omega) (by omega)).2|exact ((a5z (by omega) (by omega)).2).symm|exact (a5A (by omega) (by omega) (by omega) i1 (by omega)).1|exact ((a5A (by omega) (by omega) (by omega) i1 (by omega)).1).symm|exact (a5A (by omega) (by omega) (by omega) i1 (by omega)).2|exact ((a5A (by omega) (by omega) (by omega) i1 (by omega)).2).symm|exact (Kn _ _ _ _ _ (by omega)).1|exact ((Kn _ _ _ _ _ (by omega)).1).symm|exact (Kn _ _ _ _ _ (by omega)).2|exact ((Kn _ _ _ _ _ (by omega)).2).symm|exact sT g1 _ (by omega)|(have h1:=f0 i1 (by omega);omega)|exact Zr g0 (by omega) (by omega) i1 (by omega)|(have h1:=a9Y (ts:=ts) (as_:=as_) (l:=l) (by omega) (by omega) i1 (by omega) g3 g4;omega)|(have h1:=b2i (ts:=ts) (as_:=as_) (l:=l) (by omega) (by omega) i1 g3 g4;omega)|(have h1:=kZ g1 (.inl (by omega));have h2:=a5b g0 (by omega);have h3:=g2.gt h1.1 h2;omega)|(have h1:=kZ g1 (.inr (by omega));have h2:=a5a g0 (by omega);have h3:=g2.ga h1.1 h2;omega))
def VF:∀ n,gF [nm n]
 | 0=>⟨⟨ar ov,λ _ _ _ _ h=>absurd h.1 (b5H _)⟩,ae⟩
 | n+1=>by
  have ih:=VF n;exact⟨S2 n ⟨Nn,ae⟩ ⟨gV,Od,ae⟩ trivial ⟨ih.1,ae⟩,ae⟩
def Ov:fG.Good Ur :=
 ⟨ar ov,λ e ts as_ l hp=>(VF (cd e+1)).1.2 e ts as_ l (⟨b5C _,hp⟩)⟩
def EI.of{gg:aW}{ts as_:List J}(h:bu (cE gg) ts=true)(h2:bu (cE gg) as_=true):EI ts as_ :=
 ⟨λ y hy=>by have:=(yL gg y).1 (xr _ _ h y hy);omega,λ y hy=>by have:=(yL gg y).1 (xr _ _ h2 y hy);omega⟩
def EI.zt{ts as_:List J}(h:EI ts as_)(n:Nat):aO (ts.getD n zE)<=1000:=by
 rcases b5Q n ts.length with g|g
 .have:=(h.gt (n:=(n:Int)) (by omega) (by omega)).1;simpa using this
 .rw[b5b,b6J g];exact b5R rfl
def EI.za{ts as_:List J}(h:EI ts as_)(n:Nat):aO (as_.getD n zE)<=1000:=by
 rcases b5Q n as_.length with g|g
 .have:=(h.ga (n:=(n:Int)) (by omega) (by omega)).1;simpa using this
 .rw[b5b,b6J g];exact b5R rfl
mutual
def a1N{ts as_:List J}(h:EI ts as_):∀ x:J,aO (dx ts as_ x)<=1000 * aO x
 | ⟨k,n,ks⟩=>by
  have hx:=BL (J.mk k n ks);rw[dx];split
  .have:=h.zt n.toNat;omega
  .split
   .have:=h.za n.toNat;omega
   .have:=Zw h ks;rw[aO,aO];omega
def Zw{ts as_:List J}(h:EI ts as_):∀ xs:List J,c9 (jP ts as_ xs)<=1000 * c9 xs
 | []=>by rw[jP];simp[c9]
 | x::xs=>by
  have h1:=a1N h x;have h2:=Zw h xs;rw[jP,c9,c9];omega
end
def Y0(e:J)(ts as_:List J):J:=(e9 ts as_ e 200).1
def b3Z{gg:aW}{e:J}{ts as_:List J}(b:Bool)(h:0<=(e9 ts as_ e 200).2)(h2:As gg (e9 ts as_ e 200).1=b)(hg:bP gg=true):cE gg (dx ts as_ e)=b:=by
 rw[QS hg] at h2;rw[<-(Vt gg ts as_ e).1,b5B h,h2];rfl
def b3Y{gg:aW}{e:J}{ts as_:List J}(h:¬ 0<=(e9 ts as_ e 200).2):cE gg (dx ts as_ e)=false:=by
 rw[<-(Vt gg ts as_ e).1,b5c h];rfl
def Vu{gg:aW}{e:J}{ts as_:List J}(h:cE gg (dx ts as_ e)=true):Y0 e ts as_=dx ts as_ e:=by
 refine (Vt gg ts as_ e).2 ?_;rw[<-(Vt gg ts as_ e).1,b4S,b4N] at h;exact h.1
open Go.RowKit
mutual
def Ow.lt{w:World}:∀ (d:D) {cs:List Value} {fp:List Nat},Ow w d cs fp->∀ b∈fp,b<w.heap.size
 | .int _ _,_,_,h=>λ b hb=>by rw[h.2] at hb;cases hb
 | .bool _,_,_,h=>λ b hb=>by rw[h.2] at hb;cases hb
 | .str _,_,_,h=>λ b hb=>by rw[h.2] at hb;cases hb
 | .slice n xs,_,_,h=>λ b hb=>by
  obtain⟨a,cap,h1,h2,h3,h4,h5⟩:=h;rcases h5 with ⟨_,_,rfl⟩|⟨b',f,l,t,rfl,rfl,hh,_,hr⟩
  .cases hb
  .rcases b5h.1 hb with rfl|hb
   .exact (b5Z.1 hh).1
   .exact bR.lt xs hr b hb
 | .agg ds,_,_,h=>cT.lt ds h
 | .hole,_,_,h=>λ b hb=>by rw[h.2] at hb;cases hb
 | .ptr,_,_,h=>λ b hb=>by rw[h.2] at hb;cases hb
def cT.lt{w:World}:∀ (ds:List D) {cs:List Value} {fp:List Nat},cT w ds cs fp->∀ b∈fp,b<w.heap.size
 | [],_,_,h=>λ b hb=>by rw[h.2] at hb;cases hb
 | d::ds,_,_,h=>λ b hb=>by
  obtain⟨v,r,f1,f2,_,rfl,h3,h4⟩:=h;rcases b4Q.1 hb with hb|hb
  .exact Ow.lt d h3 b hb
  .exact cT.lt ds h4 b hb
def bR.lt{w:World}:∀ (ds:List D) {l:List Value} {fp:List Nat},bR w ds l fp->∀ b∈fp,b<w.heap.size
 | [],_,_,h=>λ b hb=>by rw[show _=[] from h] at hb;cases hb
 | d::ds,_,_,h=>λ b hb=>by
  obtain⟨c,r,f1,f2,_,rfl,h3,h4⟩:=h;rcases b4Q.1 hb with hb|hb
  .exact Ow.lt d h3 b hb
  .exact bR.lt ds h4 b hb
end
structure Nd(w:World)(b o:Nat)(x:J)(L:List Value)(t:TypeId)(fy:List Nat):Prop where
 h:w.heap[b]?=some (.cells L.toArray t (0,0))
 l:o+3<=L.length
 ow:Ow w x.aP ((L.drop o).take 3) fy
 nb:b∉fy
 nd:fy.Nodup
def Pl(w:World)(lo B:Nat)(x:J):Prop:=∃ cs t fp,w.heap[B]?=some (.cells cs.toArray t (0,0))/\Ow w x.aP cs fp/\∀ q∈fp,lo<=q
structure FT(w:World)(lo B:Nat)(x:J)(ks:List Int)(b o:Nat)(L:List Value)(t:TypeId)(fy:List Nat):Prop where
 nd:Nd w b o (dM x ks) L t fy
 flo:∀ q∈fy,lo<=q
 lb:lo<=b
 put:∀ (w':World) (y:J) (c:List Value) (f:List Nat),(∀ k,k<w.heap.size->k≠b->k∉fy->w'.heap[k]?=w.heap[k]?)->w'.heap[b]?=some (.cells (L.take o++c++L.drop (o+3)).toArray t (0,0))->c.length=3->Ow w' y.aP c f->(∀ q∈f,lo<=q)->Pl w' lo B (fV y x ks)
def b1U(w:World)(lo B:Nat)(x:J)(cs:List Value)(t:TypeId)(fp:List Nat)(h:w.heap[B]?=some (.cells cs.toArray t (0,0)))(ho:Ow w x.aP cs fp)(hb:B∉fp)(hn:fp.Nodup)(hB:lo<=B)(hl:∀ q∈fp,lo<=q):FT w lo B x [] B 0 cs t fp:=by
 have hl6:cs.length=3:=(Ow.length _ ho).trans (by cases x;rfl);refine⟨⟨h,by omega,?_,hb,hn⟩,hl,hB,λ w' y c f hk hh hc hw hf=>⟨c,t,f,?_,hw,hf⟩⟩
 .rw[b7b,b5o (by omega)];exact ho
 .rw[b5T,b5q,List.drop_of_length_le (by omega),b6a] at hh;exact hh
def O1(y:J)(k:Int):∀ (ks:List Int) (x:J),fV (J.mk (dM x ks).aq (dM x ks).aS ((dM x ks).M.set k.toNat y)) x ks=fV y x (ks++[k])
 | [],x=>rfl
 | j::ks,x=>by
  simp only[b6g,fV,dM];rw[O1 y k ks]
def TY(w:World)(z:J)(cs:List Value)(fy:List Nat)(h:Ow w z.aP cs fy):∃ c0 v,cs=c0++[v]/\c0.length=2/\Ow w (.slice 3 (z.M.map J.aP)) [v] fy /\
  ∀ (w':World) (ks:List J) (f:List Nat),Ow w' (.slice 3 (ks.map J.aP)) [v] f->Ow w' (J.mk z.aq z.aS ks).aP cs f:=by
 cases z with
 | mk k n ks =>
  simp only[J.aP,J.uw] at h;obtain⟨v0,r0,f0,g0,rfl,rfl,a0,v1,r1,f1,g1,rfl,rfl,a1,v2,r2,f2,g2,rfl,rfl,a2,rfl,rfl⟩:=h;have e0:f0=[]:=a0.2;have e1:f1=[]:=a1.2;subst e0 e1;refine⟨[v0,v1],v2,rfl,rfl,by simpa using a2,λ w' ks' f hw=>?_⟩;simp only[J.aP,J.uw];exact⟨v0,_,[],f,rfl,rfl,(a0.aR _ λ b hb=>(by cases hb)),v1,_,[],f,rfl,rfl,(a1.aR _ λ b hb=>(by cases hb)),v2,[],f,[],rfl,by simp,hw,rfl,rfl⟩
def a6J(x:J):x.aP.size=3:=by cases x;rfl
def a3V{w:World}{lo B:Nat}{x:J}{ks:List Int}{b o:Nat}{L:List Value}{t:TypeId}{fy:List Nat}(h:FT w lo B x ks b o L t fy) :
  ∃ a cap,w.cell? ⟨b,o+2,none⟩=some (.slice a (dM x ks).M.length cap)/\(dM x ks).M.length<=140737488355328:=by
 obtain⟨c0,v,e1,e2,e4,_⟩:=TY w _ _ _ h.nd.ow;obtain⟨a,cap,q1,_,_,q4,_⟩:=e4;simp only[b4X,b5d,b5g] at q1 q4;subst q1;refine⟨a,cap,?_,q4⟩;have hl:=h.nd.l;have h5:((L.drop o).take 3)[2]?=some (.slice a (dM x ks).M.length cap):=by rw[e1,b6s (by omega),e2];rfl
 rw[b7H (by omega),b6z] at h5;simp[World.cell?,h.nd.h,h5]
def a3W{w:World}{lo B:Nat}{x:J}{ks:List Int}{b o:Nat}{L:List Value}{t:TypeId}{fy:List Nat}(h:FT w lo B x ks b o L t fy)(k:Int)(hk:0<=k/\k<((dM x ks).M.length:Int)) :
  ∃ bk cap L' t' fy',w.cell? ⟨b,o+2,none⟩=some (.slice (some ⟨bk,0,none⟩) (dM x ks).M.length cap)/\(dM x ks).M.length<=140737488355328/\FT w lo B x (ks++[k]) bk (k.toNat * 3) L' t' fy':=by
 obtain⟨c0,v,e1,e2,e4,e5⟩:=TY w _ _ _ h.nd.ow;obtain⟨a,cap,q1,q2,q3,q4,q5⟩:=id e4;simp only[b4X,b5d,b5g] at q1 q2 q4;subst q1;have hl:=h.nd.l;have h5:((L.drop o).take 3)[2]?=some (.slice a (dM x ks).M.length cap):=by rw[e1,b6s (by omega),e2];rfl
 rw[b7H (by omega),b6z] at h5;rcases q5 with ⟨q5,_⟩|⟨bk,f,l,t',rfl,rfl,hb,hc,hr⟩
 .have:(dM x ks).M=[]:=b7l.1 q5;rw[this] at hk;simp at hk;omega
 have Lc:k.toNat<(dM x ks).M.length:=by omega
 have hn6:∀ d∈(dM x ks).M.map J.aP,d.size=3:=λ d hd=>by
  obtain⟨y,_,rfl⟩:=b4W.1 hd;exact a6J y
 obtain⟨f0,f1,f2,rfl,hlen,hw1,DC⟩:=bR.split _ k.toNat ((dM x ks).M.getD k.toNat zE).aP hr hn6 (by simp[Lc]);have hnk:=h.nd.nd;have hnb:=h.nd.nb;have a7N:=(b5G.1 hnk);have b0S:=b5s.1 a7N.2;have b0T:=b5s.1 b0S.1;refine⟨bk,cap,l,t',f1,?_,q4,⟨hb,hlen,?_,λ q=>a7N.1 (by simp[q]),b0T.2.1⟩,λ q hq=>h.flo q (by simp[hq]),h.flo bk (by simp),λ w' y c f' gh hh Fj hw hlo=>?_⟩
 .simp[World.cell?,h.nd.h,h5]
 .rw[(XB k ks x).2.1];exact hw1
 .rw[<-O1];have hbk:b≠bk:=λ e=>hnb (by simp[e]);have bK:=λ q hq=>Ow.lt _ h.nd.ow q hq;refine h.put w' _ ((L.drop o).take 3) (bk::(f0++f'++f2)) (λ q h1 h2 h3=>gh q h1 (λ e=>h3 (by simp[e])) λ e=>h3 (by simp[e])) ?_ (by simp;omega) ?_ (λ q hq=>?_)
  .rw[gh b (b5Z.1 h.nd.h).1 hbk λ e=>hnb (by simp[e]),h.nd.h];congr 2;have e6:L.drop (o+3)=(L.drop o).drop 3:=by rw[b6C]
   rw[e6,b5O,b6d,b6d]
  .refine e5 w' _ _ ?_;refine⟨_,cap,by rw[b5g,b5V],by rw[b5g,b5V];exact q2,q3,by rw[b5g,b5V];exact q4, .inr ⟨bk,f0++f'++f2,_,t',rfl,rfl,hh,?_,?_⟩⟩
   .simp only[b5f,b5n,b6f,Fj];omega
   .rw[b7U];exact DC w' y.aP c f' (λ q hq=>gh q (bK q (by simp only[b4Q,b5h] at hq ⊢;rcases hq with hq|hq<;>simp[hq])) (λ e=>a7N.1 (by rw[<-e];simp only[b4Q] at hq ⊢;rcases hq with hq|hq<;>simp[hq])) λ e=>by
     rcases b4Q.1 hq with hq|hq
     .exact b0T.2.2 q hq q e rfl
     .exact b0S.2.2 q (by simp[e]) q hq rfl) Fj hw
  .simp only[b4Q,b5h] at hq;rcases hq with rfl|((hq|hq)|hq)
   .exact h.flo q (by simp)
   .exact h.flo q (by simp[hq])
   .exact hlo q hq
   .exact h.flo q (by simp[hq])
end
end Go.Proofs.YtmjfpcajohhbeaaGreatDoor

namespace Go.Proofs.YtmjfpcajohhbeaaGreatDoor
noncomputable section
open Go.RowKit Go.Proofs
def J6{w:World}{b:Nat}{cs:List Value}{t:TypeId}(h:w.heap[b]?=some (.cells cs.toArray t (0,0))):cf w b 0 cs:=λ j v hj=>by
 simp[World.cell?,h,hj]
def fh{X Y Z:Nat->Prop}{a b c:World}(h:bD X a b)(k:bD Y b c)(hX:∀ i,i<a.heap.size->X i->Z i)(hY:∀ i,i<a.heap.size->Y i->Z i):bD Z a c :=
 ⟨k.os.trans h.os,k.tape.trans h.tape,k.output.trans h.output,b6x h.size k.size,λ i hi hz=>(k.block i (b5i hi h.size) λ q=>hz (hY i hi q)).trans (h.block i hi λ q=>hz (hX i hi q))⟩
def OZ(w:World)(o:Obj):bD (λ _=>False) w (w.alloc o)/\(w.alloc o).heap[w.heap.size]?=some o/\(w.alloc o).heap.size=w.heap.size+1:=by
 refine⟨⟨rfl,rfl,rfl,by simp,λ b hb _=>?_⟩,?_,by simp⟩
 .show (w.heap.push o)[b]?=_;rw[b5W,b4Z];omega
 .show (w.heap.push o)[w.heap.size]?=_;rw[b5W,b5u rfl]
def b0g{w W:World}{o1 o2 o3:Obj}(h:((w.alloc o1).alloc o2).alloc o3=W) :
  bD (λ _=>False) w W/\W.heap[w.heap.size]?=some o1/\W.heap[w.heap.size+1]?=some o2/\W.heap[w.heap.size+1+1]?=some o3/\W.heap.size=w.heap.size+3:=by
 subst h;refine⟨⟨rfl,rfl,rfl,by simp;omega,λ b hb _=>?_⟩,?_,?_,?_,by simp⟩
 .show (((w.heap.push o1).push o2).push o3)[b]?=_;rw[b5W,b5W,b5W,b4Z (by simp only[b6I];omega),b4Z (by simp only[b6I];omega),b4Z (by omega)]
 .show (((w.heap.push o1).push o2).push o3)[w.heap.size]?=_;rw[b5W,b5W,b5W,b4Z (by simp only[b6I];omega),b4Z (by simp only[b6I];omega),b5u rfl]
 .show (((w.heap.push o1).push o2).push o3)[w.heap.size+1]?=_;rw[b5W,b5W,b4Z (by simp only[b6I];omega),b5u (by simp only[b6I])]
 .show (((w.heap.push o1).push o2).push o3)[w.heap.size+1+1]?=_;rw[b5W,b5u (by simp only[b6I])]
def a4A{w0 w:World}{S:Nat->Prop}(hS:tm w0 S)(hb:Below w0.heap.size w0 w):tm w S :=
 ⟨λ b h=>b5i (hS.1 b h) hb.size,hS.2.mono (λ _ h=>h) λ b h=>hb.block b (hS.1 b h)⟩
def XT{w0 w:World}{S:Nat->Prop}(hS:tm w0 S)(hb:Below w0.heap.size w0 w){d:D}{cs:List Value}(r:Rd w0 S d cs):Rd w S d cs:=Rd.aR (λ _ h=>h) (λ b h=>hb.block b (hS.1 b h)) _ r
def tx{B:Nat}{w w':World}(h:bD (λ _=>False) w w')(hB:B<=w.heap.size):Below B w w':=⟨h.os,h.tape,h.output,h.size,λ k hk=>h.block k (by omega) id⟩
def Iq{w0 w:World}(hb:Below w0.heap.size w0 w){b o:Nat}{cs:List Value}(h:cf w0 b o cs)(h1:b<w0.heap.size):cf w b o cs:=h.aR (hb.block b h1)
def fz0{w:World}{g e j:Nat}{cur:Array Value}(h:w.heap[g]?=some (.cells cur e (0,0))):w.frozen? ⟨g,j,none⟩=false:=by simp[World.frozen?,h]
def RG{w:World}{b t:Nat}{u0 u1 u2:Value}(h:w.heap[b]?=some (.cells #[u0,u1,u2] t (0,0))):(w.cell? ⟨b,0,none⟩=some u0/\w.cell? ⟨b,1,none⟩=some u1/\w.cell? ⟨b,2,none⟩=some u2)/\w.frozen? ⟨b,0,none⟩=false/\w.frozen? ⟨b,1,none⟩=false/\w.frozen? ⟨b,2,none⟩=false :=
 ⟨⟨by simp[World.cell?,h],by simp[World.cell?,h],by simp[World.cell?,h]⟩,fz0 h,fz0 h,fz0 h⟩
def Rb{w:World}{b t:Nat}{u0 u1 u2:Value}(c0 c1 c2:Value)(h:w.heap[b]?=some (.cells #[u0,u1,u2] t (0,0))):(((w.setCell ⟨b,0,none⟩ c0).setCell ⟨b,1,none⟩ c1).setCell ⟨b,2,none⟩ c2).heap[b]?=some (.cells #[c0,c1,c2] t (0,0)) /\
  ∀ k,k≠b->(((w.setCell ⟨b,0,none⟩ c0).setCell ⟨b,1,none⟩ c1).setCell ⟨b,2,none⟩ c2).heap[k]?=w.heap[k]? :=
 ⟨b8p _ _ _ _ _ _ (b8p _ _ _ _ _ _ (b8p _ _ _ _ _ _ h)),λ k hk=>by rw[b8h _ _ _ _ hk,b8h _ _ _ _ hk,b8h _ _ _ _ hk]⟩
def ow3{w:World}{x:J}{c:List Value}{fp:List Nat}(h:Ow w x.aP c fp):∃ a m cap,c=[.int .i64 x.aq, .int .i64 x.aS, .slice a m cap]:=by
 cases x with
 | mk k n ks =>
  simp only[J.aP,J.uw] at h;obtain⟨v0,r0,f0,g0,rfl,rfl,a0,v1,r1,f1,g1,rfl,rfl,a1,v2,r2,f2,g2,rfl,rfl,a2,rfl,rfl⟩:=h;have e0:[v0]=[.int .i64 k]:=a0.1.1;have e1:[v1]=[.int .i64 n]:=a1.1.1;obtain⟨a,cap,e2,_⟩:=a2;simp only[b4X,b5d] at e0 e1 e2;subst e0 e1 e2;exact⟨a,_,cap,rfl⟩
def bD.drew{X:Nat->Prop}{w w':World}(h:bD X w w'):bD X w w'.drew:=⟨h.os,h.tape,h.output,h.size,h.block⟩
def Rd.drew{w:World}{S:Nat->Prop}{d:D}{cs:List Value}(h:Rd w S d cs):Rd w.drew S d cs:=Rd.aR (w:=w) (w':=w.drew) (λ _ h=>h) (λ _ _=>rfl) _ h
def a6v{w0 w:World}{S:Nat->Prop}(hS:tm w0 S)(hb:Below w0.heap.size w0 w)(e:J)(ts as_:List J)(l:Int)(hp:gf ts as_ e/\bg 62 62 e=true/\EI ts as_/\(aO (dx ts as_ e):Int)<=1000000+l/\l<=1000)(hl : -1000000<=l)
  (b o:Nat) (cs:List Value) (h1:b<w.heap.size) (h2:cf w b o cs) (r:Rd w0 S e.aP cs) (v3 v4:Value) (r3:Rd w0 S (.slice 3 (ts.map J.aP)) [v3]) (r4:Rd w0 S (.slice 3 (as_.map J.aP)) [v4]) (q:Nat) (t:TypeId) (hq:w.heap[q]?=some (.cells #[.int .i64 l] t (0,0))) (hq0:w0.heap.size<=q) (hbq:b≠q) :
  Calls prog qW #[.pointer (some ⟨b,o,none⟩),v3,v4, .pointer (some ⟨q,0,none⟩)] w λ x w'=>∃ (k' n':Int) (a':Option Addr) (m' c':Nat) (fp:List Nat) (t':TypeId),x = .returned (.agg #[.int .i64 k', .int .i64 n', .slice a' m' c'])/\bD (λ b=>b=q) w w'/\Ow w' (e9 ts as_ e l).1.aP [.int .i64 k', .int .i64 n', .slice a' m' c'] fp/\fp.Nodup /\
   (∀ b∈fp,w.heap.size<=b/\b<w'.heap.size)/\w'.heap[q]?=some (.cells #[.int .i64 (e9 ts as_ e l).2] t' (0,0)):=by
 have hi:O l:=⟨by show (-9223372036854775808:Int)<=l;omega,by show l<=9223372036854775807;omega⟩;have hnS:¬ S q:=λ h=>by have:=hS.1 q h;omega
 refine (Ov.2 e ts as_ l hp w S (λ _=>q) [_,_,_,_] [] (a4A hS hb) ⟨_,t,[],[],rfl,hq,⟨⟨rfl,rfl,rfl,hi⟩,rfl⟩,rfl⟩ b6b (by simp) (λ k hk=>⟨bE hq,hnS⟩) (λ j k hj hk _=>by
   have hj:j<1:=hj;have hk:k<1:=hk;omega)
  ⟨⟨b,o,cs,rfl,h1,(λ h=>by rcases h with h|⟨k,_,h⟩;cases h;exact hbq h),h2,XT hS hb r⟩,XT hS hb r3,XT hS hb r4,rfl,ae⟩).mono ?_
 rintro x w' ⟨v,S',fp,KU,rfl,hk,_,_,_,cP,hB,hn,hf,_⟩;obtain⟨c,rfl,ho⟩:=(show ∃ cs,v = .agg cs.toArray/\Ow w' (e9 ts as_ e l).1.aP cs fp from cP);obtain⟨lc,t',f1,f2,e1,YE,hR,e2⟩:=hB;have e2:f2=[]:=e2;match lc,hR with
 | [u],⟨⟨_,_,hu,_⟩,e3⟩ =>
  have hu:[u]=[.int .i64 (e9 ts as_ e l).2]:=hu;simp only[b4X,b5d] at hu;subst hu;obtain⟨a,m,cap,rfl⟩:=ow3 ho;refine⟨_,_,_,_,_,fp,t',rfl,⟨hk.os,hk.tape,hk.output,hk.size,λ i hi hq=>hk.block i hi λ h=>?_⟩,ho,(b5s.1 hn).1,λ i hi=>?_,YE⟩
  .rcases h with h|⟨k,_,h⟩
   .cases h
   .exact hq h
  .have:=(hf i (b6Z _ hi)).1;rcases this with h|h
   .cases h
   .exact h
def SN{w0 w:World}{S:Nat->Prop}(hS:tm w0 S)(hb:Below w0.heap.size w0 w)(gg:aW)(g0 g1:Value)(r1:Rd w0 S (aV.sig.aP gg) [g0,g1])(x:J)(b o:Nat)(cs:List Value)(h1:b<w.heap.size)(h2:cf w b o cs)(r:Rd w (λ b=>b<w.heap.size) x.aP cs) :
  Calls prog Cu #[.agg #[g0,g1], .pointer (some ⟨b,o,none⟩)] w λ e w'=>e = .returned (.bool (As gg x))/\bD (λ _=>False) w w':=by
 have hA:tm w λ b=>b<w.heap.size:=⟨λ _ h=>h,hS.2.mono (λ b h=>b5i (hS.1 b h) hb.size) λ b h=>hb.block b (hS.1 b h)⟩;refine (mQ.2 gg x trivial w _ [_,_] hA ⟨⟨[g0,g1],rfl,r1.aR (λ b h=>b5i (hS.1 b h) hb.size) λ b h=>hb.block b (hS.1 b h)⟩,⟨b,o,cs,rfl,h1,h2,r⟩,ae⟩).mono ?_;rintro e w' ⟨v,S',res,rfl,rfl,kM,_,_,hr⟩;have hr:[v]=[.bool (As gg x)]:=hr;simp only[b4X,b5d] at hr;subst hr;exact⟨rfl,kM⟩
def E0:Env:=MZ [] [] [] []
def hE0:bF prog E0:=RR trivial
def ld3{w:World}{g o:Nat}{cs:List Value}(hc:cf w g o cs)(hl:cs.length=3):(Instr.loadAt 38 (.pointer (some ⟨g,o,none⟩))).run prog w = .ok (.agg cs.toArray) w :=
 jS hE0 (T:=38) (τ := .st .expr) rfl hc hl
def BP{f:Func}{a:Act}{w:World}{b:Nat}{cs:List Value}{t:TypeId}{n:Value}(hf:f.results = #[.cell 8 38, .tmp 9])(h8:a.tmps.getD 8 undef = .pointer (some ⟨b,0,none⟩))(h9:a.tmps.getD 9 undef=n)(hb:w.heap[b]?=some (.cells cs.toArray t (0,0)))(hl:cs.length=3)(hd:a.defers=[])
  {R:Ending->World->Prop} (hR:R (.returned (.tuple #[.agg cs.toArray,n])) w):bodyPost prog f R .ret a w:=by
 refine bodyPost_ret ?_ hd hR;have cI:=ld3 (J6 hb) hl;simp only[Instr.loadAt,Instr.sureAddr,b5x,b5A,b5r] at cI;rw[pL,b6H];simp only[b5x,b8A,hf,b7t,List.mapM_nil,nv,h8,h9,asAddr,b5A,b5r,cI];rfl
def Tw{w w3:World}{q:Nat}{t:TypeId}{u0 u1 u2:Value}(c0 c1 c2:Value)(hk:bD (λ _=>False) w w3)(h:w3.heap[q]?=some (.cells #[u0,u1,u2] t (0,0)))(hq:w.heap.size<=q):bD (λ _=>False) w (((w3.setCell ⟨q,0,none⟩ c0).setCell ⟨q,1,none⟩ c1).setCell ⟨q,2,none⟩ c2) /\
  (((w3.setCell ⟨q,0,none⟩ c0).setCell ⟨q,1,none⟩ c1).setCell ⟨q,2,none⟩ c2).heap.size=w3.heap.size :=
 ⟨⟨hk.os,hk.tape,hk.output,by simpa using hk.size,λ b hb _=>((Rb c0 c1 c2 h).2 b (by omega)).trans (hk.block b hb id)⟩,by simp⟩
structure suP(gg:aW)(e:J)(ts as_:List J):Prop where
 s:bP gg=true
 f:gf ts as_ e
 t:bg 62 62 e=true
 n:EI ts as_
 d:aO e<=500
set_option maxRecDepth 100000 in
def a6H(gg:aW)(e:J)(ts as_:List J)(hp:suP gg e ts as_):pT prog zI [.val ⟨.st .sig,gg⟩, .ref ⟨.st .expr,e⟩, .val ⟨.slice (.st .expr),ts⟩, .val ⟨.slice (.st .expr),as_⟩] [⟨.st .expr,Y0 e ts as_⟩,⟨.bool,cE gg (dx ts as_ e)⟩]:=by
 intro w S b9 fa hS ha n1 n2 n3;clear n1 n2 n3;match b9,ha with
 | [v1,v2,v3,v4],⟨a1,b1,e1,⟨z1,⟨c1,y1,r1⟩⟩,a2,b2,e2,⟨z2,⟨b,o,cs,y2,hb,hc,r2⟩⟩,a3,b3,e3,⟨z3,r3⟩,a4,b4,e4,⟨z4,r4⟩,e5⟩ =>
 have e5:b4=[]:=e5;subst e5 z1 z2 z3 z4 y1 y2;have e4:b3=[]:=e4;subst e4;have e3:b2=[]:=e3;subst e3;have e2:b1=[]:=e2;subst e2;have e1:fa=[]:=e1;subst e1;clear e1 e2 e3 e4 e5 ha;have r3:Rd w S (.slice 3 (ts.map J.aP)) [v3]:=r3;have r4:Rd w S (.slice 3 (as_.map J.aP)) [v4]:=r4;rename_i x1 x2;clear x1 x2;obtain⟨g0,g1,rfl⟩:∃ g0 g1,c1=[g0,g1]:=by
  have:=Rd.length _ r1;match c1,this with
  | [g0,g1],_=>exact⟨_,_,rfl⟩
 obtain⟨p0,p1,p2,p3,p4⟩:=hp;have b4s:=a1N p3 e;generalize hPo:(λ (x:Ending) (w':World)=>∃ v fp,x=Ending.returned v/\bD (λ b=>b∈([]:List Nat)) w w'/\uz w' [(⟨Ty.st aV.expr,Y0 e ts as_⟩:TV),⟨Ty.bool,cE gg (dx ts as_ e)⟩] v fp/\fp.Nodup/\∀ b∈fp,b∈([]:List Nat)\/(w.heap.size<=b/\b<w'.heap.size))=Po;go_enter Tryz.func64,Tryz.ntmps64;go_wp2;generalize hW:((w.alloc _).alloc _).alloc _=W;obtain⟨k1,h1,h2,h3,h4⟩:=b0g hW;clear hW;have b1:Below w.heap.size w W:=tx k1 (b5w _);refine (a6v hS b1 e ts as_ 200 ⟨p1,p2,p3,by omega,by omega⟩ (by omega) b o cs (b5i hb k1.size) (Iq b1 hc hb) r2 v3 v4 r3 r4 _ _ h3 (by omega) (by omega)).mono ?_;rintro _ w1 ⟨k',n',a',m',c',fp,t',rfl,k2,ho,hn,hf,hq⟩;have e1:=(k2.block _ (bE h1) (by omega)).trans h1;have e2:=(k2.block _ (bE h2) (by omega)).trans h2;have k3:bD (λ _=>False) w w1:=fh k1 k2 (λ _ _ q=>q) λ i hi q=>by omega
 clear h1 h2 h3 k1 k2 b1;go_wp2_with fail;obtain⟨k4,e4,s4⟩:=OZ w1 (.cells #[.int .i64 k', .int .i64 n', .slice a' m' c'] 38);have e5:=(k4.block _ (bE e1) id).trans e1;have e6:=(k4.block _ (bE e2) id).trans e2;have e7:=(k4.block _ (bE hq) id).trans hq;have l4:=bE e4;have ho4:=ho.aR _ λ b hb=>k4.block b (hf b hb).2 id;have k5:bD (λ _=>False) w (w1.alloc (.cells #[.int .i64 k', .int .i64 n', .slice a' m' c'] 38)).drew:=(fh k3 (Z:=λ _=>False) k4 (λ _ _ q=>q) λ _ _ q=>q).drew;have f1:∀ b∈fp,w.heap.size<=b/\b<w1.heap.size/\b≠w.heap.size/\b≠w.heap.size+1/\b≠w.heap.size+1+1:=λ b hb=>by have:=hf b hb;omega
 have sz1:=k3.size;have l1:=bE e1;have l2:=bE e2;have l3:=bE hq;clear e1 e2 hq ho k3 hf;generalize hw1:w1.heap.size=q1 at *
 generalize w1.alloc (.cells #[.int .i64 k', .int .i64 n', .slice a' m' c'] 38)=w2 at *
 have e4d:w2.drew.heap[q1]?=some (.cells #[.int .i64 k', .int .i64 n', .slice a' m' c'] 38 (0,0)):=e4;have e5d:w2.drew.heap[w.heap.size]?=some (.cells #[g0,g1] 41 (0,0)):=e5;have e6d:w2.drew.heap[w.heap.size+1]?=some (.cells #[.int .i64 0, .int .i64 0, .slice none 0 0] 38 (0,0)):=e6;have e7d:w2.drew.heap[w.heap.size+1+1]?=some (.cells #[.int .i64 (e9 ts as_ e 200).2] t' (0,0)):=e7;obtain⟨⟨z0,z1,z2⟩,_⟩:=RG e4d;obtain⟨⟨y0,y1,y2⟩,y3,y4,y5⟩:=RG e6d;have u0:w2.drew.cell? ⟨w.heap.size,0,none⟩=some g0:=by simp[World.cell?,e5d]
 have u1:w2.drew.cell? ⟨w.heap.size,1,none⟩=some g1:=by simp[World.cell?,e5d]
 have x0:w2.drew.cell? ⟨w.heap.size+1+1,0,none⟩=some (.int .i64 (e9 ts as_ e 200).2):=by simp[World.cell?,e7d]
 have ro:Rd w2.drew (λ b=>b<w2.drew.heap.size) (e9 ts as_ e 200).1.aP [.int .i64 k', .int .i64 n', .slice a' m' c']:=Rd.drew (S:=λ b=>b<w2.heap.size) (ho4.rd _ λ b hb=>by have:=(f1 b hb).2.1;show b<w2.heap.size;omega);have b5:Below w.heap.size w w2.drew:=tx k5 (b5w _);by_cases hl:0<=(e9 ts as_ e 200).2
 .have hd:decide ((0:Int)<=(e9 ts as_ e 200).2)=true:=b5B hl;have YD:=SN hS b5 gg g0 g1 r1 (e9 ts as_ e 200).1 q1 0 _ (bE e4d) (J6 e4d) ro;go_region_with (first
   | (
     go_at_call 39
     refine YD.mono ?_
     rintro _ w3 ⟨rfl,k6⟩
     have e4e:=(k6.block _ (bE e4d) id).trans e4d
     have e6e:=(k6.block _ (bE e6d) id).trans e6d
     obtain⟨⟨v0,v1,v2⟩,_⟩:=RG e4e
     obtain⟨⟨t0,t1,t2⟩,t3,t4,t5⟩:=RG e6e))
  all_goals
   have k7:=fh (Z:=λ _=>False) k5 k6 (λ _ _ q=>q) λ _ _ q=>q
   obtain⟨x9,o9⟩:=Rb (.int .i64 k') (.int .i64 n') (.slice a' m' c') e6e
   obtain⟨k8,s8⟩:=Tw (.int .i64 k') (.int .i64 n') (.slice a' m' c') k7 e6e (by omega)
   obtain⟨⟨j0,j1,j2⟩,_⟩:=RG x9
   have ho5:=ho4.aR (w':=((w3.setCell ⟨w.heap.size+1,0,none⟩ (.int .i64 k')).setCell ⟨w.heap.size+1,1,none⟩ (.int .i64 n')).setCell ⟨w.heap.size+1,2,none⟩ (.slice a' m' c')) _ λ b hb=>(o9 b (f1 b hb).2.2.2.1).trans (k6.block b (by have:=(f1 b hb).2.1;show b<w2.heap.size;omega) id)
   generalize ((w3.setCell ⟨w.heap.size+1,0,none⟩ (.int .i64 k')).setCell ⟨w.heap.size+1,1,none⟩ (.int .i64 n')).setCell ⟨w.heap.size+1,2,none⟩ (.slice a' m' c')=w4 at *
   go_wp2
   refine BP rfl rfl rfl x9 rfl rfl ?_
   rw[<-hPo]
   refine⟨_,fp,rfl,⟨k8.os,k8.tape,k8.output,k8.size,λ i hi _=>k8.block i hi id⟩,⟨[_,_],rfl,fp,[],(b6a fp).symm,⟨_,rfl,ho5⟩,[],[],rfl,?_,rfl⟩,hn,λ b hb => .inr ⟨(f1 b hb).1,by have:=(f1 b hb).2.1;have:=k6.size;have:w2.drew.heap.size=w2.heap.size:=rfl;omega⟩⟩
   exact⟨congrArg (λ x=>[Value.bool x]) (b3Z _ hl rfl p0).symm,rfl⟩
 .have hd:decide ((0:Int)<=(e9 ts as_ e 200).2)=false:=b5c hl;obtain⟨⟨i0,i1,i2⟩,i3,i4,i5⟩:=RG e6;have k5':bD (λ _=>False) w w2:=⟨k5.os,k5.tape,k5.output,k5.size,k5.block⟩;go_region;all_goals
   have k7:=fh (Z:=λ _=>False) k5' (bD.refl _ _) (λ _ _ q=>q) λ _ _ q=>q
   obtain⟨x9,o9⟩:=Rb (.int .i64 k') (.int .i64 n') (.slice a' m' c') e6
   obtain⟨k8,s8⟩:=Tw (.int .i64 k') (.int .i64 n') (.slice a' m' c') k7 e6 (by omega)
   obtain⟨⟨j0,j1,j2⟩,_⟩:=RG x9
   have ho5:=ho4.aR (w':=((w2.setCell ⟨w.heap.size+1,0,none⟩ (.int .i64 k')).setCell ⟨w.heap.size+1,1,none⟩ (.int .i64 n')).setCell ⟨w.heap.size+1,2,none⟩ (.slice a' m' c')) _ λ b hb=>(o9 b (f1 b hb).2.2.2.1).trans rfl
   generalize ((w2.setCell ⟨w.heap.size+1,0,none⟩ (.int .i64 k')).setCell ⟨w.heap.size+1,1,none⟩ (.int .i64 n')).setCell ⟨w.heap.size+1,2,none⟩ (.slice a' m' c')=w4 at *
   go_wp2
   refine BP (w:=w4.drew) rfl rfl rfl x9 rfl rfl ?_
   rw[<-hPo]
   refine⟨_,fp,rfl,⟨k8.os,k8.tape,k8.output,k8.size,λ i hi _=>k8.block i hi id⟩,⟨[_,_],rfl,fp,[],(b6a fp).symm,⟨_,rfl,ho5.aR (w':=w4.drew) _ λ _ _=>rfl⟩,[],[],rfl,?_,rfl⟩,hn,λ b hb => .inr ⟨(f1 b hb).1,by have:=(f1 b hb).2.1;have:w4.drew.heap.size=w4.heap.size:=rfl;omega⟩⟩
   exact⟨congrArg (λ x=>[Value.bool x]) (b3Y (gg:=gg) (e:=e) (ts:=ts) (as_:=as_) (by omega)).symm,rfl⟩
def vO:aN:=⟨zI,[.v (.st .sig), .r (.st .expr), .v (.slice (.st .expr)), .v (.slice (.st .expr))],λ (gg:aW) (e:J) (ts:List J) (as_:List J)=>⟨(some (suP gg e ts as_),[⟨(.st .expr),Y0 e ts as_⟩,⟨.bool,cE gg (dx ts as_ e)⟩])⟩⟩
def Oe:aN.cZ vO :=
 ⟨ar Ua rfl (by decide),λ gg e ts as_ h=>a6H gg e ts as_ h⟩
def P0:aN.Good vO:=Oe.plain
end
end Go.Proofs.YtmjfpcajohhbeaaGreatDoor

namespace Go.Proofs.YtmjfpcajohhbeaaGreatDoor
noncomputable section
open Go.RowKit Go.Proofs
def FT.same{w w':World}{lo B:Nat}{x:J}{ks:List Int}{b o:Nat}{L:List Value}{t:TypeId}{fy:List Nat}(h:FT w lo B x ks b o L t fy)(e:w'.heap=w.heap):FT w' lo B x ks b o L t fy :=
 ⟨⟨by rw[e];exact h.nd.h,h.nd.l,h.nd.ow.aR _ λ _ _=>by rw[e],h.nd.nb,h.nd.nd⟩,h.flo,h.lb,λ w'' y c f hk=>h.put w'' y c f λ k h1=>by rw[<-e];exact hk k (by rw[e];exact h1)⟩
def a6o{w:World}{b o:Nat}{x:J}{L:List Value}{t:TypeId}{fy:List Nat}(h:Nd w b o x L t fy):cf w b o ((L.drop o).take 3):=λ j v hj=>by
 have hj3:j<3:=by
  have:=(b5K.1 hj).1;rw[b5n] at this;omega
 rw[b7H hj3,b6z] at hj;simp[World.cell?,h.h,hj]
def a8h{w:World}{lo B:Nat}{x:J}{ks:List Int}:a6Q w x ks λ k b o=>∃ L t fy,FT w lo B x (ks.take k) b o L t fy:=by
 rintro k b o ⟨L,t,fy,h⟩ hk;obtain⟨a,m,cap,hc3⟩:=ow3 h.nd.ow;have hc:=a6o h.nd;rw[hc3] at hc;have h0:=hc 0 _ rfl;obtain⟨a',Tt,h2,hl⟩:=a3V h;refine⟨h0,a',Tt,h2,hl,λ j hkn hj Yz=>?_⟩;obtain⟨bk,b4q,L',t',fy',h3,_,h4⟩:=a3W h (j:Int) ⟨by omega,by omega⟩;rw[h3] at h2;simp only[Option.some.injEq,Value.slice.injEq,true_and] at h2;refine⟨bk,0,h2.1.symm,L',t',fy',?_⟩;rw[cC 0 ks k hkn,hj];simpa using h4
def Ok{w0 w:World}{S:Nat->Prop}(hS:tm w0 S)(hb:Below w0.heap.size w0 w)(x:J)(hx:aE x<=1048576)(b o:Nat)(cs:List Value)(h1:b<w.heap.size)(h2:cf w b o cs)(r:Rd w0 S x.aP cs) :
  Calls prog qQ #[.pointer (some ⟨b,o,none⟩)] w λ e w'=>∃ (k' n':Int) (a':Option Addr) (m' c':Nat) (fp:List Nat),e = .returned (.agg #[.int .i64 k', .int .i64 n', .slice a' m' c'])/\bD (λ _=>False) w w'/\Ow w' x.aP [.int .i64 k', .int .i64 n', .slice a' m' c'] fp/\fp.Nodup/\∀ q∈fp,w.heap.size<=q/\q<w'.heap.size:=by
 refine (gV.2 x hx w S [_] [] (a4A hS hb) ⟨[],[],rfl,⟨rfl,⟨b,o,cs,rfl,h1,h2,XT hS hb r⟩⟩,rfl⟩ (.inl rfl) List.nodup_nil (by simp)).mono ?_;rintro e w' ⟨v,fp,rfl,kM,cP,hn,hf⟩;obtain⟨c,rfl,ho⟩:=(show ∃ cs,v = .agg cs.toArray/\Ow w' x.aP cs fp from cP);obtain⟨a,m,cap,rfl⟩:=ow3 ho;exact⟨_,_,_,_,_,fp,rfl,by simpa using kM,ho,hn,λ q hq=>by simpa using hf q hq⟩
def a1B{w0 w:World}{S:Nat->Prop}(hS:tm w0 S)(hb:Below w0.heap.size w0 w)(x:J)(b o:Nat)(cs:List Value)(h1:b<w.heap.size)(h2:cf w b o cs)(r:Rd w0 S x.aP cs) :
  Calls prog iO #[.pointer (some ⟨b,o,none⟩)] w λ e w'=>e = .returned (.bool (bq x))/\bD (λ _=>False) w w':=by
 refine (jz.2 x trivial w _ [_] (a4A hS hb) ⟨⟨b,o,cs,rfl,h1,h2,XT hS hb r⟩,ae⟩).mono ?_;rintro e w' ⟨v,S',res,rfl,rfl,kM,_,_,hr⟩;have hr:[v]=[.bool (bq x)]:=hr;simp only[b4X,b5d] at hr;subst hr;exact⟨rfl,kM⟩
def BS{P:Program}{ops:Array Oper}{rest:List Oper}{op:Oper}{a:Act}{w w':World}{Q:Exit->Act->World->Prop}{ty:TypeId}{x y:Operand}{p v:Value}(hgd:op.guard=none)(ho:op.op = .store ty x y)
  (hx:a.eval x=p) (hy:a.eval y=v) (hr:(Instr.storeAt ty p v).run P w = .ok () w') (h:wpList P ops Q rest (a.put op.dst undef) w'):wpList P ops Q (op::rest) a w :=
 wpList_plain hgd λ K hK=>by
  unfold Oper.wp execOp;simp only[ho,hx,hy,Sem.run_bind,Sem.run_pure,Result.andThen_ok,hr];exact hK _ _ h
def st3{w:World}{g o:Nat}{l cs:List Value}{t:TypeId}(hg:w.heap[g]?=some (.cells l.toArray t (0,0)))(h6:cs.length=3)(h1:∀ u∈cs,u.oneCell'=true)(Dz:o+3<=l.length) :
  ∃ w',(Instr.storeAt 38 (.pointer (some ⟨g,o,none⟩)) (.agg cs.toArray)).run prog w = .ok () w'/\w'.heap[g]?=some (.cells (l.take o++cs++l.drop (o+3)).toArray t (0,0))/\bD (λ b=>b=g) w w'/\w'.heap.size=w.heap.size:=by
 have:=xn (c:=⟨prog,E0,w,λ _=>False,λ _=>False,λ _=>none,λ _=>False,λ _=>none⟩) hE0 (T:=38) (τ := .st .expr) rfl (o:=o) (x := .agg cs.toArray) hg (by simp only[Value.cells];exact h6) (by simpa [Value.cells] using h1) Dz;refine⟨_,this,?_,⟨rfl,rfl,rfl,by simp,λ b _ hb=>setRow_other w g b _ hb⟩,by simp⟩;rw[setRow_heap w g _ _ t _ hg];rfl
def ZI{n:Int}(h:IntKind.i64.min<=n/\n<=IntKind.i64.max):O n:=h
def zC:List Value:=[.int .i64 0, .int .i64 0, .slice none 0 0]
def a0c(w:World)(S:Nat->Prop)(V:J)(C:Int)(e:Ending)(w':World):Prop :=
 ∃ x S' res,e=Ending.returned x/\res=[(⟨.st .expr,V⟩:TV),⟨.int .i64,C⟩]/\bD (λ _=>False) w w' /\
  (∀ b,b<w.heap.size->(S' b↔S b))/\(∀ b,S' b->b<w'.heap.size)/\HS w' S' res x
def Rp{w w':World}{S:Nat->Prop}{V:J}{C c:Int}(hS:tm w S)(hk:bD (λ _=>False) w w')(h:V=J.mk (0:Int) (0:Int) []/\C=c)(hc:O c) :
  a0c w S V C (.returned (.tuple #[.agg #[.int .i64 0, .int .i64 0, .slice none 0 0], .int .i64 c])) w':=by
 refine⟨_,S,_,rfl,rfl,hk,λ _ _=>b6P,λ b hb=>b5i (hS.1 b hb) hk.size,[_,_],rfl,⟨zC,rfl,?_⟩,?_,ae⟩
 .rw[h.1];have h0:IntKind.i64.min<=0/\(0:Int)<=IntKind.i64.max:=by decide
  have hs:∀ n,Rd w' S (.slice n []) [.slice none 0 0]:=λ n=>⟨none,0,rfl,by simp,by simp[maxLen],by simp, .inl rfl⟩;exact⟨_,_,rfl,⟨rfl,h0⟩,_,_,rfl,⟨rfl,h0⟩,_,_,rfl,hs _,rfl⟩
 .rw[h.2];exact⟨rfl,hc⟩
def b0f{w W:World}{o1 o2:Obj}(h:(w.alloc o1).alloc o2=W) :
  bD (λ _=>False) w W/\W.heap[w.heap.size]?=some o1/\W.heap[w.heap.size+1]?=some o2/\W.heap.size=w.heap.size+2:=by
 subst h;refine⟨⟨rfl,rfl,rfl,by simp;omega,λ b hb _=>?_⟩,?_,?_,by simp⟩
 .show ((w.heap.push o1).push o2)[b]?=_;rw[b5W,b5W,b4Z (by simp only[b6I];omega),b4Z (by omega)]
 .show ((w.heap.push o1).push o2)[w.heap.size]?=_;rw[b5W,b5W,b4Z (by simp only[b6I];omega),b5u rfl]
 .show ((w.heap.push o1).push o2)[w.heap.size+1]?=_;rw[b5W,b5u (by simp only[b6I])]
structure RqP(gg:aW)(x y:J):Prop where
 s:bP gg=true
 x:aE x<=1048576
 y:aE y<=1048576
set_option maxRecDepth 100000 in
def a6y(gg:aW)(x:J)(ps:List Int)(y:J)(hp:RqP gg x y):gw prog ky [.val ⟨.st .sig,gg⟩, .ref ⟨.st .expr,x⟩, .val ⟨.slice (.int .i64),ps⟩, .ref ⟨.st .expr,y⟩] (·=[⟨.st .expr,Au gg x ps y⟩,⟨.int .i64,pQ gg x ps y⟩]):=by
 intro w S b9 hS ha;match b9,ha with
 | [v1,v2,v3,v4],ha =>
 obtain⟨⟨c1,rfl,r1⟩,⟨b,o,cs,rfl,hb,hc,r2⟩,r3,⟨by_,oy,cy,rfl,hby,hcy,r4⟩,_⟩:=ha;have r3:Rd w S (.slice 1 (ps.map (D.int .i64))) [v3]:=r3;obtain⟨g0,g1,rfl⟩:∃ g0 g1,c1=[g0,g1]:=by
  have:=Rd.length _ r1;match c1,this with
  | [g0,g1],_=>exact⟨_,_,rfl⟩
 show Calls prog ky _ w (a0c w S (Au gg x ps y) (pQ gg x ps y));generalize hPo:a0c w S (Au gg x ps y) (pQ gg x ps y)=Po;go_enter Tryz.func93,Tryz.ntmps93;go_wp2;generalize hW:(w.alloc _).alloc _=W;obtain⟨k1,h1,h2,h4⟩:=b0f hW;clear hW;have b1:Below w.heap.size w W:=tx k1 (b5w _);refine (Ok hS b1 x hp.x b o cs (b5i hb k1.size) (Iq b1 hc hb) r2).mono ?_;rintro _ w1 ⟨k',n',a',m',c',fp,rfl,k2,ho,hn,hf⟩;go_wp2_with fail;obtain⟨k4,e4,s4⟩:=OZ w1 (.cells #[.int .i64 k', .int .i64 n', .slice a' m' c'] 38);have e1:=(k4.block _ ((k2.block _ (bE h1) id).trans h1 |> bE) id).trans ((k2.block _ (bE h1) id).trans h1);have e2:=(k4.block _ ((k2.block _ (bE h2) id).trans h2 |> bE) id).trans ((k2.block _ (bE h2) id).trans h2);have k3:bD (λ _=>False) w (w1.alloc (.cells #[.int .i64 k', .int .i64 n', .slice a' m' c'] 38)):=fh (fh (Z:=λ _=>False) k1 k2 (λ _ _ q=>q) λ _ _ q=>q) k4 (λ _ _ q=>q) λ _ _ q=>q;have ho2:=ho.aR _ λ b hb=>k4.block b (hf b hb).2 id;have hs2:=k2.size;have hl0:W.heap.size<=w1.heap.size:=hs2;have jM:∀ q∈fp,W.heap.size<=q:=λ q hq=>(hf q hq).1;have hBn:w1.heap.size∉fp:=λ q=>by have:=(hf _ q).2;omega
 clear k2 k4 ho hf h1 h2;generalize hB:w1.heap.size=B at *
 generalize w1.alloc (.cells #[.int .i64 k', .int .i64 n', .slice a' m' c'] 38)=w2 at *
 have r3':Rd w2 S (.slice 1 (ps.map (D.int .i64))) [v3]:=XT hS (tx k3 (b5w _)) r3;have l0:FT w2 W.heap.size B x (ps.take 0) B 0 [.int .i64 k', .int .i64 n', .slice a' m' c'] 38 fp:=by
  rw[b5T];exact b1U w2 W.heap.size B x _ 38 fp e4 ho2 hBn hn hl0 jM
 have hA:=a1r w2 x ps (λ k b o=>∃ L t fy,FT w2 W.heap.size B x (ps.take k) b o L t fy) B 0 (by exact⟨_,_,_,l0⟩) a8h v3 S r3';refine hA.mono ?_;rintro _ w4 ⟨⟨m,hm⟩,p,bl,rfl,kA,bA,oA,hkA,rfl,hLA,hEA,hBA,Ww⟩;have hh:w4.heap=w2.heap:=by rw[hm];rfl
 have k5:bD (λ _=>False) w w4:=by rw[hm];exact⟨k3.os,k3.tape,k3.output,k3.size,k3.block⟩
 have e5:w4.heap[w.heap.size]?=some (.cells #[g0,g1] 41 (0,0)):=by rw[hh];exact e1
 have e6:w4.heap[w.heap.size+1]?=some (.cells #[.int .i64 0, .int .i64 0, .slice none 0 0] 38 (0,0)):=by rw[hh];exact e2
 have hB4:B<w4.heap.size:=by rw[hh,s4];omega
 obtain⟨⟨y0,y1,y2⟩,y3,y4,y5⟩:=RG e6;have b5:Below w.heap.size w w4:=tx k5 (b5w _);have hLs:∀ b o,(∃ L t fy,FT w2 W.heap.size B x (ps.take ps.length) b o L t fy)->∃ L t fy,FT w4 W.heap.size B x ps b o L t fy:=λ b o ⟨L,t,fy,h⟩=>⟨L,t,fy,by rw[b7j] at h;exact h.same hh⟩;clear hm hA;cases cR:eC x ps
 .obtain⟨x9,o9⟩:=Rb (.int .i64 0) (.int .i64 0) (.slice none 0 0) e6;obtain⟨k8,s8⟩:=Tw (.int .i64 0) (.int .i64 0) (.slice none 0 0) k5 e6 (by omega);go_wp2;refine BP (cs:=zC) rfl rfl rfl x9 rfl rfl ?_;rw[<-hPo];exact Rp hS k8 (a8L cR) (ZI (by decide))
 have Qe:=Ww cR;subst Qe;rw[(XA ps x cR).2] at hBA;subst hBA;have hLx:=hLA;obtain⟨L,t,fy,hL⟩:=hLs _ _ hLx;generalize bA=bn at *
 generalize oA=on at *
 clear hLs hLx hLA Ww hh;have r4':=XT hS b5 r4;have b3o:by_<w4.heap.size:=b5i hby k5.size;have b3r:=Iq b5 hcy hby;have hC:=a1B hS b5 y by_ oy cy b3o b3r r4;generalize hbl:o7 x ps=bl at *
 have hs1:=k1.size;cases bl
 .have hgo:FE x ps=false\/bq y=true := .inl (by unfold FE;rw[hbl,Bool.and_false]);have k6:bD (λ _=>False) w4 w4:=bD.refl _ _;have bb5:=b5;go_wp2_with fail;refine (Ok hS bb5 y hp.y by_ oy cy (Nat.lt_of_lt_of_le hby bb5.size) (Iq bb5 hcy hby) r4).mono ?_;rintro _ w6 ⟨k'',n'',a'',m'',c'',fp2,rfl,k7,ho6,hn6,hf6⟩;have hs6:=k6.size;have hs7:=k7.size;have IY:bD (λ _=>False) w4 w6:=fh k6 k7 (λ _ _ q=>q) λ _ _ q=>q;have Yu:=bE hL.nd.h;have hL6:w6.heap[bn]?=some (.cells L.toArray t (0,0)):=(IY.block bn Yu id).trans hL.nd.h;obtain⟨w7,cw,e15,WV,b3C⟩:=st3 (o:=on) (cs:=[.int .i64 k'', .int .i64 n'', .slice a'' m'' c'']) hL6 rfl (by simp[Value.oneCell']) hL.nd.l;have hlb:=hL.lb;have k8:bD (λ _=>False) w w6:=fh k5 IY (λ _ _ q=>q) λ _ _ q=>q;have k17:bD (λ _=>False) w w7:=fh k8 WV (λ _ _ q=>q) λ i h q=>by omega
  have hP:Pl w7 W.heap.size B (fV y x ps):=by
   refine hL.put w7 y _ fp2 (λ k h1 h2 h3=>(WV.block k (b5i h1 IY.size) h2).trans (IY.block k h1 id)) e15 rfl (ho6.aR _ λ q hq=>?_) λ q hq=>?_
   .have:=hf6 q hq;exact WV.block q this.2 (by omega)
   .have:=hf6 q hq;have:=b5.size;omega
  obtain⟨c8,t8,f8,q1,q2,q3⟩:=hP;obtain⟨a8,m8,Im,rfl⟩:=ow3 q2;have e16:=(WV.block _ (b5i (bE e5) IY.size) (by omega)).trans ((IY.block _ (bE e5) id).trans e5);have e17:=(WV.block _ (b5i (bE e6) IY.size) (by omega)).trans ((IY.block _ (bE e6) id).trans e6);have u0:w7.cell? ⟨w.heap.size,0,none⟩=some g0:=by simp[World.cell?,e16]
  have u1:w7.cell? ⟨w.heap.size,1,none⟩=some g1:=by simp[World.cell?,e16]
  have YD:=SN hS (tx k17 (b5w _)) gg g0 g1 r1 (fV y x ps) B 0 _ (bE q1) (J6 q1) (Ow.rd _ q2 λ q hq=>Ow.lt _ q2 q hq);go_wp2_with (first|(refine BS rfl rfl rfl rfl cw ?_)|(go_at_call 39;refine YD.mono ?_));rintro _ w8 ⟨rfl,WW⟩;have MY:=(WW.block _ (bE e17) id).trans e17;have e19:=(WW.block _ (bE q1) id).trans q1;have k19:bD (λ _=>False) w w8:=fh k17 WW (λ _ _ q=>q) λ _ _ q=>q;rw[QS hp.s];obtain⟨⟨i0,i1,i2⟩,i3,i4,i5⟩:=RG MY;obtain⟨⟨j0,j1,j2⟩,_⟩:=RG e19;cases hiA:cE gg (fV y x ps)
  .obtain⟨x9,o9⟩:=Rb (.int .i64 0) (.int .i64 0) (.slice none 0 0) MY;obtain⟨WX,s20⟩:=Tw (.int .i64 0) (.int .i64 0) (.slice none 0 0) k19 MY (by omega);go_wp2;refine BP (cs:=zC) rfl rfl rfl x9 rfl rfl ?_;rw[<-hPo];exact Rp hS WX (JQ cR hgo false hiA) (ZI (by decide))
  .obtain⟨x9,o9⟩:=Rb (.int .i64 (fV y x ps).aq) (.int .i64 (fV y x ps).aS) (.slice a8 m8 Im) MY;obtain⟨WX,s20⟩:=Tw (.int .i64 (fV y x ps).aq) (.int .i64 (fV y x ps).aS) (.slice a8 m8 Im) k19 MY (by omega);have ho9:=q2.aR (w':=((w8.setCell ⟨w.heap.size+1,0,none⟩ (.int .i64 (fV y x ps).aq)).setCell ⟨w.heap.size+1,1,none⟩ (.int .i64 (fV y x ps).aS)).setCell ⟨w.heap.size+1,2,none⟩ (.slice a8 m8 Im)) _ λ q hq=>(o9 q (by have:=q3 q hq;omega)).trans (WW.block q (Ow.lt _ q2 q hq) id);have b3D:=WW.size;have a7K:=λ q hq=>Ow.lt _ q2 q hq;go_wp2;generalize ((w8.setCell ⟨w.heap.size+1,0,none⟩ (.int .i64 (fV y x ps).aq)).setCell ⟨w.heap.size+1,1,none⟩ (.int .i64 (fV y x ps).aS)).setCell ⟨w.heap.size+1,2,none⟩ (.slice a8 m8 Im)=w9 at *
   refine BP (cs:=[.int .i64 (fV y x ps).aq, .int .i64 (fV y x ps).aS, .slice a8 m8 Im]) rfl rfl rfl x9 rfl rfl ?_;rw[<-hPo];have hd:=JQ (gg:=gg) cR hgo true hiA;refine⟨_,λ b=>S b\/(w.heap.size<=b/\b<w9.heap.size),_,rfl,rfl,WX,λ b hb=>⟨λ h=>h.elim id λ h=>absurd h.1 (by omega), .inl⟩,λ b h=>h.elim (λ h=>b5i (hS.1 b h) WX.size) λ h=>h.2,[_,_],rfl,⟨_,rfl,?_⟩,?_,ae⟩
   .rw[hd.1];exact ho9.rd _ λ q hq => .inr ⟨by have:=q3 q hq;omega,by have:=a7K q hq;omega⟩
   .rw[hd.2];exact⟨rfl,ZI (by decide)⟩
 .cases hcd:bq y
  .rw[hcd] at hC;go_wp2_with (go_at_call 108;refine hC.mono ?_);rintro _ w5 ⟨rfl,k6⟩;have MY:=(k6.block _ (bE e6) id).trans e6;have k19:bD (λ _=>False) w w5:=fh k5 k6 (λ _ _ q=>q) λ _ _ q=>q;obtain⟨⟨i0,i1,i2⟩,i3,i4,i5⟩:=RG MY;obtain⟨x9,o9⟩:=Rb (.int .i64 0) (.int .i64 0) (.slice none 0 0) MY;obtain⟨WX,s20⟩:=Tw (.int .i64 0) (.int .i64 0) (.slice none 0 0) k19 MY (by omega);go_wp2;refine BP (cs:=zC) rfl rfl rfl x9 rfl rfl ?_;rw[<-hPo];exact Rp hS WX (a4x cR (by unfold FE;rw[cR,hbl];rfl) hcd) (ZI (by decide))
  .rw[hcd] at hC;have hgo:FE x ps=false\/bq y=true := .inr hcd;go_wp2_with (go_at_call 108;refine hC.mono ?_);rintro _ w5 ⟨rfl,k6⟩;have bb5:Below w.heap.size w w5:=tx (fh (Z:=λ _=>False) k5 k6 (λ _ _ q=>q) λ _ _ q=>q) (b5w _);go_wp2_with fail;refine (Ok hS bb5 y hp.y by_ oy cy (b5i hby bb5.size) (Iq bb5 hcy hby) r4).mono ?_;rintro _ w6 ⟨k'',n'',a'',m'',c'',fp2,rfl,k7,ho6,hn6,hf6⟩;have hs6:=k6.size;have hs7:=k7.size;have IY:bD (λ _=>False) w4 w6:=fh k6 k7 (λ _ _ q=>q) λ _ _ q=>q;have Yu:=bE hL.nd.h;have hL6:w6.heap[bn]?=some (.cells L.toArray t (0,0)):=(IY.block bn Yu id).trans hL.nd.h;obtain⟨w7,cw,e15,WV,b3C⟩:=st3 (o:=on) (cs:=[.int .i64 k'', .int .i64 n'', .slice a'' m'' c'']) hL6 rfl (by simp[Value.oneCell']) hL.nd.l;have hlb:=hL.lb;have k8:bD (λ _=>False) w w6:=fh k5 IY (λ _ _ q=>q) λ _ _ q=>q;have k17:bD (λ _=>False) w w7:=fh k8 WV (λ _ _ q=>q) λ i h q=>by omega
   have hP:Pl w7 W.heap.size B (fV y x ps):=by
    refine hL.put w7 y _ fp2 (λ k h1 h2 h3=>(WV.block k (b5i h1 IY.size) h2).trans (IY.block k h1 id)) e15 rfl (ho6.aR _ λ q hq=>?_) λ q hq=>?_
    .have:=hf6 q hq;exact WV.block q this.2 (by omega)
    .have:=hf6 q hq;have:=b5.size;omega
   obtain⟨c8,t8,f8,q1,q2,q3⟩:=hP;obtain⟨a8,m8,Im,rfl⟩:=ow3 q2;have e16:=(WV.block _ (b5i (bE e5) IY.size) (by omega)).trans ((IY.block _ (bE e5) id).trans e5);have e17:=(WV.block _ (b5i (bE e6) IY.size) (by omega)).trans ((IY.block _ (bE e6) id).trans e6);have u0:w7.cell? ⟨w.heap.size,0,none⟩=some g0:=by simp[World.cell?,e16]
   have u1:w7.cell? ⟨w.heap.size,1,none⟩=some g1:=by simp[World.cell?,e16]
   have YD:=SN hS (tx k17 (b5w _)) gg g0 g1 r1 (fV y x ps) B 0 _ (bE q1) (J6 q1) (Ow.rd _ q2 λ q hq=>Ow.lt _ q2 q hq);go_wp2_with (first|(refine BS rfl rfl rfl rfl cw ?_)|(go_at_call 39;refine YD.mono ?_));rintro _ w8 ⟨rfl,WW⟩;have MY:=(WW.block _ (bE e17) id).trans e17;have e19:=(WW.block _ (bE q1) id).trans q1;have k19:bD (λ _=>False) w w8:=fh k17 WW (λ _ _ q=>q) λ _ _ q=>q;rw[QS hp.s];obtain⟨⟨i0,i1,i2⟩,i3,i4,i5⟩:=RG MY;obtain⟨⟨j0,j1,j2⟩,_⟩:=RG e19;cases hiA:cE gg (fV y x ps)
   .obtain⟨x9,o9⟩:=Rb (.int .i64 0) (.int .i64 0) (.slice none 0 0) MY;obtain⟨WX,s20⟩:=Tw (.int .i64 0) (.int .i64 0) (.slice none 0 0) k19 MY (by omega);go_wp2;refine BP (cs:=zC) rfl rfl rfl x9 rfl rfl ?_;rw[<-hPo];exact Rp hS WX (JQ cR hgo false hiA) (ZI (by decide))
   .obtain⟨x9,o9⟩:=Rb (.int .i64 (fV y x ps).aq) (.int .i64 (fV y x ps).aS) (.slice a8 m8 Im) MY;obtain⟨WX,s20⟩:=Tw (.int .i64 (fV y x ps).aq) (.int .i64 (fV y x ps).aS) (.slice a8 m8 Im) k19 MY (by omega);have ho9:=q2.aR (w':=((w8.setCell ⟨w.heap.size+1,0,none⟩ (.int .i64 (fV y x ps).aq)).setCell ⟨w.heap.size+1,1,none⟩ (.int .i64 (fV y x ps).aS)).setCell ⟨w.heap.size+1,2,none⟩ (.slice a8 m8 Im)) _ λ q hq=>(o9 q (by have:=q3 q hq;omega)).trans (WW.block q (Ow.lt _ q2 q hq) id);have b3D:=WW.size;have a7K:=λ q hq=>Ow.lt _ q2 q hq;go_wp2;generalize ((w8.setCell ⟨w.heap.size+1,0,none⟩ (.int .i64 (fV y x ps).aq)).setCell ⟨w.heap.size+1,1,none⟩ (.int .i64 (fV y x ps).aS)).setCell ⟨w.heap.size+1,2,none⟩ (.slice a8 m8 Im)=w9 at *
    refine BP (cs:=[.int .i64 (fV y x ps).aq, .int .i64 (fV y x ps).aS, .slice a8 m8 Im]) rfl rfl rfl x9 rfl rfl ?_;rw[<-hPo];have hd:=JQ (gg:=gg) cR hgo true hiA;refine⟨_,λ b=>S b\/(w.heap.size<=b/\b<w9.heap.size),_,rfl,rfl,WX,λ b hb=>⟨λ h=>h.elim id λ h=>absurd h.1 (by omega), .inl⟩,λ b h=>h.elim (λ h=>b5i (hS.1 b h) WX.size) λ h=>h.2,[_,_],rfl,⟨_,rfl,?_⟩,?_,ae⟩
    .rw[hd.1];exact ho9.rd _ λ q hq => .inr ⟨by have:=q3 q hq;omega,by have:=a7K q hq;omega⟩
    .rw[hd.2];exact⟨rfl,ZI (by decide)⟩
def zd:aN:=⟨ky,[.v (.st .sig), .r (.st .expr), .v (.slice (.int .i64)), .r (.st .expr)],λ (gg:aW) (x:J) (ps:List Int) (y:J)=>⟨(some (RqP gg x y),[⟨(.st .expr),Au gg x ps y⟩,⟨(.int .i64),pQ gg x ps y⟩])⟩⟩
def Hs:aN.Good zd :=
 ⟨ar Kw rfl (by decide),λ gg x ps y h=>a6y gg x ps y h⟩
end
end Go.Proofs.YtmjfpcajohhbeaaGreatDoor

namespace Go.Proofs.YtmjfpcajohhbeaaGreatDoor
noncomputable section
def Ns:aN.Good sD:=Lw.plain
def b2B{p:ai}{k u:Int}(h:0<=u)(h2:u<=23):dA p k u=S6 gP (oI.getD u.toNat [])/\ph k u=true:=by
 have e:=a9j (p:=p) (k:=k) h;refine⟨?_,e.2⟩;have a:=a3l u.toNat (by omega);rw[e.1,a.2.2];unfold Hc;rw[List.getD_eq_getElem?_getD,List.getElem?_map,List.getD_eq_getElem?_getD,List.getElem?_eq_getElem (show u.toNat<oI.length by rw[n0];omega)];rfl
def b1q{u:Int}(h:0<=u)(h2:u<=23):(oI.getD u.toNat []).length<=8000:=by
 have a:=(a3l u.toNat (by omega)).2.1;omega
def b1F:bP gP=true:=by decide
def GC:aN:=⟨G7,[.r (.st .proof), .v (.int .i64), .v (.int .i64)],λ (p:ai) (k:Int) (u:Int)=>⟨(some (u<=23 /\ -40<=u/\0<=k/\k<=(p.af.length:Int)),[⟨(.st .equation),dA p k u⟩,⟨.bool,ph k u⟩])⟩⟩
def UP(p:ai)(k:Int)(u:Int):Nat->aA:=bJ
abbrev Bg(p:ai)(k:Int)(u:Int):Prop:=(let v0:=p.af.getD (Int.toNat ((-1:Int) - u)) (ag.mk zE zE (0:Int) (0:Int) []);(ak ((-1:Int) - u) p.af.length/\(ak ((-1:Int) - u) p.af.length/\(p.af.length<=140737488355328 ->
 (p.af.length<=140737488355328 ->
 ((au.mk (aI v0.left) (aI v0.right))=(dA p k u)/\true=(ph k u)))))))
def Nv:aN.Good GC:=by
 refine⟨ar C7,?_⟩;intro (p:ai) (k:Int) (u:Int) (hp:u<=23 /\ -40<=u/\0<=k/\k<=(p.af.length:Int));refine aX [sD,GD,lj] [] [] [] ⟨Ns,Nw,n7,ae⟩ C7 MR (UP p k u) (let v0:=(au.mk zE zE)=(dA p k u)/\false=(ph k u);let v2:=(oI).getD (Int.toNat u) [];let v3:=(-1:Int) - u;let v1:=decide (((p.af.length:Int))<=v3);((((decide ((0:Int)<=u))=true->((oI).length<=140737488355328->(ak u (oI).length/\(v2.length<=140737488355328->((bP (gP)=true/\v2.length<=8000)/\((lR (S6 (gP) v2))=(dA p k u)/\true=(ph k u)))))))/\((decide ((0:Int)<=u))=false->(O v3/\(((decide (k<=v3))=false->(p.af.length<=140737488355328->(O ((p.af.length:Int))->((v1=true->v0)/\(v1=false->(Bg p k u))))))/\((decide (k<=v3))=(!false)->((true=true->v0)/\(true=false->(Bg p k u)))))))))) ?_;refine⟨λ _ _=>⟨?_,λ _=>⟨?_,?_,?_⟩⟩,λ _=>⟨?_,λ _ _ _=>⟨λ _=>⟨?_,?_⟩,λ _=>⟨?_,?_,λ _ _=>⟨?_,?_⟩⟩⟩,λ _=>⟨λ _=>⟨?_,?_⟩,λ _=>⟨?_,?_,λ _ _=>⟨?_,?_⟩⟩⟩⟩⟩;all_goals try and_intros
 all_goals try (first|with_reducible rfl|with_reducible assumption)
 all_goals try simp only[J.eta,ag.eta,au.eta,aK,br,bL] at *
 all_goals first|with_reducible rfl|with_reducible assumption|exact True.intro|(simp only[b4V,b4U,b4T,b4R] at *;done)|((try simp only[b5q,J.eta,b4N,b4M,b4T,b4R,b5a,b5k,ak,O,bc,b5f,b4Y,b5j,b5g,b5n] at *);first|exact True.intro|omega|exact b1F|exact b1q (by omega) (by omega)|(have e:=n0;omega)|((first|have Q:=b2B (p:=p) (k:=k) (u:=u) (by omega) (by omega)|have Q:=a9k (p:=p) (k:=k) (u:=u) (by omega) (by omega)|have Q:=a9l (p:=p) (k:=k) (u:=u) (by omega) (by omega));first|exact Q.1|exact Q.2|exact Q.1.symm|exact Q.2.symm))
def a6M{p:ai}{k u:Int}(h:pU p)(hk:k<=(p.af.length:Int))(hu:u<=23)(ho:ph k u=true):aO (dA p k u).left<=500/\aO (dA p k u).right<=500:=by
 unfold dA;by_cases h0:0<=u
 .rw[b5u h0];have hm:Hc.getD u.toNat (au.mk zE zE)∈Hc:=by
   rw[b5b,b5p (by rw[VT];omega)];exact b6h _
  have ji:Hc.all (λ q=>decide (aO q.left<=500)&&decide (aO q.right<=500))=true:=by kernel_rfl
  have:=b5F.1 ji _ hm;rw[b4S,b4N,b4N] at this;exact this
 .rw[b4Z h0];simp only[ph,b6G,b4N] at ho;rw[b5u (by omega)];have e:=h.e (i := -1 - u) (by omega) (by omega);have h1:=(yL p.sig _).1 e.1;have h2:=(yL p.sig _).1 e.2.1;exact⟨by have:=h1.2.1;show aO (bQ p (-1 - u)).left<=500;omega,by have:=h2.2.1;show aO (bQ p (-1 - u)).right<=500;omega⟩
def Ad.su{p:ai}{k:Int}{e:J}{s:U}(h:Ad p k e s)(hp:Rt p k e s):suP p.sig (dA p k s.use).left s.aw s.bd/\suP p.sig (dA p k s.use).right s.aw s.bd:=by
 have ht:=J0 hp.v hp.k1 hp.u.1.2 h.u;have hn:=a6M hp.v hp.k1 hp.u.1.2 h.u;have hf:=EI.of hp.u.2.2.2.2.1 hp.u.2.2.2.2.2;have hq:=IA h.t h.a;exact⟨⟨hp.v.sg,hq.1,ht.1,hf,hn.1⟩,⟨hp.v.sg,hq.2,ht.2,hf,hn.2⟩⟩
def Ad.n3{p:ai}{k:Int}{e:J}{s:U}(h:Ad p k e s)(h2:cE p.sig (dx s.aw s.bd (dA p k s.use).left)=false\/cE p.sig (dx s.aw s.bd (dA p k s.use).right)=false):kI p k e s=J.mk (0:Int) (0:Int) []/\iT p k e s=3:=by
 refine a1m ?_ (by decide);rw[h.c];unfold VH;rcases h2 with h2|h2<;>rw[h2]<;>simp
def Ad.t1{p:ai}{k:Int}{e:J}{s:U}(h:Ad p k e s)(h1:cE p.sig (dx s.aw s.bd (dA p k s.use).left)=true)(h2:cE p.sig (dx s.aw s.bd (dA p k s.use).right)=true)(hb:s.back=true):CH p k e s (Y0 (dA p k s.use).right s.aw s.bd) (Y0 (dA p k s.use).left s.aw s.bd) :=
 ⟨h,by unfold VH;rw[h1,h2];rfl,by rw[Vu h2];unfold apX;rw[hb];rfl,by rw[Vu h1];unfold VI;rw[hb];rfl⟩
def Ad.t0{p:ai}{k:Int}{e:J}{s:U}(h:Ad p k e s)(h1:cE p.sig (dx s.aw s.bd (dA p k s.use).left)=true)(h2:cE p.sig (dx s.aw s.bd (dA p k s.use).right)=true)(hb:s.back=false):CH p k e s (Y0 (dA p k s.use).left s.aw s.bd) (Y0 (dA p k s.use).right s.aw s.bd) :=
 ⟨h,by unfold VH;rw[h1,h2];rfl,by rw[Vu h1];unfold apX;rw[hb];rfl,by rw[Vu h2];unfold VI;rw[hb];rfl⟩
def CH.nd{p:ai}{k:Int}{e:J}{s:U}{x y:J}(h:CH p k e s x y):Jz e s.path=QM e s.path:=by
 unfold Jz;rw[h.r.n,(XA _ _ h.r.n).1];rfl
def CH.d6{p:ai}{k:Int}{e:J}{s:U}{x y:J}(h:CH p k e s x y)(h2:bH (QM e s.path) x=false):kI p k e s=J.mk (0:Int) (0:Int) []/\iT p k e s=6:=h.c6 (by rw[h.nd];exact h2)
def CH.dgo{p:ai}{k:Int}{e:J}{s:U}{x y:J}(h:CH p k e s x y)(h2:bH (QM e s.path) x=true):kI p k e s=Au p.sig e s.path y/\iT p k e s=pQ p.sig e s.path y:=h.go (by rw[h.nd];exact h2)
def CH.rq{p:ai}{k:Int}{e:J}{s:U}{x y:J}(h:CH p k e s x y)(hp:Rt p k e s):RqP p.sig e y:=⟨hp.v.sg,Fq _ _ hp.e,h.sz⟩
def DV:aN:=⟨En,[.r (.st .proof), .v (.int .i64), .r (.st .expr), .r (.st .proofStep)],λ (p:ai) (k:Int) (e:J) (s:U)=>⟨(some (Rt p k e s),[⟨(.st .expr),kI p k e s⟩,⟨(.int .i64),iT p k e s⟩])⟩⟩
def Su(p:ai)(k:Int)(e:J)(s:U):Nat->aA:=bJ
abbrev yQ(p:ai)(k:Int)(e:J)(s:U):Prop:=(let v0:=aI (Y0 (aI (dA p k s.use).right) s.aw s.bd);let v1:=aI (Y0 (aI (dA p k s.use).left) s.aw s.bd);let v2:=zE=(kI p k e s)/\(6:Int)=(iT p k e s);let v3:=QM e s.path;((s.back=true ->
 (((!(bH v3 v0))=true ->
 v2)/\((!(bH v3 v0))=false ->
 (RqP p.sig e v1/\(s.path.length<=140737488355328 ->
 (O (pQ p.sig e s.path v1) ->
 ((aI (Au p.sig e s.path v1))=(kI p k e s)/\(pQ p.sig e s.path v1)=(iT p k e s))))))))/\(s.back=false ->
 (((!(bH v3 v1))=true ->
 v2)/\((!(bH v3 v1))=false ->
 (RqP p.sig e v0/\(s.path.length<=140737488355328 ->
 (O (pQ p.sig e s.path v0) ->
 ((aI (Au p.sig e s.path v0))=(kI p k e s)/\(pQ p.sig e s.path v0)=(iT p k e s))))))))))
abbrev yR(p:ai)(k:Int)(e:J)(s:U):Prop:=(let v2:=zE=(kI p k e s)/\(3:Int)=(iT p k e s);let v3:=dA p k s.use;let v0 := !(cE p.sig (dx s.aw s.bd (aI v3.right)));let v1 := !(cE p.sig (dx s.aw s.bd (aI v3.left)));(s.aw.length<=140737488355328 ->
 (s.bd.length<=140737488355328 ->
 (p=p/\(p=p/\(p.sig=p.sig/\(p.sig=p.sig/\(((10:Nat)=10/\(0:Nat)=0)/\(s=s/\(s=s/\(s.aw=s.aw/\(s.aw=s.aw/\(s=s/\(s=s/\(s.bd=s.bd/\(s.bd=s.bd/\(suP p.sig (aI v3.left) s.aw s.bd/\(s.aw.length<=140737488355328 ->
 (s.bd.length<=140737488355328 ->
 (p=p/\(p=p/\(p.sig=p.sig/\(p.sig=p.sig/\(((10:Nat)=10/\(3:Nat)=3)/\(s=s/\(s=s/\(s.aw=s.aw/\(s.aw=s.aw/\(s=s/\(s=s/\(s.bd=s.bd/\(s.bd=s.bd/\(suP p.sig (aI v3.right) s.aw s.bd/\((v1=false ->
 ((v0=true ->
 v2)/\(v0=false ->
 (yQ p k e s))))/\(v1=(!false) ->
 ((true=true ->
 v2)/\(true=false ->
 (yQ p k e s))))))))))))))))))))))))))))))))))))))
abbrev yS(p:ai)(k:Int)(e:J)(s:U):Prop:=(((!(eC e s.path))=true ->
 (zE=(kI p k e s)/\(2:Int)=(iT p k e s)))/\((!(eC e s.path))=false ->
 (yR p k e s)))
abbrev yT(p:ai)(k:Int)(e:J)(s:U):Prop:=((true=true ->
 (zE=(kI p k e s)/\(2:Int)=(iT p k e s)))/\(true=false ->
 (yR p k e s)))
def K6:aN.Good DV:=by
 refine⟨ar AO,?_⟩;intro (p:ai) (k:Int) (e:J) (s:U) (hp:Rt p k e s);refine aX [GC,Gz,vO,oC,zd] [] [] [] ⟨Nv,Nr,P0,oU,Hs,ae⟩ AO KN (Su p k e s) (let v1:=lR (dA p k s.use);let v0:=cu [v1.left,v1.right];let v2 := !(decide (((s.aw.length:Int))=(v0.1)));let v3 := !(decide (((s.bd.length:Int))=(v0.2)));((O s.use->((s.use<=23 /\ -40<=s.use/\0<=k/\k<=(p.af.length:Int))/\(((!(ph k s.use))=true->(zE=(kI p k e s)/\(2:Int)=(iT p k e s)))/\((!(ph k s.use))=false->((bg 62 62 v1.left=true/\bg 62 62 v1.right=true)/\(O (v0.1)->(O (v0.2)->(s.path.length<=140737488355328->(s.aw.length<=140737488355328->(O ((s.aw.length:Int))->((v2=false->(s.bd.length<=140737488355328->(O ((s.bd.length:Int))->((v3=false->(yS p k e s))/\(v3=(!false)->(yT p k e s))))))/\(v2=(!false)->((true=false->(yS p k e s))/\(true=(!false)->(yT p k e s))))))))))))))))) ?_;refine λ _=>⟨?_,λ _=>⟨?_,?_⟩,λ _=>⟨?_,λ _ _ _ _ _=>⟨λ _ _ _=>⟨λ _=>⟨λ _=>⟨?_,?_⟩,λ _ _ _=>⟨rfl,rfl,rfl,rfl,⟨?_,?_⟩,rfl,rfl,rfl,rfl,rfl,rfl,rfl,rfl,?_,λ _ _=>⟨rfl,rfl,rfl,rfl,⟨?_,?_⟩,rfl,rfl,rfl,rfl,rfl,rfl,rfl,rfl,?_,λ _=>⟨λ _=>⟨?_,?_⟩,λ _=>⟨λ _=>⟨λ _=>⟨?_,?_⟩,λ _=>⟨?_,λ _ _=>⟨?_,?_⟩⟩⟩,λ _=>⟨λ _=>⟨?_,?_⟩,λ _=>⟨?_,λ _ _=>⟨?_,?_⟩⟩⟩⟩⟩,λ _=>⟨λ _=>⟨?_,?_⟩,λ _=>⟨λ _=>⟨λ _=>⟨?_,?_⟩,λ _=>⟨?_,λ _ _=>⟨?_,?_⟩⟩⟩,λ _=>⟨λ _=>⟨?_,?_⟩,λ _=>⟨?_,λ _ _=>⟨?_,?_⟩⟩⟩⟩⟩⟩⟩⟩,λ _=>⟨λ _=>⟨?_,?_⟩,λ _ _ _=>⟨rfl,rfl,rfl,rfl,⟨?_,?_⟩,rfl,rfl,rfl,rfl,rfl,rfl,rfl,rfl,?_,λ _ _=>⟨rfl,rfl,rfl,rfl,⟨?_,?_⟩,rfl,rfl,rfl,rfl,rfl,rfl,rfl,rfl,?_,λ _=>⟨λ _=>⟨?_,?_⟩,λ _=>⟨λ _=>⟨λ _=>⟨?_,?_⟩,λ _=>⟨?_,λ _ _=>⟨?_,?_⟩⟩⟩,λ _=>⟨λ _=>⟨?_,?_⟩,λ _=>⟨?_,λ _ _=>⟨?_,?_⟩⟩⟩⟩⟩,λ _=>⟨λ _=>⟨?_,?_⟩,λ _=>⟨λ _=>⟨λ _=>⟨?_,?_⟩,λ _=>⟨?_,λ _ _=>⟨?_,?_⟩⟩⟩,λ _=>⟨λ _=>⟨?_,?_⟩,λ _=>⟨?_,λ _ _=>⟨?_,?_⟩⟩⟩⟩⟩⟩⟩⟩⟩,λ _=>⟨λ _=>⟨λ _=>⟨?_,?_⟩,λ _ _ _=>⟨rfl,rfl,rfl,rfl,⟨?_,?_⟩,rfl,rfl,rfl,rfl,rfl,rfl,rfl,rfl,?_,λ _ _=>⟨rfl,rfl,rfl,rfl,⟨?_,?_⟩,rfl,rfl,rfl,rfl,rfl,rfl,rfl,rfl,?_,λ _=>⟨λ _=>⟨?_,?_⟩,λ _=>⟨λ _=>⟨λ _=>⟨?_,?_⟩,λ _=>⟨?_,λ _ _=>⟨?_,?_⟩⟩⟩,λ _=>⟨λ _=>⟨?_,?_⟩,λ _=>⟨?_,λ _ _=>⟨?_,?_⟩⟩⟩⟩⟩,λ _=>⟨λ _=>⟨?_,?_⟩,λ _=>⟨λ _=>⟨λ _=>⟨?_,?_⟩,λ _=>⟨?_,λ _ _=>⟨?_,?_⟩⟩⟩,λ _=>⟨λ _=>⟨?_,?_⟩,λ _=>⟨?_,λ _ _=>⟨?_,?_⟩⟩⟩⟩⟩⟩⟩⟩,λ _=>⟨λ _=>⟨?_,?_⟩,λ _ _ _=>⟨rfl,rfl,rfl,rfl,⟨?_,?_⟩,rfl,rfl,rfl,rfl,rfl,rfl,rfl,rfl,?_,λ _ _=>⟨rfl,rfl,rfl,rfl,⟨?_,?_⟩,rfl,rfl,rfl,rfl,rfl,rfl,rfl,rfl,?_,λ _=>⟨λ _=>⟨?_,?_⟩,λ _=>⟨λ _=>⟨λ _=>⟨?_,?_⟩,λ _=>⟨?_,λ _ _=>⟨?_,?_⟩⟩⟩,λ _=>⟨λ _=>⟨?_,?_⟩,λ _=>⟨?_,λ _ _=>⟨?_,?_⟩⟩⟩⟩⟩,λ _=>⟨λ _=>⟨?_,?_⟩,λ _=>⟨λ _=>⟨λ _=>⟨?_,?_⟩,λ _=>⟨?_,λ _ _=>⟨?_,?_⟩⟩⟩,λ _=>⟨λ _=>⟨?_,?_⟩,λ _=>⟨?_,λ _ _=>⟨?_,?_⟩⟩⟩⟩⟩⟩⟩⟩⟩⟩⟩⟩;all_goals try and_intros
 all_goals try (first|with_reducible rfl|with_reducible assumption)
 all_goals try simp only[J.eta,ag.eta,au.eta,aK,br,bL] at *
 all_goals first|with_reducible rfl|with_reducible assumption|exact True.intro|(simp only[b4V,b4U,b4T,b4R] at *;done)|((try simp only[b5q,J.eta,b4N,b4M,b4T,b4R,b5a,b5k,ak,O,bc,b5f,b4Y,b5j,b5g,b5n] at *);first|exact True.intro|omega|exact hp.u.1.1|exact hp.u.1.2|exact hp.k0|exact hp.k1|(have:=hp.u;omega)|exact (J0 hp.v hp.k1 hp.u.1.2 (by with_reducible assumption)).1|exact (J0 hp.v hp.k1 hp.u.1.2 (by with_reducible assumption)).2|((first|have Q:=a4M (p:=p) (k:=k) (e:=e) (s:=s) (.inl (by with_reducible assumption))|have Q:=a4M (p:=p) (k:=k) (e:=e) (s:=s) (.inr (by with_reducible assumption))|have Q:=a4N (p:=p) (k:=k) (e:=e) (s:=s) (a7a (by omega))|have Q:=a4N (p:=p) (k:=k) (e:=e) (s:=s) (a7b (by omega)));first|exact Q.1|exact Q.2|exact Q.1.symm|exact Q.2.symm)|(have A:Ad p k e s:=⟨(by with_reducible assumption),(by with_reducible assumption),by omega,by omega⟩;first|exact (A.su hp).1|exact (A.su hp).2|((first|have Q:=(A.n3 (.inl (by with_reducible assumption)))|have Q:=(A.n3 (.inr (by with_reducible assumption))));first|exact Q.1|exact Q.2|exact Q.1.symm|exact Q.2.symm)|(have B:=A.t1 (by with_reducible assumption) (by with_reducible assumption) (by with_reducible assumption);first|exact B.rq hp|((first|have Q:=(B.d6 (by with_reducible assumption))|have Q:=(B.dgo (by with_reducible assumption)));first|exact Q.1|exact Q.2|exact Q.1.symm|exact Q.2.symm))|(have B:=A.t0 (by with_reducible assumption) (by with_reducible assumption) (by with_reducible assumption);first|exact B.rq hp|((first|have Q:=(B.d6 (by with_reducible assumption))|have Q:=(B.dgo (by with_reducible assumption)));first|exact Q.1|exact Q.2|exact Q.1.symm|exact Q.2.symm))))
def stX(f:ag):J:=(f.left.M.getD 0 zE).M.getD 1 zE
def stQ(f:ag):J:=(f.left.M.getD 0 zE).M.getD 0 zE
def YZ(f:ag):J:=f.left.M.getD 1 zE
def OJ(f:ag):Bool:=decide (f.left.aq=6)&&(decide ((f.left.M.getD 0 zE).aq=6)&&decide (((f.left.M.getD 0 zE).M.getD 1 zE).aq=7))
def wa(c f:ag):Bool:=OJ f&&(if c.aM=3 then bH ((stX f).M.getD 0 zE) (YZ f)&&(bH f.right (YZ f)&&(bH c.right (YZ f)&&bH c.left (J.mk 6 0 [J.mk 7 0 [stQ f,J.mk 8 0 [(stX f).M.getD 1 zE]],YZ f])))
 else bH ((stX f).M.getD 1 zE) (YZ f)&&(bH f.right (YZ f)&&(bH c.right (YZ f)&&bH c.left (J.mk 6 0 [J.mk 7 0 [J.mk 8 0 [(stX f).M.getD 0 zE],stQ f],YZ f]))))
def X7{c f:ag}(h:OJ f=false):wa c f=false:=by unfold wa;rw[h];rfl
def b3W{c f:ag}(h:OJ f=true)(h3:c.aM=3):wa c f=(bH (((f.left.M.getD 0 zE).M.getD 1 zE).M.getD 0 zE) (f.left.M.getD 1 zE)&&(bH f.right (f.left.M.getD 1 zE)&&(bH c.right (f.left.M.getD 1 zE)&&bH c.left (J.mk 6 0 [J.mk 7 0 [(f.left.M.getD 0 zE).M.getD 0 zE,J.mk 8 0 [((f.left.M.getD 0 zE).M.getD 1 zE).M.getD 1 zE]],f.left.M.getD 1 zE])))):=by
 unfold wa;rw[h,if_pos h3];rfl
def b3V{c f:ag}(h:OJ f=true)(h3:¬ c.aM=3):wa c f=(bH (((f.left.M.getD 0 zE).M.getD 1 zE).M.getD 1 zE) (f.left.M.getD 1 zE)&&(bH f.right (f.left.M.getD 1 zE)&&(bH c.right (f.left.M.getD 1 zE)&&bH c.left (J.mk 6 0 [J.mk 7 0 [J.mk 8 0 [((f.left.M.getD 0 zE).M.getD 1 zE).M.getD 0 zE],(f.left.M.getD 0 zE).M.getD 0 zE],f.left.M.getD 1 zE])))):=by
 unfold wa;rw[h,if_neg h3];rfl
def a8U{f:ag}(h:¬ f.left.aq=6):OJ f=false:=by unfold OJ;rw[decide_eq_false h];rfl
def a8V{f:ag}(h:¬ (f.left.M.getD 0 zE).aq=6):OJ f=false:=by unfold OJ;rw[decide_eq_false h];simp
def a8W{f:ag}(h:¬ ((f.left.M.getD 0 zE).M.getD 1 zE).aq=7):OJ f=false:=by unfold OJ;rw[decide_eq_false h];simp
def a8X{f:ag}(h1:f.left.aq=6)(h2:(f.left.M.getD 0 zE).aq=6)(h3:((f.left.M.getD 0 zE).M.getD 1 zE).aq=7):OJ f=true:=by unfold OJ;rw[decide_eq_true h1,decide_eq_true h2,decide_eq_true h3];rfl
structure InR(c f:ag):Prop where
 q:InQ c f
 r:c.aM=2\/c.aM=3
 s1:aE f.left<=1048576
def b2t{c f:ag}(h:c.aM=2\/c.aM=3):wa c f=vJ c f:=by
 by_cases hm:pR (au.mk f.left f.right)=true
 .have e:=Ra hm;unfold pR at hm;simp only[Bool.and_eq_true,decide_eq_true_eq] at hm;obtain⟨⟨m1,m2⟩,m3⟩:=hm;have hr:f.left.M.getD 1 zE=f.right:=iD.1 m3;unfold vJ wa OJ stX stQ YZ;rw[e.1,e.2.1,show pR (au.mk f.left f.right)=true by unfold pR;simp only[Bool.and_eq_true,decide_eq_true_eq];exact⟨⟨m1,m2⟩,m3⟩,decide_eq_true m1,decide_eq_true m2,hr];have hrr:bH f.right f.right=true:=iD.2 rfl;unfold a5l inW;rcases h with h|h
  .rw[b5u h,b5u h,b4Z (show ¬ c.aM=3 by omega),hrr];simp only[b6e];cases decide (((f.left.M.getD 0 zE).M.getD 1 zE).aq=7)<;>simp only[b6e,b6j];cases bH (((f.left.M.getD 0 zE).M.getD 1 zE).M.getD 1 zE) f.right<;>simp only[b6e,b6j];rw[Bool.and_comm]
  .rw[b4Z (show ¬ c.aM=2 by omega),b4Z (show ¬ c.aM=2 by omega),b5u h,hrr];simp only[b6e];cases decide (((f.left.M.getD 0 zE).M.getD 1 zE).aq=7)<;>simp only[b6e,b6j];cases bH (((f.left.M.getD 0 zE).M.getD 1 zE).M.getD 0 zE) f.right<;>simp only[b6e,b6j];rw[Bool.and_comm]
 .have hm':pR (au.mk f.left f.right)=false:=Bool.eq_false_iff.2 hm;have hi:vJ c f=false:=by unfold vJ;rw[hm'];rfl
  rw[hi];by_cases hh:OJ f=true
  .have hn:bH f.right (YZ f)=false:=by
    refine Bool.eq_false_iff.2 λ q=>hm ?_;have q:=iD.1 q;unfold OJ at hh;simp only[Bool.and_eq_true,decide_eq_true_eq] at hh;unfold pR;simp only[Bool.and_eq_true,decide_eq_true_eq];exact⟨⟨hh.1,hh.2.1⟩,iD.2 q.symm⟩
   unfold wa;rw[hh,hn];simp
  .rw[X7 (Bool.eq_false_iff.2 hh)]
def b3X{f:ag}(h:bg 62 62 f.left=true)(hk:f.left.aq=6):f.left.M.length=2/\((f.left.M.getD 0 zE).aq=6->(f.left.M.getD 0 zE).M.length=2/\(((f.left.M.getD 0 zE).M.getD 1 zE).aq=7->((f.left.M.getD 0 zE).M.getD 1 zE).M.length=2)):=by
 have a:=X6 (q:=fQ f) h hk;refine⟨a.1,λ h2=>⟨(a.2.2 h2).1,λ h3=>Ks (a.2.2 h2).2 (.inr h3)⟩⟩
def Kp{x:J}(h:aE x<=1048576)(i:Nat):aE (x.M.getD i zE)<=1048576:=by
 rcases b5Q i x.M.length with g|g
 .have:=fi aE zE x.M i g;rw[jU] at h;omega
 .rw[b5b,b6J g];exact b5R rfl
def Gx:aN:=⟨GW,[.v (.int .i64), .v (.st .expr), .v (.st .expr)],λ (k:Int) (a:J) (b:J)=>⟨(none,[⟨(.st .expr),J.mk k 0 [a,b]⟩])⟩⟩
def UK(k:Int)(a:J)(b:J):Nat->aA:=bJ
def Np:aN.Good Gx:=by
 refine⟨ar C0,?_⟩;intro (k:Int) (a:J) (b:J) _;refine aX [] [] [] [4,5] trivial C0 ML (UK k a b) ((J.mk k (0:Int) ([a,b]))=(J.mk k 0 [a,b])) ?_;refine ?_;all_goals try and_intros
 all_goals first|rfl|trivial|omega|(simp only[b4N,b4M,ak,O,bT,cB,bG,bc] at *;omega)|(simp[ak,O] at *;omega)|grind
def GA:aN:=⟨G5,[.r (.st .claim), .r (.st .claim)],λ (f:ag) (c:ag)=>⟨(some (InR c f),[⟨.bool,wa c f⟩])⟩⟩
def UN(f:ag)(c:ag):Nat->aA:=bJ
abbrev qB(f:ag)(c:ag):Prop:=(let v0:=f.left.M.getD 0 zE;let v2:=f.left.M.getD 1 zE;let v3:=v0.M.getD 0 zE;let v4:=(v0.M.getD 1 zE).M.getD 1 zE;let v1:=J.mk (8:Int) (0:Int) ([v4]);(aE v4<=1048576/\(aE v3<=1048576/\(O c.aM ->
 (((decide (c.aM=(3:Int)))=true ->
 (aE v3<=1048576/\(aE v2<=1048576/\(bH c.left (aI (J.mk (6:Int) 0 [(aI (J.mk (7:Int) 0 [v3,v1])),v2])))=(wa c f))))/\((decide (c.aM=(3:Int)))=false ->
 (aE v2<=1048576/\(bH c.left (aI (J.mk (6:Int) 0 [(aI (J.mk (7:Int) 0 [v1,v3])),v2])))=(wa c f))))))))
abbrev Ba(f:ag)(c:ag):Prop:=(let v0 := !(bH c.right (f.left.M.getD 1 zE));((v0=true ->
 false=(wa c f))/\(v0=false ->
 (qB f c))))
abbrev qC(f:ag)(c:ag):Prop:=(let v0:=f.left.M.getD 0 zE;let v2:=f.left.M.getD 1 zE;let v3:=v0.M.getD 0 zE;let v4:=(v0.M.getD 1 zE).M.getD 0 zE;let v1:=J.mk (8:Int) (0:Int) ([v4]);(aE v4<=1048576/\(aE v3<=1048576/\(O c.aM ->
 (((decide (c.aM=(3:Int)))=true ->
 (aE v3<=1048576/\(aE v2<=1048576/\(bH c.left (aI (J.mk (6:Int) 0 [(aI (J.mk (7:Int) 0 [v3,v1])),v2])))=(wa c f))))/\((decide (c.aM=(3:Int)))=false ->
 (aE v2<=1048576/\(bH c.left (aI (J.mk (6:Int) 0 [(aI (J.mk (7:Int) 0 [v1,v3])),v2])))=(wa c f))))))))
abbrev Bb(f:ag)(c:ag):Prop:=(let v0 := !(bH c.right (f.left.M.getD 1 zE));((v0=true ->
 false=(wa c f))/\(v0=false ->
 (qC f c))))
abbrev qD(f:ag)(c:ag):Prop:=(let v1:=f.left.M.getD 1 zE;let v2:=f.left.M.getD 0 zE;let v0:=v2.M.getD 1 zE;let v3 := !(bH f.right v1);let v4 := !(bH (v0.M.getD 0 zE) v1);let v5 := !(bH (v0.M.getD 1 zE) v1);(f.left.M.length<=140737488355328 ->
 (ak (0:Int) f.left.M.length/\(v2.M.length<=140737488355328 ->
 (ak (0:Int) v2.M.length/\(f.left.M.length<=140737488355328 ->
 (ak (0:Int) f.left.M.length/\(v2.M.length<=140737488355328 ->
 (ak (1:Int) v2.M.length/\(v0.M.length<=140737488355328 ->
 (ak (0:Int) v0.M.length/\(f.left.M.length<=140737488355328 ->
 (ak (0:Int) f.left.M.length/\(v2.M.length<=140737488355328 ->
 (ak (1:Int) v2.M.length/\(v0.M.length<=140737488355328 ->
 (ak (1:Int) v0.M.length/\(f.left.M.length<=140737488355328 ->
 (ak (1:Int) f.left.M.length/\(O c.aM ->
 (((decide (c.aM=(3:Int)))=true ->
 ((v4=false ->
 ((v3=false ->
 (Ba f c))/\(v3=(!false) ->
 ((true=true ->
 false=(wa c f))/\(true=false ->
 (qB f c))))))/\(v4=(!false) ->
 ((true=false ->
 (Ba f c))/\(true=(!false) ->
 ((true=true ->
 false=(wa c f))/\(true=false ->
 (qB f c))))))))/\((decide (c.aM=(3:Int)))=false ->
 ((v5=false ->
 ((v3=false ->
 (Bb f c))/\(v3=(!false) ->
 ((true=true ->
 false=(wa c f))/\(true=false ->
 (qC f c))))))/\(v5=(!false) ->
 ((true=false ->
 (Bb f c))/\(true=(!false) ->
 ((true=true ->
 false=(wa c f))/\(true=false ->
 (qC f c)))))))))))))))))))))))))))))
abbrev Bc(f:ag)(c:ag):Prop:=(let v0:=f.left.M.getD 0 zE;let v1 := !(decide ((v0.M.getD 1 zE).aq=(7:Int)));(f.left.M.length<=140737488355328 ->
 (ak (0:Int) f.left.M.length/\(v0.M.length<=140737488355328 ->
 (ak (1:Int) v0.M.length/\(O (v0.M.getD 1 zE).aq ->
 ((v1=true ->
 false=(wa c f))/\(v1=false ->
 (qD f c)))))))))
def Nt:aN.Good GA:=by
 refine⟨ar C5,?_⟩;intro (f:ag) (c:ag) (hp:InR c f);refine aX [oC,fm,Gx] [] [] [112] ⟨oU,A1,Np,ae⟩ C5 MP (UN f c) (let v0 := !(decide ((f.left.M.getD 0 zE).aq=(6:Int)));let v1 := !(decide (f.left.aq=(6:Int)));((O f.left.aq->((v1=false->(f.left.M.length<=140737488355328->(ak (0:Int) f.left.M.length/\(O (f.left.M.getD 0 zE).aq->((v0=false->(Bc f c))/\(v0=(!false)->((true=true->false=(wa c f))/\(true=false->(qD f c)))))))))/\(v1=(!false)->((true=false->(Bc f c))/\(true=(!false)->((true=true->false=(wa c f))/\(true=false->(qD f c)))))))))) ?_;refine λ _=>⟨λ _ _=>⟨?_,λ _=>⟨λ _ _=>⟨?_,λ _=>⟨?_,λ _=>⟨λ _=>?_,λ _ _=>⟨?_,λ _=>⟨?_,λ _=>⟨?_,λ _=>⟨?_,λ _=>⟨?_,λ _=>⟨?_,λ _=>⟨?_,λ _=>⟨?_,λ _=>⟨?_,λ _=>⟨λ _=>⟨λ _=>⟨λ _=>⟨λ _=>?_,λ _=>⟨?_,?_,λ _=>⟨λ _=>⟨?_,?_,?_⟩,λ _=>⟨?_,?_⟩⟩⟩⟩,λ _=>⟨λ _=>?_,λ _=>⟨?_,?_,λ _=>⟨λ _=>⟨?_,?_,?_⟩,λ _=>⟨?_,?_⟩⟩⟩⟩⟩,λ _=>⟨λ _=>⟨λ _=>?_,λ _=>⟨?_,?_,λ _=>⟨λ _=>⟨?_,?_,?_⟩,λ _=>⟨?_,?_⟩⟩⟩⟩,λ _=>⟨λ _=>?_,λ _=>⟨?_,?_,λ _=>⟨λ _=>⟨?_,?_,?_⟩,λ _=>⟨?_,?_⟩⟩⟩⟩⟩⟩,λ _=>⟨λ _=>⟨λ _=>⟨λ _=>?_,λ _=>⟨?_,?_,λ _=>⟨λ _=>⟨?_,?_,?_⟩,λ _=>⟨?_,?_⟩⟩⟩⟩,λ _=>⟨λ _=>?_,λ _=>⟨?_,?_,λ _=>⟨λ _=>⟨?_,?_,?_⟩,λ _=>⟨?_,?_⟩⟩⟩⟩⟩,λ _=>⟨λ _=>⟨λ _=>?_,λ _=>⟨?_,?_,λ _=>⟨λ _=>⟨?_,?_,?_⟩,λ _=>⟨?_,?_⟩⟩⟩⟩,λ _=>⟨λ _=>?_,λ _=>⟨?_,?_,λ _=>⟨λ _=>⟨?_,?_,?_⟩,λ _=>⟨?_,?_⟩⟩⟩⟩⟩⟩⟩⟩⟩⟩⟩⟩⟩⟩⟩⟩⟩⟩⟩,λ _=>⟨λ _=>?_,λ _ _=>⟨?_,λ _=>⟨?_,λ _=>⟨?_,λ _=>⟨?_,λ _=>⟨?_,λ _=>⟨?_,λ _=>⟨?_,λ _=>⟨?_,λ _=>⟨?_,λ _=>⟨λ _=>⟨λ _=>⟨λ _=>⟨λ _=>?_,λ _=>⟨?_,?_,λ _=>⟨λ _=>⟨?_,?_,?_⟩,λ _=>⟨?_,?_⟩⟩⟩⟩,λ _=>⟨λ _=>?_,λ _=>⟨?_,?_,λ _=>⟨λ _=>⟨?_,?_,?_⟩,λ _=>⟨?_,?_⟩⟩⟩⟩⟩,λ _=>⟨λ _=>⟨λ _=>?_,λ _=>⟨?_,?_,λ _=>⟨λ _=>⟨?_,?_,?_⟩,λ _=>⟨?_,?_⟩⟩⟩⟩,λ _=>⟨λ _=>?_,λ _=>⟨?_,?_,λ _=>⟨λ _=>⟨?_,?_,?_⟩,λ _=>⟨?_,?_⟩⟩⟩⟩⟩⟩,λ _=>⟨λ _=>⟨λ _=>⟨λ _=>?_,λ _=>⟨?_,?_,λ _=>⟨λ _=>⟨?_,?_,?_⟩,λ _=>⟨?_,?_⟩⟩⟩⟩,λ _=>⟨λ _=>?_,λ _=>⟨?_,?_,λ _=>⟨λ _=>⟨?_,?_,?_⟩,λ _=>⟨?_,?_⟩⟩⟩⟩⟩,λ _=>⟨λ _=>⟨λ _=>?_,λ _=>⟨?_,?_,λ _=>⟨λ _=>⟨?_,?_,?_⟩,λ _=>⟨?_,?_⟩⟩⟩⟩,λ _=>⟨λ _=>?_,λ _=>⟨?_,?_,λ _=>⟨λ _=>⟨?_,?_,?_⟩,λ _=>⟨?_,?_⟩⟩⟩⟩⟩⟩⟩⟩⟩⟩⟩⟩⟩⟩⟩⟩⟩⟩⟩,λ _=>⟨λ _ _=>⟨?_,λ _=>⟨?_,λ _=>⟨λ _=>?_,λ _ _=>⟨?_,λ _=>⟨?_,λ _=>⟨?_,λ _=>⟨?_,λ _=>⟨?_,λ _=>⟨?_,λ _=>⟨?_,λ _=>⟨?_,λ _=>⟨?_,λ _=>⟨λ _=>⟨λ _=>⟨λ _=>⟨λ _=>?_,λ _=>⟨?_,?_,λ _=>⟨λ _=>⟨?_,?_,?_⟩,λ _=>⟨?_,?_⟩⟩⟩⟩,λ _=>⟨λ _=>?_,λ _=>⟨?_,?_,λ _=>⟨λ _=>⟨?_,?_,?_⟩,λ _=>⟨?_,?_⟩⟩⟩⟩⟩,λ _=>⟨λ _=>⟨λ _=>?_,λ _=>⟨?_,?_,λ _=>⟨λ _=>⟨?_,?_,?_⟩,λ _=>⟨?_,?_⟩⟩⟩⟩,λ _=>⟨λ _=>?_,λ _=>⟨?_,?_,λ _=>⟨λ _=>⟨?_,?_,?_⟩,λ _=>⟨?_,?_⟩⟩⟩⟩⟩⟩,λ _=>⟨λ _=>⟨λ _=>⟨λ _=>?_,λ _=>⟨?_,?_,λ _=>⟨λ _=>⟨?_,?_,?_⟩,λ _=>⟨?_,?_⟩⟩⟩⟩,λ _=>⟨λ _=>?_,λ _=>⟨?_,?_,λ _=>⟨λ _=>⟨?_,?_,?_⟩,λ _=>⟨?_,?_⟩⟩⟩⟩⟩,λ _=>⟨λ _=>⟨λ _=>?_,λ _=>⟨?_,?_,λ _=>⟨λ _=>⟨?_,?_,?_⟩,λ _=>⟨?_,?_⟩⟩⟩⟩,λ _=>⟨λ _=>?_,λ _=>⟨?_,?_,λ _=>⟨λ _=>⟨?_,?_,?_⟩,λ _=>⟨?_,?_⟩⟩⟩⟩⟩⟩⟩⟩⟩⟩⟩⟩⟩⟩⟩⟩⟩⟩⟩,λ _=>⟨λ _=>?_,λ _ _=>⟨?_,λ _=>⟨?_,λ _=>⟨?_,λ _=>⟨?_,λ _=>⟨?_,λ _=>⟨?_,λ _=>⟨?_,λ _=>⟨?_,λ _=>⟨?_,λ _=>⟨λ _=>⟨λ _=>⟨λ _=>⟨λ _=>?_,λ _=>⟨?_,?_,λ _=>⟨λ _=>⟨?_,?_,?_⟩,λ _=>⟨?_,?_⟩⟩⟩⟩,λ _=>⟨λ _=>?_,λ _=>⟨?_,?_,λ _=>⟨λ _=>⟨?_,?_,?_⟩,λ _=>⟨?_,?_⟩⟩⟩⟩⟩,λ _=>⟨λ _=>⟨λ _=>?_,λ _=>⟨?_,?_,λ _=>⟨λ _=>⟨?_,?_,?_⟩,λ _=>⟨?_,?_⟩⟩⟩⟩,λ _=>⟨λ _=>?_,λ _=>⟨?_,?_,λ _=>⟨λ _=>⟨?_,?_,?_⟩,λ _=>⟨?_,?_⟩⟩⟩⟩⟩⟩,λ _=>⟨λ _=>⟨λ _=>⟨λ _=>?_,λ _=>⟨?_,?_,λ _=>⟨λ _=>⟨?_,?_,?_⟩,λ _=>⟨?_,?_⟩⟩⟩⟩,λ _=>⟨λ _=>?_,λ _=>⟨?_,?_,λ _=>⟨λ _=>⟨?_,?_,?_⟩,λ _=>⟨?_,?_⟩⟩⟩⟩⟩,λ _=>⟨λ _=>⟨λ _=>?_,λ _=>⟨?_,?_,λ _=>⟨λ _=>⟨?_,?_,?_⟩,λ _=>⟨?_,?_⟩⟩⟩⟩,λ _=>⟨λ _=>?_,λ _=>⟨?_,?_,λ _=>⟨λ _=>⟨?_,?_,?_⟩,λ _=>⟨?_,?_⟩⟩⟩⟩⟩⟩⟩⟩⟩⟩⟩⟩⟩⟩⟩⟩⟩⟩⟩;all_goals try and_intros
 all_goals try (first|with_reducible rfl|with_reducible assumption)
 all_goals try simp only[J.eta,ag.eta,au.eta,aK,br,bL] at *
 all_goals first|with_reducible rfl|with_reducible assumption|exact True.intro|(simp only[b4V,b4U,b4T,b4R] at *;done)|((try simp only[b5q,J.eta,b4N,b4M,b4T,b4R,b5a,b5k,ak,O,bc,b5f,b4Y,b5j,b5g,b5n] at *);first|exact True.intro|omega|exact X7 (c:=c) (a8U (by with_reducible assumption))|exact (X7 (c:=c) (a8U (by with_reducible assumption))).symm|exact X7 (c:=c) (a8V (by with_reducible assumption))|exact (X7 (c:=c) (a8V (by with_reducible assumption))).symm|exact X7 (c:=c) (a8W (by with_reducible assumption))|exact (X7 (c:=c) (a8W (by with_reducible assumption))).symm|(have h:=b3X hp.q.f1 (by with_reducible assumption);have h2:=h.1;first|omega|(have h3:=h.2 (by with_reducible assumption);have h5:=h3.1;first|omega|(have h4:=h3.2 (by with_reducible assumption);omega)))|exact Kp (Kp (Kp hp.s1 _) _) _|exact Kp (Kp hp.s1 _) _|exact Kp hp.s1 _|(rw[b3W (a8X (by with_reducible assumption) (by with_reducible assumption) (by with_reducible assumption)) (by with_reducible assumption)];simp only[*,b6B,b6e,b6n,b6j];done)|(rw[b3V (a8X (by with_reducible assumption) (by with_reducible assumption) (by with_reducible assumption)) (by with_reducible assumption)];simp only[*,b6B,b6e,b6n,b6j];done))
def Hb.ir{p:ai}{k:Int}(h:Hb p k)(h1:¬ (bQ p k).aM=1)(h2:(bQ p k).ref<k):InR (bQ p k) (bQ p (bQ p k).ref):=by
 have a:=h.i h2;have b:=h.b.2.2.1;exact⟨a.1,by omega,Fq _ _ (h.v.e (i:=(bQ p k).ref) a.2.1 a.2.2).1⟩
def Hb.st{p:ai}{k:Int}(h:Hb p k)(h1:¬ (bQ p k).aM=1)(h2:(bQ p k).ref<k):wa (bQ p k) (bQ p (bQ p k).ref)=vJ (bQ p k) (bQ p (bQ p k).ref):=b2t (h.ir h1 h2).r
def DY:aN:=⟨Es,[.r (.st .proof), .v (.int .i64)],λ (p:ai) (k:Int)=>⟨(some (Hb p k),[⟨.bool,ik p k⟩])⟩⟩
def Sx(p:ai)(k:Int):Nat->aA:=(cQ 0 (.a (Nat) (λ j=>CM p k j) (λ j=>(bQ p k).steps.length - j) [10,11,12,13,14,15,16,17,18,19,20,40,41,42,43] (λ j=>[(7, .aH ⟨(.int .i64),((j:Int):Int)⟩)]) [] (λ j=>[(6, .box [.aH ⟨(.int .i64),((lL p k j).aq:Int)⟩, .aH ⟨(.int .i64),((lL p k j).aS:Int)⟩, .aH ⟨(.slice (.st .expr)),((lL p k j).M:List J)⟩])])) bJ)
def K9:aN.Good DY:=by
 refine⟨ar AS,?_⟩;intro (p:ai) (k:Int) (hp:Hb p k);refine aX [GA,DV,oC,fm] [] [] [] ⟨Nt,K6,oU,A1,ae⟩ AS KR (Sx p k) (let v6:=(0:Int);let v1:=U.mk v6 false [] [] [];let v2:=ag.mk zE zE v6 v6 [];let v0:=p.af.getD (Int.toNat k) v2;let v3:=(v0.steps.length:Int);let v4:=p.af.getD (Int.toNat v0.ref) v2;let v5 := !(decide (v0.aM=(1:Int)));((p.af.length<=140737488355328->(ak k p.af.length/\(O v0.aM->((v5=true->(((decide (v0.ref<k))=true->(ak v0.ref p.af.length/\(O v0.ref->(p.af.length<=140737488355328->(O v0.ref->(InR v0 v4/\(wa v0 v4)=(ik p k)))))))/\((decide (v0.ref<k))=(!true)->(O v0.ref->false=(ik p k)))))/\(v5=false->(aE v0.left<=1048576/\((∃ j1:Nat,(CM p k j1/\((p=p/\(k=k/\(v0=v0/\(True/\(v6=(j1:Int)/\True)))))/\((v0.left.aq=((lL p k j1).aq)/\(v0.left.aS=((lL p k j1).aS)/\(v0.left.M=((lL p k j1).M)/\True)))/\True))))/\(∀ j1:Nat,let v7:=J.mk ((lL p k j1).aq) ((lL p k j1).aS) ((lL p k j1).M);let v8:=v0.steps.getD j1 v1;let v9 := !(decide ((iT p k v7 v8)=v6));(CM p k j1->(v0.steps.length<=140737488355328->(O v3->(((decide ((j1:Int)<v3))=true->(v0.steps.length<=140737488355328->(ak (j1:Int) v0.steps.length/\(Rt p k v7 v8/\(O (iT p k v7 v8)->((v9=true->false=(ik p k))/\(v9=false->(O ((j1:Int)+(1:Int))/\(∃ j2:Nat,(CM p k j2/\((bQ p k).steps.length - j2<(bQ p k).steps.length - j1/\((p=p/\(k=k/\(v0=v0/\(True/\(((j1:Int)+(1:Int))=(j2:Int)/\True)))))/\(((kI p k v7 v8).aq=((lL p k j2).aq)/\((kI p k v7 v8).aS=((lL p k j2).aS)/\((kI p k v7 v8).M=((lL p k j2).M)/\True)))/\True)))))))))))))/\((decide ((j1:Int)<v3))=false->(bH v7 v0.right)=(ik p k)))))))))))))))) ?_;refine λ _=>⟨?_,λ _=>⟨λ _=>⟨λ _=>⟨?_,λ _ _ _=>⟨?_,?_⟩⟩,λ _ _=>?_⟩,λ _=>⟨?_,⟨0,?_,⟨rfl,rfl,rfl,ae,?_,ae⟩,⟨?_,?_,?_,ae⟩,ae⟩,λ j1 _ _ _=>⟨λ _ _=>⟨?_,?_,λ _=>⟨λ _=>?_,λ _=>⟨?_,j1+1,?_,?_,⟨rfl,rfl,rfl,ae,?_,ae⟩,⟨?_,?_,?_,ae⟩,ae⟩⟩⟩,λ _=>?_⟩⟩⟩⟩;all_goals try and_intros
 all_goals first|with_reducible rfl|with_reducible assumption|exact True.intro|(simp only[b4V,b4U,b4T,b4R] at *;done)|((try simp only[b5q,J.eta,b4N,b4M,b4T,b4R,b5a,b5k,ak,O,bc,b5f,b4Y,b5j,b5g,b5n] at *);(try simp only[Ir] at *);first|with_reducible exact True.intro|omega|(rw[b1b];done)|exact Fq _ _ hp.b.1|exact hp.k0|exact hp.k1|(have:=hp.k1;have:=hp.k0;omega)|exact hp.ir (by omega) (by omega)|(have:=(hp.i (by omega)).2;omega)|exact hp.z (by with_reducible assumption)|exact hp.z (by omega)|(rw[JT (by omega),b5B (by omega),b6e,hp.st (by omega) (by omega)];done)|(rw[JT (by omega),b5c (by omega),b6j];done)|(have h:CM p k j1:=(by with_reducible assumption);first|exact h.ap (by omega)|exact h.no (by omega) (by with_reducible assumption)|exact (h.no (by omega) (by with_reducible assumption)).symm|exact h.end (by omega)|exact (h.end (by omega)).symm|exact h.next (by omega) (by with_reducible assumption)|(rw[a5C];done)|exact congrArg _ (a5C _ _ _).symm|(have:=h.jl;omega)))
def DW:aN:=⟨Eo,[.r (.st .proof)],λ (p:ai)=>⟨(some (pU p),[⟨(.int .i64),(Am p:Int)⟩])⟩⟩
def Sv(p:ai):Nat->aA:=(cQ 0 (.b (Nat) (λ k=>xF p k) (λ k=>p.af.length - k) [] (λ k=>[(3, .aH ⟨(.int .i64),((k:Int):Int)⟩)])) bJ)
def K7:aN.Good DW:=by
 refine⟨ar AP,?_⟩;intro (p:ai) (hp:pU p);refine aX [DY] [] [] [] ⟨K9,ae⟩ AP KO (Sv p) (let v0:=(p.af.length:Int);(((∃ k1:Nat,(xF p k1/\((p=p/\((0:Int)=(k1:Int)/\True))/\True)))/\(∀ k1:Nat,let v1:=(k1:Int);(xF p k1->(p.af.length<=140737488355328->(O v0->(((decide (v1<v0))=true->(Hb p v1/\(((!(ik p v1))=true->v1=(Am p:Int))/\((!(ik p v1))=false->(O (v1+(1:Int))/\(∃ k2:Nat,(xF p k2/\(p.af.length - k2<p.af.length - k1/\((p=p/\((v1+(1:Int))=(k2:Int)/\True))/\True)))))))))/\((decide (v1<v0))=false->(p.af.length<=140737488355328->(O v0->v0=(Am p:Int)))))))))))) ?_;refine⟨⟨0,?_,⟨rfl,?_,ae⟩,ae⟩,λ k1 _ _ _=>⟨λ _=>⟨?_,λ _=>?_,λ _=>⟨?_,k1+1,?_,?_,⟨rfl,?_,ae⟩,ae⟩⟩,λ _ _ _=>?_⟩⟩;all_goals try and_intros
 all_goals first|with_reducible rfl|with_reducible assumption|exact True.intro|(simp only[b4V,b4U,b4T,b4R] at *;done)|((try simp only[b5q,J.eta,b4N,b4M,b4T,b4R,b5a,b5k,ak,O,bc,b5f,b4Y,b5j,b5g,b5n] at *);first|exact True.intro|omega|exact xF.zero (by with_reducible assumption)|(have h:xF p k1:=(by with_reducible assumption);first|exact h.sh (by omega)|exact h.no (by omega) (by with_reducible assumption)|exact (h.no (by omega) (by with_reducible assumption)).symm|exact h.end (by omega)|exact (h.end (by omega)).symm|exact h.next (by omega) (by with_reducible assumption)|(have:=h.kl;omega)))
open Go.RowKit Go.Proofs
set_option maxRecDepth 100000 in
def a1w(i0:TypeInfo)(z:Value)(bytes:Nat)(hi:prog.info? 2=some i0)(hz0:i0.zero=some z)(R7:i0.size=1)(hz2:i0.bytes=bytes)(R8:z.cells.size=1)
  (a:Addr) (n c:Nat) (news:List Value) (w:World) (hl:news.length=n * 1) (hn:n<=maxLen) (P9:n * bytes<=140737488355328)
  (hc:∀ j u,news[j]?=some u->w.cell? (a.add j)=some u) (h1:∀ u∈news,u.oneCell'=true) :
  Calls prog eu #[.slice (some a) n c] w λ e w'=>∃ v',e = .returned v'/\w'.ownsRow w.heap.size 2 1 v' n news/\Below w.heap.size w w':=by
 have t22:prog.underlying 30=some (.slice 2):=by kernel_rfl
 have q22:∀ (w:World) (a:Option Addr) (n c n' c':Nat),(binOp .eql 30 (.slice a n c) (.slice none n' c')).run prog w = .ok (.bool a.isNone) w:=λ w a n c n' c'=>b7R w _ _ a n c n' c' t22;have u22:∀ w,Sem.run prog (underlying 30) w = .ok (TypeDesc.slice 2) w:=b5N t22;have z23:∀ w,(Go.sizeOf 2).run prog w = .ok 1 w:=λ w=>by simp[Go.sizeOf,typeInfo,hi,R7,Result.andThen]
 have A:Aside (∀ j u,news[j]?=some u->w.cell? (a.add j)=some u):=hc;clear hc;go_enter Tryz.func135,Tryz.ntmps135;go_wp2_with (at_builtin;refine wpList_append_own _ rfl _ _ 30 rfl w.heap.size 2 i0 z 1 bytes t22 hi hz0 R7 hz2 R8 (by decide) _ _ _ rfl (b8i w #[] 0 (b5w _) (b5Y _) (by simp)) a n c news rfl ?qc1 ?qc2 ?qc3 ?qc4 ?qc5 ?qc6 ?_);case qc1=>exact hl
 case qc2 =>
  intro j u hj;exact b8K _ (A.out j u hj)
 case qc3=>exact h1
 case qc4=>rw[b6w];exact hn
 case qc5=>rw[b6w];exact P9
 case qc6=>simp
 intro v' w1 n9 ND tG;go_wp2;go_ret;refine⟨v',rfl,by simpa using n9,?_⟩;exact ((Below.refl _ w).alloc (Nat.le_refl _) _).grown ND (by simp) (by intro k hk;simp[Value.ownBlock] at hk;omega)
def a3v(n c:Nat)(w:World):Calls prog eu #[.slice none n c] w λ e w'=>e = .returned (.slice none 0 0)/\w'=w:=by
 have t22:prog.underlying 30=some (.slice 2):=by kernel_rfl
 have q22:∀ (w:World) (a:Option Addr) (n c n' c':Nat),(binOp .eql 30 (.slice a n c) (.slice none n' c')).run prog w = .ok (.bool a.isNone) w:=λ w a n c n' c'=>b7R w _ _ a n c n' c' t22;go_enter Tryz.func135,Tryz.ntmps135;go_wp2;go_ret;exact⟨rfl,rfl⟩
def a3w(xs:List Int)(hx:xs.length<=1048576):pT prog eu [.val ⟨.slice (.int .i64),xs⟩] [⟨.slice (.int .i64),xs⟩]:=by
 intro w S b9 fa hS ha _ _ _;match b9,ha with
 | [v],⟨f1,f2,e0,⟨e1,h1⟩,e2⟩ =>
  have e2:f2=[]:=e2;subst e1 e2;have e0:fa=[]:=e0;subst e0;have h1:Rd w S (.slice 1 (xs.map (Ty.int .i64).aP)) [v]:=h1;obtain⟨a,c,e,h2,h3,h4,h5⟩:=id h1;simp only[b4X,b5d] at e;rw[show (List.map (Ty.int .i64).aP xs).length=xs.length from b5g _] at e h2;subst e;have Qf:∀ d∈xs.map (Ty.int .i64).aP,d.light=true:=λ d hd=>by obtain⟨y,_,rfl⟩:=b4W.1 hd;rfl
  have done:∀ (v:Value) (w':World) (l:List Value),w'.ownsRow w.heap.size 2 1 v xs.length l->Below w.heap.size w w'->dU w S (xs.map (Ty.int .i64).aP) l->∃ x fp,Ending.returned v = .returned x/\bD (λ b=>b∈([]:List Nat)) w w'/\uz w' [⟨.slice (.int .i64),xs⟩] x fp/\fp.Nodup/\∀ b∈fp,b∈([]:List Nat)\/(w.heap.size<=b/\b<w'.heap.size):=λ v w' l ho hb hr=>by
   have hk:bD (λ b=>b∈([]:List Nat)) w w':=⟨hb.os,hb.tape,hb.output,hb.size,λ k hk _=>hb.block k hk⟩;rcases ho.2 with ⟨rfl,hn⟩|⟨g,cap,cur,rfl,hg,hh,WE,YA,YB,hn4⟩
   .have hn:xs=[]:=b5U hn;subst hn;exact⟨_,[],rfl,hk,⟨none,0,rfl,b5w _,by simp[maxLen],by simp, .inl ⟨rfl,⟨rfl,rfl⟩,rfl⟩⟩,b6b,by simp⟩
   .have hl:cur.toList=l++cur.toList.drop (xs.length * 1):=by rw[<-hn4,b6d]
    refine⟨_,[g],rfl,hk,⟨some ⟨g,0,none⟩,cap,by rw[List.length_map],by rw[List.length_map];exact WE,YA,(by show (xs.map (Ty.int .i64).aP).length<=140737488355328;rw[List.length_map];omega), .inr ⟨g,[],cur.toList,2,rfl,rfl,by simpa using hh,(by show cur.toList.length=cap * 1;simpa using YB),?_⟩⟩,by simp,λ b q=>?_⟩
    .rw[hl];exact bR.ew _ Qf (S:=λ _=>True) (hr.aR (λ _ _=>trivial) λ b q=>hb.block b (hS.1 b q))
    .simp only[b5t] at q;subst q;exact .inr ⟨hg,(b5Z.1 hh).1⟩
  have hi:∃ i0 z bytes,prog.info? 2=some i0/\i0.zero=some z/\i0.size=1/\i0.bytes=bytes/\z.cells.size=1/\bytes<=100:=by
   have q:(match prog.info? 2 with
    | some i=>match i.zero with
     | some z=>decide (i.size=1)&&(decide (z.cells.size=1)&&decide (i.bytes<=100))
     | none=>false
    | none=>false)=true:=by kernel_rfl
   split at q
   .rename_i i hi;split at q
    .rename_i z hz;simp only[b4S,b4N] at q;exact⟨i,z,_,hi,hz,q.1,rfl,q.2.1,q.2.2⟩
    .cases q
   .cases q
  obtain⟨i0,z,bytes,k1,k2,k3,k4,k5,k6⟩:=hi;have P9:xs.length * bytes<=140737488355328:=b6x (b8a hx k6) (by decide);have key:∀ (ad:Addr) (l:List Value),a=some ad->dU w S (xs.map (Ty.int .i64).aP) l->(∀ j u,l[j]?=some u->w.cell? (ad.add j)=some u) ->
    Calls prog eu #[.slice a xs.length c] w λ e w'=>∃ x fp,e = .returned x/\bD (λ b=>b∈([]:List Nat)) w w'/\uz w' [⟨.slice (.int .i64),xs⟩] x fp/\fp.Nodup/\∀ b∈fp,b∈([]:List Nat)\/(w.heap.size<=b/\b<w'.heap.size):=λ ad l e hr hc=>by
   subst e;have hl:=dU.length _ hr (n:=1) λ d hd=>by
    obtain⟨y,_,rfl⟩:=b4W.1 hd;rfl
   rw[b5g] at hl;refine (a1w i0 z bytes k1 k2 k3 k4 k5 ad xs.length c l w hl (b6x h2 h3) P9 hc (dU.nt (τ := .int .i64) hr)).mono ?_;rintro e w' ⟨v',rfl,ho,hb⟩;exact done v' w' l ho hb hr
  rcases h5 with h5|⟨b,o,rfl,hb,h5⟩
  .have hn:xs=[]:=b7l.1 h5;cases a with
   | none =>
    subst hn;refine (a3v _ c w).mono ?_;rintro e w' ⟨rfl,rfl⟩;exact done _ _ [] (World.ownsRow_nil w' _ _ _) (b8r _ _) rfl
   | some ad=>exact key ad [] rfl (by subst hn;rfl) (λ j u hj=>by simp at hj)
  .obtain⟨l,hl,hc⟩:=dw.cells _ _ _ h5;exact key ⟨b,o,none⟩ l rfl hl λ j u hj=>by rw[b7f];exact hc j u hj
def qJ:aN:=⟨eu,[.v (.slice (.int .i64))],λ (xs:List Int)=>⟨(some (xs.length<=1048576),[⟨(.slice (.int .i64)),xs⟩])⟩⟩
def Ar:aN.cZ qJ :=
 ⟨ar EO rfl (by decide),λ xs h=>a3w xs h⟩
end
end Go.Proofs.YtmjfpcajohhbeaaGreatDoor

namespace Go.Proofs.YtmjfpcajohhbeaaGreatDoor
noncomputable section
def zg:aN:=⟨BE,[.v (.slice (.st .expr))],λ (xs:List J)=>⟨(some (xs.length+aG aE xs<=1048576),[⟨(.slice (.st .expr)),xs⟩])⟩⟩
def NY(xs:List J):Nat->aA:=(cQ 0 (.a (Nat) (λ i=>i<=xs.length) (λ i=>xs.length - i) [0,2,6,7,8] (λ i=>[(11, .aH ⟨(.int .i64),((i:Int):Int)⟩),(3, .av 900)]) [] (λ i=>[(900, .av (.st .expr) (xs.take i:List J))])) bJ)
def HK:aN.cZ zg:=by
 refine⟨ar xM,?_⟩;intro (xs:List J) (hp:xs.length+aG aE xs<=1048576);refine cp [] [eV] [] [] [17,18,19,8] [] [] [] trivial ⟨iP,ae⟩ trivial trivial xM H9 (NY xs) (let v0:=(xs.length:Int);((O v0->(bG (0:Int) v0 40/\(O v0->((∃ i1:Nat,(i1<=xs.length/\((True/\(xs=xs/\(v0=v0/\((0:Int)=(i1:Int)/\True))))/\((List.replicate 0 zE)=(xs.take i1)/\True))))/\(∀ i1:Nat,let v1:=aI (xs.getD i1 zE);(i1<=xs.length->(((decide ((i1:Int)<v0))=true->(ak (i1:Int) xs.length/\(aE v1<=1048576/\(bc ((xs.take i1).length+([v1]).length) 40/\(O ((i1:Int)+(1:Int))/\(∃ i2:Nat,(i2<=xs.length/\(xs.length - i2<xs.length - i1/\((True/\(xs=xs/\(v0=v0/\(((i1:Int)+(1:Int))=(i2:Int)/\True))))/\(((xs.take i1)++([v1]))=(xs.take i2)/\True))))))))))/\((decide ((i1:Int)<v0))=false->(xs.take i1)=xs)))))))))) ?_;have f1:=λ i (h:i<xs.length)=>fi aE zE xs i h;have f2:xs.take 0=[]:=b5T;refine λ _=>⟨?_,λ _=>⟨⟨0,?_,⟨ae,rfl,rfl,?_,ae⟩,?_,ae⟩,λ i1 _=>⟨λ _=>⟨?_,?_,?_,?_,i1+1,?_,?_,⟨ae,rfl,rfl,?_,ae⟩,?_,ae⟩,λ _=>?_⟩⟩⟩;all_goals try and_intros
 all_goals try (first|with_reducible rfl|with_reducible assumption)
 all_goals try simp only[J.eta,ag.eta,au.eta,aK,br,bL] at *
 all_goals first|with_reducible rfl|with_reducible assumption|exact True.intro|(simp only[b4V,b4U,b4T,b4R] at *;done)|((try simp only[b5q,J.eta,b4N,b4M,b4T,b4R,b5a,b5k,ak,O,bc,b5f,b4Y,b5j,b5g,b5n] at *);first|exact True.intro|omega |  (rw[f2];done)|(rw[f2];rfl)|(rw[cC zE xs i1 (by omega)];done)|exact (cC zE xs i1 (by omega)).symm|(rw[b5o (by omega)];done)|exact (b5o (by omega)).symm|(have:=f1 i1 (by omega);omega)|(simp only[bG];omega)|(have:=b5n (l:=xs) (i:=i1);omega))
def Bq:aN:=⟨Ed,[.v (.st .proofStep)],λ (s:U)=>⟨(some (aZ s<=1048576),[⟨(.st .proofStep),s⟩])⟩⟩
def QA(s:U):Nat->aA:=bJ
def JE:aN.cZ Bq:=by
 refine⟨ar AE,?_⟩;intro (s:U) (hp:aZ s<=1048576);refine cp [] [qJ,zg] [] [] [9,12,15] [] [] [1] trivial ⟨Ar,HK,ae⟩ trivial trivial AE KB (QA s) ((O s.use->(s.path.length<=140737488355328->(s.aw.length<=140737488355328->(s.bd.length<=140737488355328->(s.use=s.use/\(s.use=s.use/\(s.back=s.back/\(s.back=s.back/\(s.path=s.path/\(s.path=s.path/\(s.aw=s.aw/\(s.aw=s.aw/\(s.bd=s.bd/\(s.bd=s.bd/\(s.path.length<=1048576/\(s.use=s.use/\(s.use=s.use/\(s.back=s.back/\(s.back=s.back/\(s.aw=s.aw/\(s.aw=s.aw/\(s.bd=s.bd/\(s.bd=s.bd/\(s.aw.length+aG aE s.aw<=1048576/\(s.use=s.use/\(s.use=s.use/\(s.back=s.back/\(s.back=s.back/\(s.bd=s.bd/\(s.bd=s.bd/\(s.bd.length+aG aE s.bd<=1048576/\(s.use=s.use/\(s.use=s.use/\(s.back=s.back/\(s.back=s.back/\s=s)))))))))))))))))))))))))))))))))))) ?_;rw[gR] at hp;refine λ _ _ _ _=>⟨rfl,rfl,rfl,rfl,rfl,rfl,rfl,rfl,rfl,rfl,?_,rfl,rfl,rfl,rfl,rfl,rfl,rfl,rfl,?_,rfl,rfl,rfl,rfl,rfl,rfl,?_,rfl,rfl,rfl,rfl,rfl⟩;all_goals try and_intros
 all_goals first|with_reducible rfl|with_reducible assumption|exact True.intro|omega|(simp only[b5q,J.eta,b4N,b4M,b4T,b4R,b5a,b5k,ak,O,bc,b5f,b4Y,b5j,b5g,b5n] at *;omega)
def zf:aN:=⟨BD,[.v (.st .claim)],λ (c:ag)=>⟨(some (bB c<=1048576),[⟨(.st .claim),c⟩])⟩⟩
def NX(c:ag):Nat->aA:=(cQ 0 (.a (Nat) (λ i=>i<=c.steps.length) (λ i=>c.steps.length - i) [0,1,6,7,8,9,10,11,12,13,14,15,16,17] (λ i=>[(20, .aH ⟨(.int .i64),((i:Int):Int)⟩)]) [2] (λ i=>[(3, .box [.aH ⟨(.int .i64),(c.left.aq:Int)⟩, .aH ⟨(.int .i64),(c.left.aS:Int)⟩, .av 900, .aH ⟨(.int .i64),(c.right.aq:Int)⟩, .aH ⟨(.int .i64),(c.right.aS:Int)⟩, .av 1200, .aH ⟨(.int .i64),(c.aM:Int)⟩, .aH ⟨(.int .i64),(c.ref:Int)⟩, .av 3000]),(900, .av (.st .expr) (c.left.M:List J)),(1200, .av (.st .expr) (c.right.M:List J)),(3000, .av (.st .proofStep) (c.steps.take i:List U))])) bJ)
abbrev tS(c:ag):Prop:=(c.left.aq=c.left.aq/\(c.left.aS=c.left.aS/\(True/\(c.right.aq=c.right.aq/\(c.right.aS=c.right.aS/\(True/\(c.aM=c.aM/\(c.ref=c.ref/\(True/\True)))))))))
abbrev tT :Prop:=(let v0:=(0:Int);((v0=v0/\(v0=v0/\(True/\(v0=v0/\(v0=v0/\(True/\(v0=v0/\(v0=v0/\(True/\True)))))))))/\True))
def HJ:aN.cZ zf:=by
 refine⟨ar xL,?_⟩;intro (c:ag) (hp:bB c<=1048576);refine cp [] [eV,Bq] [] [] [8,11,27,28,29] [] [] [1] trivial ⟨iP,JE,ae⟩ trivial trivial xL H8 (NX c) (let v0:=U.mk (0:Int) false [] [] [];let v1:=(c.steps.length:Int);let v2:=(3:Nat)=3/\(8:Nat)=8;((O c.aM->(O c.ref->(c.left=c.left/\(c.left=c.left/\(c.right=c.right/\(c.right=c.right/\(c.aM=c.aM/\(c.aM=c.aM/\(c.ref=c.ref/\(c.ref=c.ref/\(aE c.left<=1048576/\(c.right=c.right/\(c.right=c.right/\(c.aM=c.aM/\(c.aM=c.aM/\(c.ref=c.ref/\(c.ref=c.ref/\(aE c.right<=1048576/\(c.aM=c.aM/\(c.aM=c.aM/\(c.ref=c.ref/\(c.ref=c.ref/\(c.steps.length<=140737488355328->(O v1->((∃ i1:Nat,(i1<=c.steps.length/\((True/\(True/\(c.steps=c.steps/\(v1=v1/\((0:Int)=(i1:Int)/\True)))))/\((tS c)/\(c.left.M=c.left.M/\(c.right.M=c.right.M/\((c.steps.take i1)=[]/\tT)))))))/\(∀ i1:Nat,let v3:=c.steps.getD i1 v0;let v4:=c.steps.take i1;(i1<=c.steps.length->(((decide ((i1:Int)<v1))=true->(ak (i1:Int) c.steps.length/\(v2/\((3000:Nat)=3000/\((v3.use=v3.use/\(v3.back=v3.back/\(v3.path=v3.path/\(v3.aw=v3.aw/\(v3.bd=v3.bd/\True)))))/\(aZ v3<=1048576/\(v2/\((3000:Nat)=3000/\(v2/\((3000:Nat)=3000/\(bc (v4.length+([v3]).length) 88/\(O ((i1:Int)+(1:Int))/\(∃ i2:Nat,(i2<=c.steps.length/\(c.steps.length - i2<c.steps.length - i1/\((True/\(True/\(c.steps=c.steps/\(v1=v1/\(((i1:Int)+(1:Int))=(i2:Int)/\True)))))/\((tS c)/\(c.left.M=c.left.M/\(c.right.M=c.right.M/\((v4++([v3]))=(c.steps.take i2)/\tT))))))))))))))))))))/\((decide ((i1:Int)<v1))=false->(ag.mk (J.mk c.left.aq c.left.aS c.left.M) (J.mk c.right.aq c.right.aS c.right.M) c.aM c.ref v4)=c))))))))))))))))))))))))))))))) ?_;rw[iR] at hp;have f1:=λ i (h:i<c.steps.length)=>fi aZ (U.mk (0:Int) false [] [] []) c.steps i h;have f2:c.steps.take 0=[]:=b5T;refine λ _ _=>⟨rfl,rfl,rfl,rfl,rfl,rfl,rfl,rfl,?_,rfl,rfl,rfl,rfl,rfl,rfl,?_,rfl,rfl,rfl,rfl,λ _ _=>⟨⟨0,?_,⟨ae,ae,rfl,rfl,?_,ae⟩,⟨rfl,rfl,ae,rfl,rfl,ae,rfl,rfl,ae,ae⟩,rfl,rfl,?_,⟨rfl,rfl,ae,rfl,rfl,ae,rfl,rfl,ae,ae⟩,ae⟩,λ i1 _=>⟨λ _=>⟨?_,⟨?_,?_⟩,?_,⟨rfl,rfl,rfl,rfl,rfl,?_⟩,?_,⟨?_,?_⟩,?_,⟨?_,?_⟩,?_,?_,?_,i1+1,?_,?_,⟨ae,ae,rfl,rfl,?_,ae⟩,⟨rfl,rfl,ae,rfl,rfl,ae,rfl,rfl,ae,ae⟩,rfl,rfl,?_,⟨rfl,rfl,ae,rfl,rfl,ae,rfl,rfl,ae,ae⟩,ae⟩,λ _=>?_⟩⟩⟩;all_goals try and_intros
 all_goals first|with_reducible rfl|with_reducible assumption|exact True.intro|(simp only[b4V,b4U,b4T,b4R] at *;done)|((try simp only[b5q,J.eta,b4N,b4M,b4T,b4R,b5a,b5k,ak,O,bc,b5f,b4Y,b5j,b5g,b5n] at *);first|exact True.intro|omega |  (rw[f2];done)|(rw[f2];rfl)|(rw[cC (U.mk (0:Int) false [] [] []) c.steps i1 (by omega)];done)|exact (cC (U.mk (0:Int) false [] [] []) c.steps i1 (by omega)).symm|(rw[b5o (by omega)];done)|exact (b5o (by omega)).symm|(have:=f1 i1 (by omega);omega)|(simp only[bG];omega)|(have:=b5n (l:=c.steps) (i:=i1);omega))
open Go.RowKit Go.Proofs
set_option maxRecDepth 100000 in
def a4r(i0:TypeInfo)(z:Value)(bytes:Nat)(hi:prog.info? 2=some i0)(hz0:i0.zero=some z)(R7:i0.size=1)(hz2:i0.bytes=bytes)(R8:z.cells.size=1)
  (a:Addr) (n c:Nat) (news:List Value) (w:World) (hl:news.length=n * 1) (hn:n<=maxLen) (P9:n * bytes<=140737488355328)
  (hc:∀ j u,news[j]?=some u->w.cell? (a.add j)=some u) (h1:∀ u∈news,u.oneCell'=true) :
  Calls prog jI #[.slice (some a) n c] w λ e w'=>∃ v',e = .returned v'/\w'.ownsRow w.heap.size 2 1 v' n news/\Below w.heap.size w w':=by
 have t22:prog.underlying 30=some (.slice 2):=by kernel_rfl
 have q22:∀ (w:World) (a:Option Addr) (n c n' c':Nat),(binOp .eql 30 (.slice a n c) (.slice none n' c')).run prog w = .ok (.bool a.isNone) w:=λ w a n c n' c'=>b7R w _ _ a n c n' c' t22;have u22:∀ w,Sem.run prog (underlying 30) w = .ok (TypeDesc.slice 2) w:=b5N t22;have z23:∀ w,(Go.sizeOf 2).run prog w = .ok 1 w:=λ w=>by simp[Go.sizeOf,typeInfo,hi,R7,Result.andThen]
 have A:Aside (∀ j u,news[j]?=some u->w.cell? (a.add j)=some u):=hc;clear hc;go_enter Tryz.func133,Tryz.ntmps133;go_wp2_with (at_builtin;refine wpList_append_own _ rfl _ _ 30 rfl w.heap.size 2 i0 z 1 bytes t22 hi hz0 R7 hz2 R8 (by decide) _ _ _ rfl (b8i w #[] 0 (b5w _) (b5Y _) (by simp)) a n c news rfl ?qc1 ?qc2 ?qc3 ?qc4 ?qc5 ?qc6 ?_);case qc1=>exact hl
 case qc2 =>
  intro j u hj;exact b8K _ (A.out j u hj)
 case qc3=>exact h1
 case qc4=>rw[b6w];exact hn
 case qc5=>rw[b6w];exact P9
 case qc6=>simp
 intro v' w1 n9 ND tG;go_wp2;go_ret;refine⟨v',rfl,by simpa using n9,?_⟩;exact ((Below.refl _ w).alloc (Nat.le_refl _) _).grown ND (by simp) (by intro k hk;simp[Value.ownBlock] at hk;omega)
def a6s(c:Nat)(w:World):Calls prog jI #[.slice none 0 c] w λ e w'=>∃ v',e = .returned v'/\w'.ownsRow w.heap.size 2 1 v' 0 []/\Below w.heap.size w w':=by
 have t22:prog.underlying 30=some (.slice 2):=by kernel_rfl
 have u22:∀ w,Sem.run prog (underlying 30) w = .ok (TypeDesc.slice 2) w:=b5N t22;go_enter Tryz.func133,Tryz.ntmps133;go_wp2;go_ret;exact⟨_,rfl,b8i w #[] 0 (b5w _) (b5Y _) (by simp),(b8r _ w).alloc (b5w _) _⟩
def a6t(xs:List Int)(hx:xs.length<=1048576):pT prog jI [.val ⟨.slice (.int .i64),xs⟩] [⟨.slice (.int .i64),xs⟩]:=by
 intro w S b9 fa hS ha _ _ _;match b9,ha with
 | [v],⟨f1,f2,e0,⟨e1,h1⟩,e2⟩ =>
  have e2:f2=[]:=e2;subst e1 e2;have e0:fa=[]:=e0;subst e0;have h1:Rd w S (.slice 1 (xs.map (Ty.int .i64).aP)) [v]:=h1;obtain⟨a,c,e,h2,h3,h4,h5⟩:=id h1;simp only[b4X,b5d] at e;rw[show (List.map (Ty.int .i64).aP xs).length=xs.length from b5g _] at e h2;subst e;have Qf:∀ d∈xs.map (Ty.int .i64).aP,d.light=true:=λ d hd=>by obtain⟨y,_,rfl⟩:=b4W.1 hd;rfl
  have done:∀ (v:Value) (w':World) (l:List Value),w'.ownsRow w.heap.size 2 1 v xs.length l->Below w.heap.size w w'->dU w S (xs.map (Ty.int .i64).aP) l->∃ x fp,Ending.returned v = .returned x/\bD (λ b=>b∈([]:List Nat)) w w'/\uz w' [⟨.slice (.int .i64),xs⟩] x fp/\fp.Nodup/\∀ b∈fp,b∈([]:List Nat)\/(w.heap.size<=b/\b<w'.heap.size):=λ v w' l ho hb hr=>by
   have hk:bD (λ b=>b∈([]:List Nat)) w w':=⟨hb.os,hb.tape,hb.output,hb.size,λ k hk _=>hb.block k hk⟩;rcases ho.2 with ⟨rfl,hn⟩|⟨g,cap,cur,rfl,hg,hh,WE,YA,YB,hn4⟩
   .have hn:xs=[]:=b5U hn;subst hn;exact⟨_,[],rfl,hk,⟨none,0,rfl,b5w _,by simp[maxLen],by simp, .inl ⟨rfl,⟨rfl,rfl⟩,rfl⟩⟩,b6b,by simp⟩
   .have hl:cur.toList=l++cur.toList.drop (xs.length * 1):=by rw[<-hn4,b6d]
    refine⟨_,[g],rfl,hk,⟨some ⟨g,0,none⟩,cap,by rw[List.length_map],by rw[List.length_map];exact WE,YA,(by show (xs.map (Ty.int .i64).aP).length<=140737488355328;rw[List.length_map];omega), .inr ⟨g,[],cur.toList,2,rfl,rfl,by simpa using hh,(by show cur.toList.length=cap * 1;simpa using YB),?_⟩⟩,by simp,λ b q=>?_⟩
    .rw[hl];exact bR.ew _ Qf (S:=λ _=>True) (hr.aR (λ _ _=>trivial) λ b q=>hb.block b (hS.1 b q))
    .simp only[b5t] at q;subst q;exact .inr ⟨hg,(b5Z.1 hh).1⟩
  have hi:∃ i0 z bytes,prog.info? 2=some i0/\i0.zero=some z/\i0.size=1/\i0.bytes=bytes/\z.cells.size=1/\bytes<=100:=by
   have q:(match prog.info? 2 with
    | some i=>match i.zero with
     | some z=>decide (i.size=1)&&(decide (z.cells.size=1)&&decide (i.bytes<=100))
     | none=>false
    | none=>false)=true:=by kernel_rfl
   split at q
   .rename_i i hi;split at q
    .rename_i z hz;simp only[b4S,b4N] at q;exact⟨i,z,_,hi,hz,q.1,rfl,q.2.1,q.2.2⟩
    .cases q
   .cases q
  obtain⟨i0,z,bytes,k1,k2,k3,k4,k5,k6⟩:=hi;have P9:xs.length * bytes<=140737488355328:=b6x (b8a hx k6) (by decide);have key:∀ (ad:Addr) (l:List Value),a=some ad->dU w S (xs.map (Ty.int .i64).aP) l->(∀ j u,l[j]?=some u->w.cell? (ad.add j)=some u) ->
    Calls prog jI #[.slice a xs.length c] w λ e w'=>∃ x fp,e = .returned x/\bD (λ b=>b∈([]:List Nat)) w w'/\uz w' [⟨.slice (.int .i64),xs⟩] x fp/\fp.Nodup/\∀ b∈fp,b∈([]:List Nat)\/(w.heap.size<=b/\b<w'.heap.size):=λ ad l e hr hc=>by
   subst e;have hl:=dU.length _ hr (n:=1) λ d hd=>by
    obtain⟨y,_,rfl⟩:=b4W.1 hd;rfl
   rw[b5g] at hl;refine (a4r i0 z bytes k1 k2 k3 k4 k5 ad xs.length c l w hl (b6x h2 h3) P9 hc (dU.nt (τ := .int .i64) hr)).mono ?_;rintro e w' ⟨v',rfl,ho,hb⟩;exact done v' w' l ho hb hr
  rcases h5 with h5|⟨b,o,rfl,hb,h5⟩
  .have hn:xs=[]:=b7l.1 h5;cases a with
   | none =>
    subst hn;refine (a6s c w).mono ?_;rintro e w' ⟨v',rfl,ho,hb⟩;exact done v' w' [] ho hb rfl
   | some ad=>exact key ad [] rfl (by subst hn;rfl) (λ j u hj=>by simp at hj)
  .obtain⟨l,hl,hc⟩:=dw.cells _ _ _ h5;exact key ⟨b,o,none⟩ l rfl hl λ j u hj=>by rw[b7f];exact hc j u hj
def GH:aN:=⟨jI,[.v (.slice (.int .i64))],λ (xs:List Int)=>⟨(some (xs.length<=1048576),[⟨(.slice (.int .i64)),xs⟩])⟩⟩
def Oc:aN.cZ GH :=
 ⟨ar T9 rfl (by decide),λ xs h=>a6t xs h⟩
def wP:aN:=⟨zG,[.v (.slice (.st .expr))],λ (xs:List J)=>⟨(some (xs.length+aG aE xs<=1048576),[⟨(.slice (.st .expr)),xs⟩])⟩⟩
def Lq(xs:List J):Nat->aA:=(cQ 0 (.a (Nat) (λ i=>i<=xs.length) (λ i=>xs.length - i) [2,5] (λ i=>[(4, .aH ⟨(.int .i64),((i:Int):Int)⟩),(3, .av 900)]) [] (λ i=>[(900, .av (.st .expr) (xs.take i:List J))])) bJ)
def FI:aN.cZ wP:=by
 refine⟨ar wo,?_⟩;intro (xs:List J) (hp:xs.length+aG aE xs<=1048576);refine cp [] [fm] [] [] [5,16,17,18] [] [] [] trivial ⟨gV,ae⟩ trivial trivial wo Hk (Lq xs) (let v0:=(xs.length:Int);(((∃ i1:Nat,(i1<=xs.length/\((xs=xs/\(True/\((0:Int)=(i1:Int)/\True)))/\([]=(xs.take i1)/\True))))/\(∀ i1:Nat,(i1<=xs.length->(O v0->(((decide ((i1:Int)<v0))=true->(ak (i1:Int) xs.length/\(aE (xs.getD i1 zE)<=1048576/\(bc ((xs.take i1).length+([(aI (xs.getD i1 zE))]).length) 40/\(O ((i1:Int)+(1:Int))/\(∃ i2:Nat,(i2<=xs.length/\(xs.length - i2<xs.length - i1/\((xs=xs/\(True/\(((i1:Int)+(1:Int))=(i2:Int)/\True)))/\(((xs.take i1)++([(aI (xs.getD i1 zE))]))=(xs.take i2)/\True))))))))))/\((decide ((i1:Int)<v0))=false->(xs.take i1)=xs)))))))) ?_;have f1:=λ i (h:i<xs.length)=>fi aE zE xs i h;have f2:xs.take 0=[]:=b5T;refine⟨⟨0,?_,⟨rfl,ae,?_,ae⟩,?_,ae⟩,λ i1 _ _=>⟨λ _=>⟨?_,?_,?_,?_,i1+1,?_,?_,⟨rfl,ae,?_,ae⟩,?_,ae⟩,λ _=>?_⟩⟩;all_goals try and_intros
 all_goals try (first|with_reducible rfl|with_reducible assumption)
 all_goals try simp only[J.eta,ag.eta,au.eta,aK,br,bL] at *
 all_goals first|with_reducible rfl|with_reducible assumption|exact True.intro|(simp only[b4V,b4U,b4T,b4R] at *;done)|((try simp only[b5q,J.eta,b4N,b4M,b4T,b4R,b5a,b5k,ak,O,bc,b5f,b4Y,b5j,b5g,b5n] at *);first|exact True.intro|omega |  (rw[f2];done)|(rw[f2];rfl)|(rw[cC zE xs i1 (by omega)];done)|exact (cC zE xs i1 (by omega)).symm|(rw[b5o (by omega)];done)|exact (b5o (by omega)).symm|(have:=f1 i1 (by omega);omega)|(simp only[bG];omega)|(have:=b5n (l:=xs) (i:=i1);omega))
def wQ:aN:=⟨zH,[.r (.st .proofStep)],λ (s:U)=>⟨(some (aZ s<=1048576),[⟨(.st .proofStep),s⟩])⟩⟩
def Lr(s:U):Nat->aA:=bJ
def FJ:aN.cZ wQ:=by
 refine⟨ar wq,?_⟩;intro (s:U) (hp:aZ s<=1048576);refine cp [] [GH,wP] [] [] [15,20,25] [] [] [] trivial ⟨Oc,FI,ae⟩ trivial trivial wq Hl (Lr s) ((O s.use->(s.path.length<=140737488355328->(s.aw.length<=140737488355328->(s.bd.length<=140737488355328->(s=s/\(s=s/\(s.use=s.use/\(s.use=s.use/\(s=s/\(s=s/\(s.back=s.back/\(s.back=s.back/\(s=s/\(s=s/\(s.path=s.path/\(s.path=s.path/\(s=s/\(s=s/\(s.aw=s.aw/\(s.aw=s.aw/\(s=s/\(s=s/\(s.bd=s.bd/\(s.bd=s.bd/\(s.path.length<=1048576/\(s=s/\(s=s/\(s.use=s.use/\(s.use=s.use/\(s=s/\(s=s/\(s.back=s.back/\(s.back=s.back/\(s=s/\(s=s/\(s.aw=s.aw/\(s.aw=s.aw/\(s=s/\(s=s/\(s.bd=s.bd/\(s.bd=s.bd/\(s.aw.length+aG aE s.aw<=1048576/\(s=s/\(s=s/\(s.use=s.use/\(s.use=s.use/\(s=s/\(s=s/\(s.back=s.back/\(s.back=s.back/\(s=s/\(s=s/\(s.bd=s.bd/\(s.bd=s.bd/\(s.bd.length+aG aE s.bd<=1048576/\(s=s/\(s=s/\(s.use=s.use/\(s.use=s.use/\(s=s/\(s=s/\(s.back=s.back/\(s.back=s.back/\s=s)))))))))))))))))))))))))))))))))))))))))))))))))))))))))))))))) ?_;rw[gR] at hp;refine λ _ _ _ _=>⟨rfl,rfl,rfl,rfl,rfl,rfl,rfl,rfl,rfl,rfl,rfl,rfl,rfl,rfl,rfl,rfl,rfl,rfl,rfl,rfl,?_,rfl,rfl,rfl,rfl,rfl,rfl,rfl,rfl,rfl,rfl,rfl,rfl,rfl,rfl,rfl,rfl,?_,rfl,rfl,rfl,rfl,rfl,rfl,rfl,rfl,rfl,rfl,rfl,rfl,?_,rfl,rfl,rfl,rfl,rfl,rfl,rfl,rfl,rfl⟩;all_goals try and_intros
 all_goals first|with_reducible rfl|with_reducible assumption|exact True.intro|omega|(simp only[b5q,J.eta,b4N,b4M,b4T,b4R,b5a,b5k,ak,O,bc,b5f,b4Y,b5j,b5g,b5n] at *;omega)
end
end Go.Proofs.YtmjfpcajohhbeaaGreatDoor

namespace Go.Proofs.YtmjfpcajohhbeaaGreatDoor
noncomputable section
def HQ(p:ai):Bool:=decide ((p.af.length:Int)<=(Am p:Int))
def k9(p:ai):Int:=bif dQ p then (bif HQ p then 0 else 8) else 1
def tz(l:List ai):Int:=bif bu dQ l then (bif bu HQ l then 0 else 8) else 1
def b0z{l:List ai}(h:bu dQ l=false):tz l=1:=by unfold tz;rw[h];rfl
def b2V{l:List ai}(h:bu dQ l=true)(h2:bu HQ l=false):tz l=8:=by unfold tz;rw[h,h2];rfl
def b2U{l:List ai}(h:bu dQ l=true)(h2:bu HQ l=true):tz l=0:=by unfold tz;rw[h,h2];rfl
def b0B{p:ai}(h:dQ p=false):k9 p=1:=by unfold k9;rw[h];rfl
def b0C{p:ai}(h:dQ p=true)(h2:(Am p:Int)<(p.af.length:Int)):k9 p=8:=by unfold k9 HQ;rw[h,decide_eq_false (by omega)];rfl
def b0A{p:ai}(h:dQ p=true)(h2:¬ (Am p:Int)<(p.af.length:Int)):k9 p=0:=by unfold k9 HQ;rw[h,decide_eq_true (by omega)];rfl
def a4S(p:ai):tz [p]=k9 p:=by unfold tz k9;simp only[bu,Bool.and_true]
def b2r{p:ai}(h2:(Am p:Int)<(p.af.length:Int)):HQ p=false:=by unfold HQ;exact decide_eq_false (by omega)
def b2q{p:ai}(h2:¬ (Am p:Int)<(p.af.length:Int)):HQ p=true:=by unfold HQ;exact decide_eq_true (by omega)
structure Mq(l:List ai)(k:Nat):Prop where
 v:bu dQ l=true
 t:lO HQ l k
def Mq.pv{l:List ai}{k:Nat}(h:Mq l k)(hk:k<l.length):pU (l.getD k (ai.mk (aW.mk (0:Int) (0:Int)) [])):=⟨rM dQ (ai.mk (aW.mk (0:Int) (0:Int)) []) l k h.v hk⟩
def Mq.bad{l:List ai}{k:Nat}(h:Mq l k)(hk:k<l.length)(h2:(Am (l.getD k (ai.mk (aW.mk (0:Int) (0:Int)) [])):Int)<((l.getD k (ai.mk (aW.mk (0:Int) (0:Int)) [])).af.length:Int)):tz l=8:=b2V h.v (h.t.bad (ai.mk (aW.mk (0:Int) (0:Int)) []) hk (b2r h2))
def Mq.next{l:List ai}{k:Nat}(h:Mq l k)(hk:k<l.length)(h2:¬ (Am (l.getD k (ai.mk (aW.mk (0:Int) (0:Int)) [])):Int)<((l.getD k (ai.mk (aW.mk (0:Int) (0:Int)) [])).af.length:Int)):Mq l (k+1):=⟨h.v,h.t.next (ai.mk (aW.mk (0:Int) (0:Int)) []) hk (b2q h2)⟩
def Mq.end{l:List ai}{k:Nat}(h:Mq l k)(hk:l.length<=k):tz l=0:=b2U h.v (h.t.done hk)
def DM:aN:=⟨Ec,[.v (.slice (.st .proof))],λ (l:List ai)=>⟨(none,[⟨(.int .i64),tz l⟩])⟩⟩
def Sk(l:List ai):Nat->aA:=(cQ 0 (.b (Nat) (λ k=>lO dQ l k) (λ k=>l.length - k) [] (λ k=>[(9, .aH ⟨(.int .i64),((k:Int):Int)⟩)])) (cQ 2 (.b (Nat) (λ k=>Mq l k) (λ k=>l.length - k) [0,7,8,9,10] (λ k=>[(19, .aH ⟨(.int .i64),((k:Int):Int)⟩)])) bJ))
def KW:aN.Good DM:=by
 refine⟨ar AD,?_⟩;intro (l:List ai) _;refine aX [yZ,Gg] [] [] [] ⟨Ho,M5,ae⟩ AD Kz (Sk l) (let v0:=ai.mk (aW.mk (0:Int) (0:Int)) [];let v1:=(l.length:Int);((O v1->((∃ k1:Nat,(lO dQ l k1/\((l=l/\(l=l/\(v1=v1/\((0:Int)=(k1:Int)/\True))))/\True)))/\(∀ k1:Nat,(lO dQ l k1->(((decide ((k1:Int)<v1))=true->(ak (k1:Int) l.length/\(((!(dQ (l.getD k1 v0)))=true->(1:Int)=(tz l))/\((!(dQ (l.getD k1 v0)))=false->(O ((k1:Int)+(1:Int))/\(∃ k2:Nat,(lO dQ l k2/\(l.length - k2<l.length - k1/\((l=l/\(l=l/\(v1=v1/\(((k1:Int)+(1:Int))=(k2:Int)/\True))))/\True)))))))))/\((decide ((k1:Int)<v1))=false->(O v1->((∃ k2:Nat,(Mq l k2/\((l=l/\(v1=v1/\((0:Int)=(k2:Int)/\True)))/\True)))/\(∀ k2:Nat,let v3:=l.getD k2 v0;let v2:=decide (((Am v3:Int))<((v3.af.length:Int)));(Mq l k2->(((decide ((k2:Int)<v1))=true->(ak (k2:Int) l.length/\(pU v3/\(O ((Am v3:Int))->(v3.af.length<=140737488355328->(O ((v3.af.length:Int))->((v2=true->(8:Int)=(tz l))/\(v2=false->(O ((k2:Int)+(1:Int))/\(∃ k3:Nat,(Mq l k3/\(l.length - k3<l.length - k2/\((l=l/\(v1=v1/\(((k2:Int)+(1:Int))=(k3:Int)/\True)))/\True)))))))))))))/\((decide ((k2:Int)<v1))=false->(0:Int)=(tz l))))))))))))))) ?_;refine λ _=>⟨⟨0,?_,⟨rfl,rfl,rfl,?_,ae⟩,ae⟩,λ k1 _=>⟨λ _=>⟨?_,λ _=>?_,λ _=>⟨?_,k1+1,?_,?_,⟨rfl,rfl,rfl,?_,ae⟩,ae⟩⟩,λ _ _=>⟨⟨0,?_,⟨rfl,rfl,?_,ae⟩,ae⟩,λ k2 _=>⟨λ _=>⟨?_,?_,λ _ _ _=>⟨λ _=>?_,λ _=>⟨?_,k2+1,?_,?_,⟨rfl,rfl,?_,ae⟩,ae⟩⟩⟩,λ _=>?_⟩⟩⟩⟩;all_goals try and_intros
 all_goals first|with_reducible rfl|with_reducible assumption|exact True.intro|(simp only[b4V,b4U,b4T,b4R] at *;done)|((try simp only[b5q,J.eta,b4N,b4M,b4T,b4R,b5a,b5k,ak,O,bc,b5f,b4Y,b5j,b5g,b5n] at *);first|with_reducible exact True.intro|omega|exact lO.zero _ _|(have h:lO dQ l k1:=(by with_reducible assumption);first|exact b0z (h.bad _ (by omega) (by with_reducible assumption))|exact (b0z (h.bad _ (by omega) (by with_reducible assumption))).symm|exact⟨h.done (by omega),lO.zero _ _⟩|exact h.next _ (by omega) (by with_reducible assumption)|(have:=h.le;omega))|(have h:Mq l k1:=(by with_reducible assumption);first|exact h.pv (by omega)|exact h.bad (by omega) (by omega)|exact (h.bad (by omega) (by omega)).symm|exact h.end (by omega)|exact (h.end (by omega)).symm|exact h.next (by omega) (by omega)|(have:=h.t.le;omega))|(have h:Mq l k2:=(by with_reducible assumption);first|exact h.pv (by omega)|exact h.bad (by omega) (by omega)|exact (h.bad (by omega) (by omega)).symm|exact h.end (by omega)|exact (h.end (by omega)).symm|exact h.next (by omega) (by omega)|(have:=h.t.le;omega)))
def Gy:aN:=⟨GX,[.r (.st .proof)],λ (p:ai)=>⟨(none,[⟨(.int .i64),k9 p⟩])⟩⟩
def UL(p:ai):Nat->aA:=bJ
def Nq:aN.Good Gy:=by
 refine⟨ar C2,?_⟩;intro (p:ai) _;refine aX [L5,DW] [] [] [] ⟨RY,K7,ae⟩ C2 MM (UL p) (let v0:=decide (((Am p:Int))<((p.af.length:Int)));((((!(dQ p))=true->(1:Int)=(k9 p))/\((!(dQ p))=false->(pU p/\(O ((Am p:Int))->(p.af.length<=140737488355328->(O ((p.af.length:Int))->((v0=true->(8:Int)=(k9 p))/\(v0=false->(0:Int)=(k9 p))))))))))) ?_;refine⟨λ _=>?_,λ _=>⟨?_,λ _ _ _=>⟨λ _=>?_,λ _=>?_⟩⟩⟩;all_goals try and_intros
 all_goals first|with_reducible rfl|with_reducible assumption|exact True.intro|(simp only[b4V,b4U,b4T,b4R] at *;done)|((try simp only[b5q,J.eta,b4N,b4M,b4T,b4R,b5a,b5k,ak,O,bc,b5f,b4Y,b5j,b5g,b5n] at *);first|exact True.intro|exact⟨(by with_reducible assumption)⟩|exact b0B (by with_reducible assumption)|exact (b0B (by with_reducible assumption)).symm|exact b0C (by with_reducible assumption) (by omega)|exact (b0C (by with_reducible assumption) (by omega)).symm|exact b0A (by with_reducible assumption) (by omega)|exact (b0A (by with_reducible assumption) (by omega)).symm|omega)
def pN(tt:List Int)(i:Int):Int:=tt.getD i.toNat 0
def Xv(F:Int->Int)(s:U):Int:=if s.use<0 then -1 - F (-1 - s.use) else s.use
def rj(F:Int->Int)(s:U):U:=U.mk (Xv F s) s.back s.path s.aw s.bd
def U2(F:Int->Int)(c:ag):Int:=if c.aM=1 then 0 else F c.ref
def mvC(F:Int->Int)(c:ag):ag:=ag.mk c.left c.right c.aM (U2 F c) (c.steps.map (rj F))
def b2a{F:Int->Int}{s:U}(h:s.use<0):Xv F s = -1 - F (-1 - s.use):=by unfold Xv;rw[if_pos h]
def b1Z{F:Int->Int}{s:U}(h:¬ s.use<0):Xv F s=s.use:=by unfold Xv;rw[if_neg h]
def a8o{F:Int->Int}{c:ag}(h:c.aM=1):U2 F c=0:=by unfold U2;rw[if_pos h]
def a8n{F:Int->Int}{c:ag}(h:¬ c.aM=1):U2 F c=F c.ref:=by unfold U2;rw[if_neg h]
structure MvP(tt:List Int)(c:ag):Prop where
 r:¬ c.aM=1->0<=c.ref/\c.ref<(tt.length:Int)
 s:∀ i,i<c.steps.length -> -1000<=(c.steps.getD i (U.mk (0:Int) false [] [] [])).use /\ -1 - (c.steps.getD i (U.mk (0:Int) false [] [] [])).use<(tt.length:Int)
 b:∀ i,0<=pN tt i/\pN tt i<=1000
def a7e(tt:List Int)(i:Int):tt.getD i.toNat 0=pN tt i:=rfl
def a2k(F:Int->Int)(xs:List U)(i:Nat)(h:i<xs.length):(xs.take (i+1)).map (rj F)=(xs.take i).map (rj F)++[rj F (xs.getD i (U.mk (0:Int) false [] [] []))]:=by
 rw[cC (U.mk (0:Int) false [] [] []) xs i h,b6F];rfl
def a9Q(F:Int->Int)(xs:List U)(i:Nat)(h:xs.length<=i):(xs.take i).map (rj F)=xs.map (rj F):=by rw[b5o h]
def Bw:aN:=⟨Er,[.r (.st .claim), .v (.slice (.int .i64))],λ (c:ag) (tt:List Int)=>⟨(some (bB c<=1048576/\MvP tt c),[⟨(.st .claim),mvC (pN tt) c⟩])⟩⟩
def QH(c:ag)(tt:List Int):Nat->aA:=(cQ 100004 (.u (True) [8,9,10,11,12,13,14,15,16,17,18,19,20] [] [4] [(5, .box [.aH ⟨(.int .i64),(c.left.aq:Int)⟩, .aH ⟨(.int .i64),(c.left.aS:Int)⟩, .av 900, .aH ⟨(.int .i64),(c.right.aq:Int)⟩, .aH ⟨(.int .i64),(c.right.aS:Int)⟩, .av 1200, .aH ⟨(.int .i64),(c.aM:Int)⟩, .aH ⟨(.int .i64),((U2 (pN tt) c):Int)⟩, .nil]),(900, .av (.st .expr) (c.left.M:List J)),(1200, .av (.st .expr) (c.right.M:List J))] (cQ 0 (.mk (Nat) (λ i=>i<=c.steps.length) (λ i=>c.steps.length - i) [] [] (λ i=>[(6, .aH ⟨(.int .i64),((i:Int):Int)⟩)]) [4] (λ i=>[(5, .box [.aH ⟨(.int .i64),(c.left.aq:Int)⟩, .aH ⟨(.int .i64),(c.left.aS:Int)⟩, .av 900, .aH ⟨(.int .i64),(c.right.aq:Int)⟩, .aH ⟨(.int .i64),(c.right.aS:Int)⟩, .av 1200, .aH ⟨(.int .i64),(c.aM:Int)⟩, .aH ⟨(.int .i64),((U2 (pN tt) c):Int)⟩, .av 3000]),(900, .av (.st .expr) (c.left.M:List J)),(1200, .av (.st .expr) (c.right.M:List J)),(3000, .av (.st .proofStep) ((c.steps.take i).map (rj (pN tt)):List U))]) [] [] (λ i=>(cQ 100010 (.u (i<c.steps.length) [34,35,36,37,38,39,40,43,44,45,46,47,48,49] [] [4,5,900,1200,3000] [(7, .box [.aH ⟨(.int .i64),((Xv (pN tt) (c.steps.getD i (U.mk (0:Int) false [] [] []))):Int)⟩, .aH ⟨.bool,((c.steps.getD i (U.mk (0:Int) false [] [] [])).back:Bool)⟩, .av 5000, .av 5100, .av 5200]),(5000, .av (.int .i64) ((c.steps.getD i (U.mk (0:Int) false [] [] [])).path:List Int)),(5100, .av (.st .expr) ((c.steps.getD i (U.mk (0:Int) false [] [] [])).aw:List J)),(5200, .av (.st .expr) ((c.steps.getD i (U.mk (0:Int) false [] [] [])).bd:List J))] bJ) bJ))) bJ)) bJ)
abbrev jm :Prop:=(let v0:=(0:Int);((v0=v0/\(v0=v0/\(True/\(v0=v0/\(v0=v0/\(True/\(v0=v0/\(v0=v0/\(True/\True)))))))))/\True))
abbrev nV(c:ag)(tt:List Int):Prop:=(c.left.aq=c.left.aq/\(c.left.aS=c.left.aS/\(True/\(c.right.aq=c.right.aq/\(c.right.aS=c.right.aS/\(True/\(c.aM=c.aM/\((U2 (pN tt) c)=(U2 (pN tt) c)/\(True/\True)))))))))
abbrev wJ(c:ag)(i2:Nat):Prop:=(let v0:=c.steps.getD i2 (U.mk (0:Int) false [] [] []);(v0.back=(v0.back)/\(True/\(True/\(True/\True)))))
abbrev wK(c:ag)(tt:List Int)(i2:Nat):Prop:=(let v0:=c.steps.getD i2 (U.mk (0:Int) false [] [] []);let v1:=(c.steps.take i2).map (rj (pN tt));(v0.path=(v0.path)/\(v0.aw=(v0.aw)/\(v0.bd=(v0.bd)/\((nV c tt)/\(c.left.M=c.left.M/\(c.right.M=c.right.M/\(v1=v1/\jm))))))))
def JL:aN.cZ Bw:=by
 refine⟨ar AR,?_⟩;intro (c:ag) (tt:List Int) (hp:bB c<=1048576/\MvP tt c);refine cp [] [fm,wQ] [] [] [11,15,49,64,65] [] [] [] trivial ⟨gV,FJ,ae⟩ trivial trivial AR KQ (QH c tt) (let v1:=c.left.M=c.left.M/\(c.right.M=c.right.M/\jm);let v2:=True/\True;let v3:=pN tt;let v4:=(0:Int);let v0:=U.mk v4 false [] [] [];let v5:=(c.steps.length:Int);let v6:=(-1:Int);let v7:=c=c/\(tt=tt/\(True/\v2));let v8 := !(decide (c.aM=(1:Int)));((O c.aM->(c=c/\(c=c/\(c.left=c.left/\(c=c/\(c=c/\(c.right=c.right/\(c=c/\(c=c/\(c.aM=c.aM/\(c.aM=c.aM/\(aE c.left<=1048576/\(c=c/\(c=c/\(c.right=c.right/\(c=c/\(c=c/\(c.aM=c.aM/\(c.aM=c.aM/\(aE c.right<=1048576/\(c=c/\(c=c/\(c.aM=c.aM/\(c.aM=c.aM/\((O c.aM->((v8=true->(O c.ref->(ak c.ref tt.length/\(O (tt.getD (Int.toNat c.ref) v4)->(∃ u1:Unit,(True/\(v7/\((c.left.aq=c.left.aq/\(c.left.aS=c.left.aS/\(True/\(c.right.aq=c.right.aq/\(c.right.aS=c.right.aS/\(True/\(c.aM=c.aM/\((tt.getD (Int.toNat c.ref) v4)=(U2 v3 c)/\v2))))))))/\v1))))))))/\(v8=false->(∃ u1:Unit,(True/\(v7/\((c.left.aq=c.left.aq/\(c.left.aS=c.left.aS/\(True/\(c.right.aq=c.right.aq/\(c.right.aS=c.right.aS/\(True/\(c.aM=c.aM/\(v4=(U2 v3 c)/\v2))))))))/\v1)))))))/\(∀ u1:Unit,(True->((∃ i2:Nat,(i2<=c.steps.length/\((c=c/\(tt=tt/\(True/\(True/\(v4=(i2:Int)/\True)))))/\((nV c tt)/\(c.left.M=c.left.M/\(c.right.M=c.right.M/\(((c.steps.take i2).map (rj v3))=[]/\jm)))))))/\(∀ i2:Nat,let v9:=c.steps.getD i2 v0;let vb:=tt.getD (Int.toNat (v6 - v9.use)) v4;let vc:=[(U.mk (Xv v3 v9) (v9.back) (v9.path) (v9.aw) (v9.bd))];let vd:=(c.steps.take i2).map (rj v3);let ve:=(i2:Int);let va:=c=c/\(tt=tt/\(True/\(True/\(ve=ve/\v2))));(i2<=c.steps.length->(c.steps.length<=140737488355328->(O v5->(((decide (ve<v5))=true->(c.steps.length<=140737488355328->(ak ve c.steps.length/\(aZ v9<=1048576/\((O v9.use->(((decide (v9.use<v4))=true->(O v9.use->(O (v6 - v9.use)/\(ak (v6 - v9.use) tt.length/\(O vb->(O (v6 - vb)/\(∃ u3:Unit,(i2<c.steps.length/\(va/\(((v6 - vb)=(Xv v3 v9)/\(wJ c i2))/\(wK c tt i2)))))))))))/\((decide (v9.use<v4))=false->(∃ u3:Unit,(i2<c.steps.length/\(va/\((v9.use=(Xv v3 v9)/\(wJ c i2))/\(wK c tt i2))))))))/\(∀ u3:Unit,(i2<c.steps.length->(bc (vd.length+vc.length) 88/\(O (ve+(1:Int))/\(∃ i4:Nat,(i4<=c.steps.length/\(c.steps.length - i4<c.steps.length - i2/\((c=c/\(tt=tt/\(True/\(True/\((ve+(1:Int))=(i4:Int)/\True)))))/\((nV c tt)/\(c.left.M=c.left.M/\(c.right.M=c.right.M/\((vd++vc)=((c.steps.take i4).map (rj v3))/\jm)))))))))))))))))/\((decide (ve<v5))=false->(ag.mk (J.mk c.left.aq c.left.aS c.left.M) (J.mk c.right.aq c.right.aS c.right.M) c.aM (U2 v3 c) vd)=(mvC v3 c))))))))))))))))))))))))))))))))))))) ?_;obtain⟨g0,g1⟩:=hp;rw[iR] at g0;have f1:=λ i (h:i<c.steps.length)=>fi aZ (U.mk (0:Int) false [] [] []) c.steps i h;refine λ _=>⟨rfl,rfl,rfl,rfl,rfl,rfl,rfl,rfl,rfl,rfl,?_,rfl,rfl,rfl,rfl,rfl,rfl,rfl,?_,rfl,rfl,rfl,rfl,λ _=>⟨λ _ _=>⟨?_,λ _=>⟨(),?_,⟨rfl,rfl,ae,ae,ae⟩,⟨rfl,rfl,ae,rfl,rfl,ae,rfl,?_,ae,ae⟩,rfl,rfl,⟨rfl,rfl,ae,rfl,rfl,ae,rfl,rfl,ae,ae⟩,ae⟩⟩,λ _=>⟨(),?_,⟨rfl,rfl,ae,ae,ae⟩,⟨rfl,rfl,ae,rfl,rfl,ae,rfl,?_,ae,ae⟩,rfl,rfl,⟨rfl,rfl,ae,rfl,rfl,ae,rfl,rfl,ae,ae⟩,ae⟩⟩,λ u1 _=>⟨⟨0,?_,⟨rfl,rfl,ae,ae,?_,ae⟩,⟨rfl,rfl,ae,rfl,rfl,ae,rfl,rfl,ae,ae⟩,rfl,rfl,?_,⟨rfl,rfl,ae,rfl,rfl,ae,rfl,rfl,ae,ae⟩,ae⟩,λ i2 _ _ _=>⟨λ _ _=>⟨?_,?_,λ _=>⟨λ _ _=>⟨?_,?_,λ _=>⟨?_,(),?_,⟨rfl,rfl,ae,ae,rfl,ae,ae⟩,⟨?_,?_,ae,ae,ae,ae⟩,?_,?_,?_,⟨rfl,rfl,ae,rfl,rfl,ae,rfl,rfl,ae,ae⟩,rfl,rfl,rfl,⟨rfl,rfl,ae,rfl,rfl,ae,rfl,rfl,ae,ae⟩,ae⟩⟩,λ _=>⟨(),?_,⟨rfl,rfl,ae,ae,rfl,ae,ae⟩,⟨?_,?_,ae,ae,ae,ae⟩,?_,?_,?_,⟨rfl,rfl,ae,rfl,rfl,ae,rfl,rfl,ae,ae⟩,rfl,rfl,rfl,⟨rfl,rfl,ae,rfl,rfl,ae,rfl,rfl,ae,ae⟩,ae⟩⟩,λ u3 _=>⟨?_,?_,i2+1,?_,?_,⟨rfl,rfl,ae,ae,?_,ae⟩,⟨rfl,rfl,ae,rfl,rfl,ae,rfl,rfl,ae,ae⟩,rfl,rfl,?_,⟨rfl,rfl,ae,rfl,rfl,ae,rfl,rfl,ae,ae⟩,ae⟩⟩,λ _=>?_⟩⟩⟩;all_goals try and_intros
 all_goals first|with_reducible rfl|with_reducible assumption|exact True.intro|(simp only[Bool.true_eq_false,Bool.false_eq_true,Bool.not_true,Bool.not_false] at *;done)|((try simp only[List.nil_append,J.eta,decide_eq_true_eq,decide_eq_false_iff_not,Bool.not_true,Bool.not_false,Bool.not_eq_true',Bool.not_eq_false',ak,O,bc,List.length_append,List.length_cons,List.length_nil,List.length_map,List.length_take] at *);first|exact True.intro|omega|exact (g1.r (by with_reducible assumption)).1|exact (g1.r (by with_reducible assumption)).2|exact (a8n (F:=pN tt) (c:=c) (by with_reducible assumption)).symm|exact (a8o (by with_reducible assumption)).symm|(rw[List.take_zero];rfl)|(have:=f1 i2 (by omega);omega)|(have:=g1.s i2 (by omega);omega)|(have h:=g1.b (-1 - (c.steps.getD i2 (U.mk (0:Int) false [] [] [])).use);unfold pN at h;omega)|exact (b2a (F:=pN tt) (s:=c.steps.getD i2 (U.mk (0:Int) false [] [] [])) (by with_reducible assumption)).symm|exact (b1Z (by with_reducible assumption)).symm|exact (a2k (pN tt) c.steps i2 (by with_reducible assumption)).symm|(rw[a2k (pN tt) c.steps i2 (by with_reducible assumption)];done)|(rw[a9Q _ _ _ (by omega)];rfl)|omega)
def PN(F:Int->Prop×Int)(i:Int):Int:=(F i).2
def U7(F:Int->Prop×Int)(aM ref:Int):Int:=if aM=1 then ref else (F ref).2
def On(F:Int->Prop×Int)(st:List U)(i:Nat):List U:=half (st.map (rj (PN F))) st i
structure RnP(F:Int->Prop×Int)(aM ref:Int)(st:List U):Prop where
 r:¬ aM=1->(F ref).1
 s:∀ i,i<st.length->(st.getD i (U.mk (0:Int) false [] [] [])).use<0 -> -1000<=(st.getD i (U.mk (0:Int) false [] [] [])).use/\(F (-1 - (st.getD i (U.mk (0:Int) false [] [] [])).use)).1
 b:∀ i,(F i).1->0<=(F i).2/\(F i).2<=1000
 n:st.length<=1000
def a8O{F:Int->Prop×Int}{aM ref:Int}(h:aM=1):U7 F aM ref=ref:=by unfold U7;rw[if_pos h]
def a8N{F:Int->Prop×Int}{aM ref:Int}(h:¬ aM=1):U7 F aM ref=(F ref).2:=by unfold U7;rw[if_neg h]
def FM(F:Int->Prop×Int)(st:List U):(st.map (rj (PN F))).length=st.length:=b5g _
def a8I(F:Int->Prop×Int)(st:List U):On F st 0=st:=(sq _ st).symm
def a2J(F:Int->Prop×Int)(st:List U)(i:Nat):(On F st i).length=st.length:=ki _ _ i (FM F st)
def a8J(F:Int->Prop×Int)(st:List U)(i:Nat)(h:i<st.length):(On F st i).getD i (U.mk (0:Int) false [] [] [])=st.getD i (U.mk (0:Int) false [] [] []):=yC _ _ _ i (FM F st) h
def a2I(F:Int->Prop×Int)(st:List U)(i:Nat)(h:st.length<=i):On F st i=st.map (rj (PN F)):=Dw _ _ i (FM F st) h
def a5D(F:Int->Prop×Int)(st:List U)(i:Nat)(h:i<st.length):(st.map (rj (PN F))).getD i (U.mk (0:Int) false [] [] [])=rj (PN F) (st.getD i (U.mk (0:Int) false [] [] [])):=by
 simp only[b5b,b6D,b5p h,b7o,b7y]
def a2K(F:Int->Prop×Int)(st:List U)(i:Nat)(h:i<st.length)(h2:(st.getD i (U.mk (0:Int) false [] [] [])).use<0) :
  (On F st i).set i (U.mk (-1 - (F (-1 - (st.getD i (U.mk (0:Int) false [] [] [])).use)).2) (st.getD i (U.mk (0:Int) false [] [] [])).back (st.getD i (U.mk (0:Int) false [] [] [])).path (st.getD i (U.mk (0:Int) false [] [] [])).aw (st.getD i (U.mk (0:Int) false [] [] [])).bd)=On F st (i+1):=by
 unfold On;rw[<-Dx _ _ (U.mk (0:Int) false [] [] []) i (FM F st) h,a5D F st i h];unfold rj Xv PN;rw[if_pos h2]
def Z2(F:Int->Prop×Int)(st:List U)(i:Nat)(h:i<st.length)(h2:¬ (st.getD i (U.mk (0:Int) false [] [] [])).use<0):On F st i=On F st (i+1):=by
 have e:rj (PN F) (st.getD i (U.mk (0:Int) false [] [] []))=st.getD i (U.mk (0:Int) false [] [] []):=by unfold rj Xv;rw[if_neg h2]
 unfold On;rw[<-Dx _ _ (U.mk (0:Int) false [] [] []) i (FM F st) h,a5D F st i h,e];have g:=yC (st.map (rj (PN F))) st (U.mk (0:Int) false [] [] []) i (FM F st) h;have hl:i<(half (st.map (rj (PN F))) st i).length:=by rw[ki _ _ i (FM F st)];exact h
 rw[<-g,b5b,b5p hl,b7y,b8C]
def Bx:fG:=⟨Eh,[[.d (.int .i64), .d (.int .i64), .o (.slice (.st .expr)), .d (.int .i64), .d (.int .i64), .o (.slice (.st .expr)), .d (.int .i64), .d (.int .i64), .o (.slice (.st .proofStep))]],[.b 0, .c [(.int .i64)] (.int .i64)],[[(.int .i64),(.int .i64),(.slice (.st .expr)),(.int .i64),(.int .i64),(.slice (.st .expr)),(.int .i64),(.int .i64),(.slice (.st .proofStep))]],λ (F:Int->Prop×Int) (lk:Int) (ln:Int) (YN:List J) (rk:Int) (rn:Int) (YV:List J) (aM:Int) (ref:Int) (steps:List U)=>⟨(some (RnP F aM ref steps),[],[[⟨(.int .i64),lk⟩,⟨(.int .i64),ln⟩,⟨(.slice (.st .expr)),YN⟩,⟨(.int .i64),rk⟩,⟨(.int .i64),rn⟩,⟨(.slice (.st .expr)),YV⟩,⟨(.int .i64),aM⟩,⟨(.int .i64),U7 F aM ref⟩,⟨(.slice (.st .proofStep)),steps.map (rj (PN F))⟩]])⟩⟩
def QI(F:Int->Prop×Int)(lk:Int)(ln:Int)(YN:List J)(rk:Int)(rn:Int)(YV:List J)(aM:Int)(ref:Int)(steps:List U):Nat->aA:=(cQ 100002 (.u (True) [] [] [1000000,1000001,1000002] [(400000, .box [.aH ⟨(.int .i64),(lk:Int)⟩, .aH ⟨(.int .i64),(ln:Int)⟩, .av 1000000, .aH ⟨(.int .i64),(rk:Int)⟩, .aH ⟨(.int .i64),(rn:Int)⟩, .av 1000001, .aH ⟨(.int .i64),(aM:Int)⟩, .aH ⟨(.int .i64),((U7 F aM ref):Int)⟩, .av 1000002])] (cQ 0 (.a (Nat) (λ i=>i<=steps.length) (λ i=>steps.length - i) [20,21,22] (λ i=>[(25, .aH ⟨(.int .i64),((i:Int):Int)⟩),(23, .av 1000002)]) [1000000,1000001] (λ i=>[(400000, .box [.aH ⟨(.int .i64),(lk:Int)⟩, .aH ⟨(.int .i64),(ln:Int)⟩, .av 1000000, .aH ⟨(.int .i64),(rk:Int)⟩, .aH ⟨(.int .i64),(rn:Int)⟩, .av 1000001, .aH ⟨(.int .i64),(aM:Int)⟩, .aH ⟨(.int .i64),((U7 F aM ref):Int)⟩, .av 1000002]),(1000002, .av (.st .proofStep) (On F steps i:List U))])) bJ)) bJ)
abbrev Lh(F:Int->Prop×Int)(lk:Int)(ln:Int)(rk:Int)(rn:Int)(aM:Int)(ref:Int):Prop:=(lk=lk/\(ln=ln/\(True/\(rk=rk/\(rn=rn/\(True/\(aM=aM/\((U7 F aM ref)=(U7 F aM ref)/\(True/\True)))))))))
def JS:fG.Good Bx:=by
 refine⟨ar AI,?_⟩;intro (F:Int->Prop×Int) (lk:Int) (ln:Int) (YN:List J) (rk:Int) (rn:Int) (YV:List J) (aM:Int) (ref:Int) (steps:List U) (hp:RnP F aM ref steps);refine gQ [] [] [] [] [] [] [] [] trivial trivial trivial trivial AI KF (QI F lk ln YN rk rn YV aM ref steps) rfl rfl (let v0:=U.mk (0:Int) false [] [] [];let v1:=(steps.length:Int);let v2:=Lh F lk ln rk rn aM ref;let v3:=YN=YN/\(YV=YV/\True);let v4:=YN=YN/\(YV=YV/\(steps=steps/\True));let v5:=(-1:Int);let v6:=U7 F aM ref;let v7:=(1:Int);(((O aM->(((!(decide (aM=v7)))=true->(O ref->((F ref).1/\(O ((F ref).2)->(∃ u1:Unit,(True/\((True/\(F=F/\True))/\((lk=lk/\(ln=ln/\(True/\(rk=rk/\(rn=rn/\(True/\(aM=aM/\(((F ref).2)=v6/\(True/\True)))))))))/\v4))))))))/\((!(decide (aM=v7)))=false->(∃ u1:Unit,(True/\((True/\(F=F/\True))/\((lk=lk/\(ln=ln/\(True/\(rk=rk/\(rn=rn/\(True/\(aM=aM/\(ref=v6/\(True/\True)))))))))/\v4)))))))/\(∀ u1:Unit,(True->((∃ i2:Nat,(i2<=steps.length/\((True/\(F=F/\(True/\(v1=v1/\((0:Int)=(i2:Int)/\True)))))/\(v2/\(steps=(On F steps i2)/\v3)))))/\(∀ i2:Nat,let v9:=On F steps i2;let v8:=v9.getD i2 v0;let va:=(i2:Int);let vb:=F (v5 - v8.use);(i2<=steps.length->(((decide (va<v1))=true->(ak va v9.length/\(O v8.use->(((decide (v8.use<(0:Int)))=true->(O (v5 - v8.use)/\(vb.1/\(O (v5 - (vb.2))/\(O v8.use->(O (vb.2)->(ak va v9.length/\(O (va+v7)/\(∃ i3:Nat,(i3<=steps.length/\(steps.length - i3<steps.length - i2/\((True/\(F=F/\(True/\(v1=v1/\((va+v7)=(i3:Int)/\True)))))/\(v2/\((v9.set i2 (U.mk (v5 - (vb.2)) v8.back v8.path v8.aw v8.bd))=(On F steps i3)/\v3))))))))))))))/\((decide (v8.use<(0:Int)))=false->(O (va+v7)/\(∃ i3:Nat,(i3<=steps.length/\(steps.length - i3<steps.length - i2/\((True/\(F=F/\(True/\(v1=v1/\((va+v7)=(i3:Int)/\True)))))/\(v2/\(v9=(On F steps i3)/\v3))))))))))))/\((decide (va<v1))=false->(True/\((lk=lk/\(ln=ln/\(YN=YN/\(rk=rk/\(rn=rn/\(YV=YV/\(aM=aM/\(v6=v6/\v9=(steps.map (rj (PN F)))))))))))/\True)))))))))))) ?_;refine⟨λ _=>⟨λ _ _=>⟨?_,λ _=>⟨(),?_,⟨ae,rfl,ae⟩,⟨rfl,rfl,ae,rfl,rfl,ae,rfl,?_,ae,ae⟩,rfl,rfl,rfl,ae⟩⟩,λ _=>⟨(),?_,⟨ae,rfl,ae⟩,⟨rfl,rfl,ae,rfl,rfl,ae,rfl,?_,ae,ae⟩,rfl,rfl,rfl,ae⟩⟩,λ u1 _=>⟨⟨0,?_,⟨ae,rfl,ae,rfl,?_,ae⟩,⟨rfl,rfl,ae,rfl,rfl,ae,rfl,rfl,ae,ae⟩,?_,rfl,rfl,ae⟩,λ i2 _=>⟨λ _=>⟨?_,λ _=>⟨λ _=>⟨?_,?_,?_,λ _ _=>⟨?_,?_,i2+1,?_,?_,⟨ae,rfl,ae,rfl,?_,ae⟩,⟨rfl,rfl,ae,rfl,rfl,ae,rfl,rfl,ae,ae⟩,?_,rfl,rfl,ae⟩⟩,λ _=>⟨?_,i2+1,?_,?_,⟨ae,rfl,ae,rfl,?_,ae⟩,⟨rfl,rfl,ae,rfl,rfl,ae,rfl,rfl,ae,ae⟩,?_,rfl,rfl,ae⟩⟩⟩,λ _=>⟨ae,⟨rfl,rfl,rfl,rfl,rfl,rfl,rfl,rfl,?_⟩,ae⟩⟩⟩⟩;all_goals try and_intros
 all_goals first|with_reducible rfl|with_reducible assumption|exact True.intro|(simp only[b4V,b4U,b4T,b4R] at *;done)|((try simp only[b5q,J.eta,b4N,b4M,b4T,b4R,b5a,b5k,ak,O,bc,b5f,b4Y,b5j,b5g,b5n] at *);first|exact True.intro|omega|exact hp.r (by with_reducible assumption)|exact (a8N (by with_reducible assumption)).symm|exact (a8O (by with_reducible assumption)).symm|exact (a8I F steps).symm|exact a8I F steps|exact a2I F steps _ (by omega)|exact (a2I F steps _ (by omega)).symm|(have:=a2J F steps i2;omega)|(have:=hp.n;omega)|(simp only[(a8J F steps i2 (by omega))] at *;first|omega|(have h:=hp.s i2 (by omega) (by omega);first|exact h.2|omega|(have h3:=hp.b _ h.2;omega))|exact a2K F steps i2 (by omega) (by omega)|exact (a2K F steps i2 (by omega) (by omega)).symm|exact Z2 F steps i2 (by omega) (by omega)|exact (Z2 F steps i2 (by omega) (by omega)).symm|(have h:=hp.s i2 (by omega) (by omega);have h3:=hp.b _ h.2;have:=a2J F steps i2;omega))|omega)
def b2D(p:ai)(i:Int):Int:=i+(p.af.length:Int)
def jnX(p q:ai)(i:Nat):List ag:=p.af++(q.af.take i).map (mvC (b2D p))
abbrev jnE(p q:ai):Bool:=decide (p.sig.aw=q.sig.aw)&&(decide (p.sig.bh=q.sig.bh)&&true)
def jnC(p q:ai):Int:=if ¬ tz [p,q]=0 then tz [p,q] else bif !jnE p q then 2 else if (40:Int)<(p.af.length:Int)+(q.af.length:Int) then 3 else 0
def jnV(p q:ai):ai:=if jnC p q=0 then ai.mk p.sig (jnX p q q.af.length) else (ai.mk (aW.mk (0:Int) (0:Int)) [])
structure JnA(p q:ai):Prop where
 c:tz [p,q]=0
structure JnB(p q:ai):Prop where
 a:JnA p q
 s:jnE p q=true
 l:¬ (40:Int)<(p.af.length:Int)+(q.af.length:Int)
abbrev jnN(p q:ai)(c:Int):Prop:=jnV p q=(ai.mk (aW.mk (0:Int) (0:Int)) [])/\jnC p q=c
def jnN.mk{p q:ai}{c:Int}(h:jnC p q=c)(h2:¬ c=0):jnN p q c:=⟨by unfold jnV;rw[if_neg (by rw[h];exact h2)],h⟩
def b1T{p q:ai}(h:¬ tz [p,q]=0):jnN p q (tz [p,q]) := .mk (by unfold jnC;rw[if_pos h]) h
def JnA.n2{p q:ai}(h:JnA p q)(h2:jnE p q=false):jnN p q 2 := .mk (by unfold jnC;rw[if_neg (λ e=>e h.c),h2];rfl) (by decide)
def JnA.n3{p q:ai}(h:JnA p q)(h2:jnE p q=true)(h3:(40:Int)<(p.af.length:Int)+(q.af.length:Int)):jnN p q 3 := .mk (by unfold jnC;rw[if_neg (λ e=>e h.c),h2,if_pos h3];rfl) (by decide)
def JnB.c0{p q:ai}(h:JnB p q):jnC p q=0:=by unfold jnC;rw[if_neg (λ e=>e h.a.c),h.s,if_neg h.l];rfl
def JnB.v{p q:ai}(h:JnB p q):jnV p q=ai.mk p.sig (jnX p q q.af.length):=by unfold jnV;rw[if_pos h.c0]
def pU.cg{p:ai}(h:pU p){i:Nat}(hi:i<p.af.length):lQ p.sig (p.af.getD i (ag.mk zE zE (0:Int) (0:Int) []))=true:=by
 have:=h.v;simp only[dQ,b4S] at this;exact rM _ _ _ _ this.2 hi
def pU.st{p:ai}(h:pU p){i:Nat}(hi:i<p.af.length):(1<=(p.af.getD i (ag.mk zE zE (0:Int) (0:Int) [])).aM/\(p.af.getD i (ag.mk zE zE (0:Int) (0:Int) [])).aM<=3)/\(0<=(p.af.getD i (ag.mk zE zE (0:Int) (0:Int) [])).ref/\(p.af.getD i (ag.mk zE zE (0:Int) (0:Int) [])).ref<=39)/\(p.af.getD i (ag.mk zE zE (0:Int) (0:Int) [])).steps.length<=60 /\
  ((p.af.getD i (ag.mk zE zE (0:Int) (0:Int) [])).aM=1->(p.af.getD i (ag.mk zE zE (0:Int) (0:Int) [])).ref=0)/\(¬ (p.af.getD i (ag.mk zE zE (0:Int) (0:Int) [])).aM=1->(p.af.getD i (ag.mk zE zE (0:Int) (0:Int) [])).steps.length=0)/\∀ k,k<(p.af.getD i (ag.mk zE zE (0:Int) (0:Int) [])).steps.length -> -40<=((p.af.getD i (ag.mk zE zE (0:Int) (0:Int) [])).steps.getD k (U.mk (0:Int) false [] [] [])).use:=by
 have:=h.cg hi;simp only[lQ,b4S,b4N,b5a,b8I,b7g,b5k,b4M] at this;obtain⟨⟨⟨⟨⟨_,h1⟩,h2⟩,h3⟩,h4,h5⟩,h6⟩:=this;refine⟨h1,h2,h3,λ e=>h4.elim (λ q=>absurd e q) id,λ e=>h5.elim (λ q=>absurd q e) (λ q=>by omega),λ k hk=>?_⟩;have:=rM _ (U.mk (0:Int) false [] [] []) _ k h6 hk;simp only[lM,b4S,b4N] at this;exact this.1.1.1.1.1.1.1.1
def a7y(f:Nat->Bool):∀ n,Ug f n=n->∀ k,k<n->f k=true
 | 0,_,k,hk=>by omega
 | n+1,h,k,hk=>by
  rw[Ug] at h;have h1:=a0v f n;by_cases e:Ug f n<n
  .rw[b5u e] at h;omega
  .rw[b4Z e] at h;by_cases e2:f n=true
   .rcases b5Q k n with g|g
    .exact a7y f n (by omega) k g
    .rw[show k=n by omega];exact e2
   .rw[b4Z e2] at h;omega
def b3U{q:ai}(h:HQ q=true){k:Nat}(hk:k<q.af.length):ik q (k:Int)=true:=by
 unfold HQ Am at h;simp only[decide_eq_true_eq] at h;have:=a0v (λ k=>ik q (k:Int)) q.af.length;exact a7y (λ k=>ik q (k:Int)) q.af.length (by omega) k hk
def a8H(p:ai)(k:Int):∀ n,YW p k n=true->∀ i,i<n->ph k ((bQ p k).steps.getD i (U.mk 0 false [] [] [])).use=true
 | 0,_,i,hi=>by omega
 | n+1,h,i,hi=>by
  rw[YW,b4S,b4N] at h;rcases b5Q i n with g|g
  .exact a8H p k n h.1 i g
  .have e:i=n:=by omega
   subst e;have h2:=h.2;unfold iT at h2;cases hu:ph k ((bQ p k).steps.getD i (U.mk 0 false [] [] [])).use
   .rw[hu] at h2;simp at h2
   .rfl
def S8{q:ai}(hv:pU q)(h:HQ q=true){k:Nat}(hk:k<q.af.length) :
  (¬ (q.af.getD k (ag.mk zE zE (0:Int) (0:Int) [])).aM=1->0<=(q.af.getD k (ag.mk zE zE (0:Int) (0:Int) [])).ref/\(q.af.getD k (ag.mk zE zE (0:Int) (0:Int) [])).ref<(k:Int))/\∀ i,i<(q.af.getD k (ag.mk zE zE (0:Int) (0:Int) [])).steps.length -> -40<=((q.af.getD k (ag.mk zE zE (0:Int) (0:Int) [])).steps.getD i (U.mk (0:Int) false [] [] [])).use /\ -1 - ((q.af.getD k (ag.mk zE zE (0:Int) (0:Int) [])).steps.getD i (U.mk (0:Int) false [] [] [])).use<(q.af.length:Int)/\(((q.af.getD k (ag.mk zE zE (0:Int) (0:Int) [])).steps.getD i (U.mk (0:Int) false [] [] [])).use<0 -> -1 - ((q.af.getD k (ag.mk zE zE (0:Int) (0:Int) [])).steps.getD i (U.mk (0:Int) false [] [] [])).use<(k:Int)):=by
 have hs:=b3U h hk;obtain⟨h1,h2,h3,h4,h5,h6⟩:=hv.st hk;unfold ik at hs;rw[show bQ q (k:Int)=q.af.getD k (ag.mk zE zE (0:Int) (0:Int) []) from rfl] at hs;by_cases hr:(q.af.getD k (ag.mk zE zE (0:Int) (0:Int) [])).aM=1
 .rw[if_pos hr,Bool.and_eq_true] at hs;refine⟨λ e=>absurd hr e,λ i hi=>?_⟩;have:=a8H q k _ hs.1 i hi;rw[show bQ q (k:Int)=q.af.getD k (ag.mk zE zE (0:Int) (0:Int) []) from rfl] at this;unfold ph at this;simp only[Bool.or_eq_true,decide_eq_true_eq] at this;refine⟨h6 i hi,?_,λ hu=>?_⟩
  .rcases this with this|this
   .omega
   .exact b8x this (by omega)
  .rcases this with this|this
   .exact absurd hu (Int.not_lt.2 this)
   .exact this
 .rw[b4Z hr,b4S,b4N] at hs;refine⟨λ _=>⟨h2.1,hs.1⟩,λ i hi=>?_⟩;have:=h5 hr;omega
def a8a(p q:ai):tz [p,q]=if dQ p=true/\dQ q=true then (if k9 p=0/\k9 q=0 then 0 else 8) else 1:=by
 unfold tz k9;simp only[bu,Bool.and_true];cases dQ p<;>cases dQ q<;>cases HQ p<;>cases HQ q<;>rfl
def b1S{p q:ai}(h1:dQ p=true)(h2:dQ q=true)(h:¬ k9 p=0\/¬ k9 q=0):jnN p q 8:=by
 have e:tz [p,q]=8:=by rw[a8a,b5u ⟨h1,h2⟩,b4Z (λ g=>h.elim (λ a=>a g.1) λ a=>a g.2)]
 have:=b1T (p:=p) (q:=q) (by rw[e];decide);rwa [e] at this
def b1R{p q:ai}(h1:dQ p=true)(h2:dQ q=true)(h3:k9 p=0)(h4:k9 q=0):JnA p q:=⟨by rw[a8a,b5u ⟨h1,h2⟩,b5u ⟨h3,h4⟩]⟩
structure JnP(p q:ai):Prop where
 a:dQ p=true
 b:dQ q=true
def JnP.c8{p q:ai}(g:JnP p q)(h:¬ k9 p=0\/¬ k9 q=0):jnN p q 8:=b1S g.a g.b h
def JnP.c0{p q:ai}(g:JnP p q)(h3:k9 p=0)(h4:k9 q=0):JnA p q:=b1R g.a g.b h3 h4
end
end Go.Proofs.YtmjfpcajohhbeaaGreatDoor

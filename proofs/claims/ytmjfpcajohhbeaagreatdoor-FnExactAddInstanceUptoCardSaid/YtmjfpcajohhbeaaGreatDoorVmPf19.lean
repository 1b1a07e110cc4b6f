/- VmPf2, VmPf3, VmPf4, VmPf5, VmPf6, VmPf7, VmLnx, VmPf8, VmPf9, VmPf10, VmPf11, VmPf12, VmPf13, VmPf14, VmPf15, VmPf16, VmPf17, VmPf18, VmPf19. -/
import Derived.Test.YtmjfpcajohhbeaaGreatDoorVmAxi
import Derived.WalkKit
import Derived.Deep.QuietTactic
import Derived.BigQuiet
import Derived.LoopTactic
import Derived.Deep.RegionWith
import Derived.Lib.Walk
import Derived.Lib.SliceRun
import Derived.Deep.LoopGhost
set_option linter.all false
set_option maxRecDepth 4000
set_option maxHeartbeats 4000000
namespace Go.Proofs.YtmjfpcajohhbeaaGreatDoor
def b6v:=@List.getElem?_take_of_lt
def b4M:=@Array.getElem?_push
def b5t:=@Array.size_push
def b7b:=@Go.heap_setCell_same
def b6T:=@Go.heap_setCell_other
def b6D:=@Go.Lib.run_eql_slice_nil
def b6U:=@Go.World.ownsRow_made
def b7w:=@Go.Lib.cell?_alloc_some
noncomputable section
def mb(gg:aT)(s:ae):Bool:=decide (-40<=s.use/\s.use<=23)&&decide ((s.path.length:Int)<=40)&&bg (vT 2) s.path&&decide ((s.az.length:Int)<=3)&&decide ((s.bf.length:Int)<=4)&&bg (bW gg) s.az&&bg bh s.az&&bg (bW gg) s.bf
def nS(gg:aT)(c:ag):Bool:=bW gg c.left&&bW gg c.right&&decide (1<=c.bp/\c.bp<=3)&&decide (0<=c.ref/\c.ref<=39)&&decide (c.steps.length<=60) && !(decide (c.bp=1) && !decide (c.ref=0) || !decide (c.bp=1)&&decide (0<c.steps.length))&&bg (mb gg) c.steps
def ec(p:aj):Bool:=bK p.sig&&decide (p.ai.length<=40)&&bg (nS p.sig) p.ai
abbrev gv:ag:=ag.mk zE zE (0:Int) (0:Int) []
def bJ(p:aj)(i:Int):ag:=p.ai.getD i.toNat (ag.mk zE zE (0:Int) (0:Int) [])
def qH(k u:Int):Bool:=decide (0<=u)||decide (-1 - u<k)
def dt(p:aj)(k u:Int):ar:=if 0<=u then FA.getD u.toNat (ar.mk zE zE) else if -1 - u<k then ar.mk (bJ p (-1 - u)).left (bJ p (-1 - u)).right else ar.mk zE zE
def apX(q:ar)(s:ae):J:=cQ s.az s.bf (bif s.back then q.right else q.left)
def V5(q:ar)(s:ae):J:=cQ s.az s.bf (bif s.back then q.left else q.right)
def apF(q:ar)(s:ae):Bool:=decide ((bM [q.left,q.right]).1=(s.az.length:Int))&&decide ((bM [q.left,q.right]).2=(s.bf.length:Int))
def V4(gg:aT)(q:ar)(s:ae):Bool:=bW gg (cQ s.az s.bf q.left)&&bW gg (cQ s.az s.bf q.right)
def im(p:aj)(k:Int)(e:J)(s:ae):Int :=
 bif !(qH k s.use&&er e s.path) then 2 else bif !apF (dt p k s.use) s then 2 else bif !V4 p.sig (dt p k s.use) s then 3 else
 bif !bC (dN e s.path) (apX (dt p k s.use) s) then 6 else p9 p.sig e s.path (V5 (dt p k s.use) s)
def jO(p:aj)(k:Int)(e:J)(s:ae):J:=if im p k e s=0 then fS (V5 (dt p k s.use) s) e s.path else J.mk (0:Int) (0:Int) []
def qa(q:ar):Bool:=decide (q.left.aq=6)&&decide ((q.left.M.getD 0 zE).aq=6)&&bC (q.left.M.getD 1 zE) q.right
def Tr(q:ar):J:=bif qa q then (q.left.M.getD 0 zE).M.getD 0 zE else J.mk (0:Int) (0:Int) []
def Bs(q:ar):J:=bif qa q then (q.left.M.getD 0 zE).M.getD 1 zE else J.mk (0:Int) (0:Int) []
def LL(q:ar):J:=bif qa q then q.right else J.mk (0:Int) (0:Int) []
def inW(r:Int)(q x:J):J:=if r=2 then J.mk 7 0 [J.mk 8 0 [x.M.getD 0 zE],q] else J.mk 7 0 [q,J.mk 8 0 [x.M.getD 1 zE]]
def a5d(r:Int)(x:J):J:=if r=2 then x.M.getD 1 zE else x.M.getD 0 zE
def vU(c f:ag):Bool:=qa (ar.mk f.left f.right)&&decide ((Bs (ar.mk f.left f.right)).aq=7)&&bC (a5d c.bp (Bs (ar.mk f.left f.right))) f.right &&
 bC c.left (J.mk 6 0 [inW c.bp (Tr (ar.mk f.left f.right)) (Bs (ar.mk f.left f.right)),f.right])&&bC c.right f.right
def ma(p:aj)(k:Int):Nat->J
 | 0=>(bJ p k).left
 | i+1=>jO p k (ma p k i) ((bJ p k).steps.getD i (ae.mk 0 false [] [] []))
def rnO(p:aj)(k:Int):Nat->Bool
 | 0=>true
 | i+1=>rnO p k i&&decide (im p k (ma p k i) ((bJ p k).steps.getD i (ae.mk 0 false [] [] []))=0)
def jf(p:aj)(k:Int):Bool:=if (bJ p k).bp=1 then rnO p k (bJ p k).steps.length&&bC (ma p k (bJ p k).steps.length) (bJ p k).right else decide ((bJ p k).ref<k)&&vU (bJ p k) (bJ p (bJ p k).ref)
def frN(f:Nat->Bool):Nat->Nat
 | 0=>0
 | n+1=>if frN f n<n then frN f n else if f n then n+1 else n
def WM(f:Nat->Bool):∀ n,Zq f n=true->frN f n=n
 | 0,_=>rfl
 | n+1,h=>by
  rw[Zq,b3J] at h;rw[frN,WM f n h.1,b3R (by omega),b4n h.2]
def a4V(f:Nat->Bool)(k:Nat)(h:Zq f k=true)(hk:f k=false):∀ n,k<n->frN f n=k
 | 0,hn=>by omega
 | n+1,hn=>by
  rw[frN];rcases b4J k n with g|g
  .rw[a4V f k h hk n g,b4n g]
  .have:k=n:=by omega
   subst this;rw[WM f k h,b3R (by omega),b3R (by rw[hk];decide)]
def zR(p:aj):Nat:=frN (λ k=>jf p (k:Int)) p.ai.length
def Df(gg:aT)(c:ag):Bool:=bW gg c.left&&bW gg c.right&&decide (1<=c.bp/\c.bp<=3)&&decide (0<=c.ref/\c.ref<=39)&&decide (c.steps.length<=60) && !(decide (c.bp=1) && !decide (c.ref=0) || !decide (c.bp=1)&&decide (0<c.steps.length))
def FP(gg:aT)(c:ag):nS gg c=(Df gg c&&bg (mb gg) c.steps):=rfl
def clG(gg:aT)(c:ag):Bool:=bg (bW gg) [c.left,c.right]&&(decide (1<=c.bp/\c.bp<=3)&&(decide (0<=c.ref/\c.ref<=39)&&(!decide (60<(c.steps.length:Int))&&(!(decide (c.bp=1) && !decide (c.ref=0)) && !(!decide (c.bp=1)&&decide (0<(c.steps.length:Int)))))))
def a4N(gg:aT)(c:ag):Df gg c=clG gg c:=by
 unfold Df clG;rw[show decide (c.steps.length<=60) = !decide (60<(c.steps.length:Int)) by
  by_cases h:c.steps.length<=60
  .rw[b4l h,b3Q (by omega)];rfl
  .rw[b3Q h,b4l (by omega)];rfl,
  show decide (0<c.steps.length)=decide (0<(c.steps.length:Int)) by
  by_cases h:0<c.steps.length
  .rw[b4l h,b4l (by omega)]
  .rw[b3Q h,b3Q (by omega)]]
 simp only[bg,b5o,Bool.not_or,b6O]
structure wH(p:aj)(k:Nat):Prop where
 sg:bK p.sig=true
 ln:p.ai.length<=40
 le:k<=p.ai.length
 al:bg (nS p.sig) (p.ai.take k)=true
structure Fp(gg:aT)(c:ag):Prop where
 l:bW gg c.left=true
 r:bW gg c.right=true
 u:1<=c.bp/\c.bp<=3
 f:0<=c.ref/\c.ref<=39
def MU{gg:aT}{c:ag}(h:Df gg c=false):nS gg c=false:=by rw[FP,h];rfl
def a7d{gg:aT}{c:ag}(h:bW gg c.left=false):nS gg c=false:=MU (by unfold Df;rw[h];rfl)
def a7e{gg:aT}{c:ag}(h:bW gg c.right=false):nS gg c=false:=MU (by unfold Df;rw[h];simp)
def a3v{gg:aT}{c:ag}(h:¬ (1<=c.bp/\c.bp<=3)):nS gg c=false:=MU (by unfold Df;rw[decide_eq_false h];simp)
def a3w{gg:aT}{c:ag}(h:¬ (0<=c.ref/\c.ref<=39)):nS gg c=false:=MU (by unfold Df;rw[decide_eq_false h];simp)
def Fp.h{gg:aT}{c:ag}(h:Fp gg c):Df gg c=(decide (c.steps.length<=60) && !(decide (c.bp=1) && !decide (c.ref=0) || !decide (c.bp=1)&&decide (0<c.steps.length))):=by
 unfold Df;rw[h.l,h.r,decide_eq_true h.u,decide_eq_true h.f];rfl
def Fp.n1{gg:aT}{c:ag}(h:Fp gg c)(h1:c.bp=1)(h2:¬ c.ref=0):nS gg c=false:=MU (by rw[h.h,b4l h1,b3Q h2];simp)
def Fp.n2{gg:aT}{c:ag}(h:Fp gg c)(h1:¬ c.bp=1)(h2:0<c.steps.length):nS gg c=false:=MU (by rw[h.h,b3Q h1,b4l h2];simp)
def Fp.n3{gg:aT}{c:ag}(h:Fp gg c)(h1:¬ c.steps.length<=60):nS gg c=false:=MU (by rw[h.h,b3Q h1];rfl)
def Fp.y1{gg:aT}{c:ag}(h:Fp gg c)(h1:c.bp=1)(h2:c.ref=0)(h3:c.steps.length<=60):Df gg c=true:=by rw[h.h,b4l h1,b4l h2,b4l h3];rfl
def Fp.y2{gg:aT}{c:ag}(h:Fp gg c)(h1:¬ c.bp=1)(h2:¬ 0<c.steps.length):Df gg c=true:=by rw[h.h,b3Q h1,b3Q h2,b4l (show c.steps.length<=60 by omega)];rfl
structure Mr(p:aj)(k:Nat):Prop where
 pp:wH p k
 lt:k<p.ai.length
 a:Fp p.sig (p.ai.getD k gv)
 n:(p.ai.getD k gv).steps.length<=60
structure VX(p:aj)(k:Nat):Prop where
 pp:wH p k
 lt:k<p.ai.length
 hd:Df p.sig (p.ai.getD k gv)=true
structure Rw(p:aj)(k j:Nat):Prop where
 h:VX p k
 le:j<=(p.ai.getD k gv).steps.length
 al:bg (mb p.sig) ((p.ai.getD k gv).steps.take j)=true
def wH.zero{p:aj}(h:bK p.sig=true)(h2:¬ 40<(p.ai.length:Int)):wH p 0:=⟨h,by omega,b4O _,by simp[bg]⟩
def wH.end{p:aj}{k:Nat}(h:wH p k)(hk:p.ai.length<=k):ec p=true:=by
 have:=h.al;rw[List.take_of_length_le hk] at this;unfold ec;rw[h.sg,this,decide_eq_true h.ln];rfl
def wH.bad{p:aj}{k:Nat}(h:wH p k)(hk:k<p.ai.length)(hb:nS p.sig (p.ai.getD k gv)=false):ec p=false:=by
 unfold ec;rw[dL (nS p.sig) gv p.ai k hk hb,Bool.and_false]
def wH.a{p:aj}{k:Nat}(h:wH p k)(hk:k<p.ai.length)(h1:bg (bW p.sig) [(p.ai.getD k gv).left,(p.ai.getD k gv).right]=true)(hu:1<=(p.ai.getD k gv).bp/\(p.ai.getD k gv).bp<=3)(hf:0<=(p.ai.getD k gv).ref/\(p.ai.getD k gv).ref<=39)(hn:(p.ai.getD k gv).steps.length<=60):Mr p k:=by
 simp only[bg,b3J,b3T] at h1;exact⟨h,hk,⟨h1.1,h1.2,hu,hf⟩,hn⟩
def wH.b{p:aj}{k:Nat}(h:wH p k)(hk:k<p.ai.length)(hb:nS p.sig (p.ai.getD k gv)=false):ec p=false:=h.bad hk hb
def wH.b1{p:aj}{k:Nat}(h:wH p k)(hk:k<p.ai.length)(h1:bg (bW p.sig) [(p.ai.getD k gv).left,(p.ai.getD k gv).right]=false):ec p=false:=by
 refine h.b hk ?_;rw[FP,a4N];unfold clG;rw[h1];rfl
def Mr.n1{p:aj}{k:Nat}(h:Mr p k)(h1:(p.ai.getD k gv).bp=1)(h2:¬ (p.ai.getD k gv).ref=0):ec p=false:=h.pp.b h.lt (h.a.n1 h1 h2)
def Mr.n2{p:aj}{k:Nat}(h:Mr p k)(h1:¬ (p.ai.getD k gv).bp=1)(h2:0<(p.ai.getD k gv).steps.length):ec p=false:=h.pp.b h.lt (h.a.n2 h1 h2)
def Mr.y1{p:aj}{k:Nat}(h:Mr p k)(h1:(p.ai.getD k gv).bp=1)(h2:(p.ai.getD k gv).ref=0):VX p k:=⟨h.pp,h.lt,h.a.y1 h1 h2 h.n⟩
def Mr.y2{p:aj}{k:Nat}(h:Mr p k)(h1:¬ (p.ai.getD k gv).bp=1)(h2:¬ 0<(p.ai.getD k gv).steps.length):VX p k:=⟨h.pp,h.lt,h.a.y2 h1 h2⟩
def wH.b2J{p:aj}{k:Nat}(h:wH p k)(hk:k<p.ai.length)(hb:Df p.sig (p.ai.getD k gv)=false):ec p=false:=h.bad hk (by rw[FP,hb];rfl)
def VX.zero{p:aj}{k:Nat}(h:VX p k):Rw p k 0:=⟨h,b4O _,by simp[bg]⟩
def Rw.bad{p:aj}{k j:Nat}(h:Rw p k j)(hj:j<(p.ai.getD k gv).steps.length)(hb:mb p.sig ((p.ai.getD k gv).steps.getD j (ae.mk (0:Int) false [] [] []))=false):ec p=false :=
 h.h.pp.bad h.h.lt (by rw[FP,dL (mb p.sig) _ _ j hj hb,b5c])
def Rw.next{p:aj}{k j:Nat}(h:Rw p k j)(hj:j<(p.ai.getD k gv).steps.length)(hb:mb p.sig ((p.ai.getD k gv).steps.getD j (ae.mk (0:Int) false [] [] []))=true):Rw p k (j+1) :=
 ⟨h.h,hj,by rw[dk (mb p.sig) (ae.mk (0:Int) false [] [] []) _ j hj,h.al,hb];rfl⟩
def Rw.done{p:aj}{k j:Nat}(h:Rw p k j)(hj:(p.ai.getD k gv).steps.length<=j):wH p (k+1):=by
 have h1:=h.al;rw[b4a hj] at h1;exact⟨h.h.pp.sg,h.h.pp.ln,h.h.lt,by rw[dk (nS p.sig) gv _ k h.h.lt,h.h.pp.al,FP,h.h.hd,h1];rfl⟩
def a5l{p:aj}(h:bK p.sig=false):ec p=false:=by unfold ec;rw[h];rfl
def a5m{p:aj}(h:40<(p.ai.length:Int)):ec p=false:=by unfold ec;rw[decide_eq_false (show ¬ p.ai.length<=40 by omega)];simp
def hU:aH:=⟨lJ,[.v (.slice (.st .expr))],λ (xs:List J)=>⟨(none,[⟨.bool,bg bh xs⟩])⟩⟩
def HQ(xs:List J):Nat->aE:=(λ zb=>if Nat.beq zb 0 then .mk (Nat) (λ k=>k<=xs.length/\bg bh (xs.take k)=true) (λ k=>xs.length - k) [] [0] (λ k=>[(7, .aI ⟨(.int .i64),((k:Int):Int)⟩)]) [] (λ k=>[]) [] [] (λ k=>λ _ => .none) else .none)
def Gz(hE:aC [gp]):aH.Good hU:=by
 refine⟨au qL rfl (by decide),?_⟩;show ∀ (xs:List J),True->bd prog lJ [.val ⟨(.slice (.st .expr)),xs⟩] (·=[⟨.bool,bg bh xs⟩]);intro xs _;refine aU (wr:=[]) (cl:=[]) (ro:=[]) hE qL Db (HQ xs) (let v0:=(xs.length:Int);((O v0->((∃ k1:Nat,((k1<=xs.length/\bg bh (xs.take k1)=true)/\((xs=xs/\(v0=v0/\((0:Int)=(k1:Int)/\True)))/\True)))/\(∀ k1:Nat,let v1 := !(bh (aJ (xs.getD k1 zE)));((k1<=xs.length/\bg bh (xs.take k1)=true)->(((decide ((k1:Int)<v0))=true->(ak (k1:Int) xs.length/\((v1=true->false=(bg bh xs))/\(v1=false->(O ((k1:Int)+(1:Int))/\(∃ k2:Nat,((k2<=xs.length/\bg bh (xs.take k2)=true)/\(xs.length - k2<xs.length - k1/\((xs=xs/\(v0=v0/\(((k1:Int)+(1:Int))=(k2:Int)/\True)))/\True)))))))))/\((decide ((k1:Int)<v0))=false->true=(bg bh xs))))))))) (by kernel_rfl) ?_;have f1:=all_zero bh xs;refine λ _=>⟨⟨0,?_,⟨rfl,rfl,?_,U⟩,U⟩,λ k1 _=>have Is:=dk bh zE xs k1;have It:=dL bh zE xs k1;have Iu:=dU bh xs k1;⟨λ _=>⟨?_,λ _=>?_,λ _=>⟨?_,k1+1,?_,?_,⟨rfl,rfl,?_,U⟩,U⟩⟩,λ _=>?_⟩⟩;all_goals try and_intros
 all_goals try (first|with_reducible rfl|with_reducible assumption)
 all_goals try simp only[J.eta,ag.eta,ar.eta,aK,br,bG] at *
 all_goals first|rfl|trivial|(simp only[b3E,b3D,ak,O] at *;omega)|(simp_all;done)|(simp_all [ak,O];omega)
def oH:aH.Good hU:=Gz ⟨gA,U⟩
def AS:aH:=⟨A5,[.v (.st .sig), .v (.st .proofStep)],λ (gg:aT) (s:ae)=>⟨(some (bK gg=true),[⟨.bool,mb gg s⟩])⟩⟩
def Xr(gg:aT)(s:ae):Nat->aE:=λ _ => .none
abbrev tv(gg:aT)(s:ae):Prop:=(s.az.length<=140737488355328 ->
 (((bg bh s.az)=true ->
 (s.bf.length<=140737488355328 ->
 (bg (bW gg) s.bf&&bK gg)=(mb gg s)))/\((bg bh s.az)=(!true) ->
 false=(mb gg s))))
abbrev tw(gg:aT)(s:ae):Prop:=((false=true ->
 (s.bf.length<=140737488355328 ->
 (bg (bW gg) s.bf&&bK gg)=(mb gg s)))/\(false=(!true) ->
 false=(mb gg s)))
abbrev ER(gg:aT)(s:ae):Prop:=(let v0:=bg (bW gg) s.az&&bK gg;(s.az.length<=140737488355328 ->
 ((v0=true ->
 (tv gg s))/\(v0=(!true) ->
 (tw gg s)))))
abbrev tx(gg:aT)(s:ae):Prop:=(let v0:=decide (((s.bf.length:Int))<=(4:Int));(s.bf.length<=140737488355328 ->
 (O ((s.bf.length:Int)) ->
 ((v0=true ->
 (ER gg s))/\(v0=(!true) ->
 ((false=true ->
 (tv gg s))/\(false=(!true) ->
 (tw gg s))))))))
abbrev tz(gg:aT)(s:ae):Prop:=((false=true ->
 (ER gg s))/\(false=(!true) ->
 ((false=true ->
 (tv gg s))/\(false=(!true) ->
 (tw gg s)))))
abbrev ES(gg:aT)(s:ae):Prop:=(let v0:=decide (((s.az.length:Int))<=(3:Int));(s.az.length<=140737488355328 ->
 (O ((s.az.length:Int)) ->
 ((v0=true ->
 (tx gg s))/\(v0=(!true) ->
 (tz gg s))))))
abbrev ET(gg:aT)(s:ae):Prop:=(s.path.length<=140737488355328 ->
 ((0<=(2:Int)/\(2:Int)<=4096)/\(((bg (vT (2:Int)) s.path)=true ->
 (ES gg s))/\((bg (vT (2:Int)) s.path)=(!true) ->
 ((false=true ->
 (tx gg s))/\(false=(!true) ->
 (tz gg s)))))))
abbrev EU(gg:aT)(s:ae):Prop:=((false=true ->
 (ES gg s))/\(false=(!true) ->
 ((false=true ->
 (tx gg s))/\(false=(!true) ->
 (tz gg s)))))
def Vk(hE:aC [fb,xw,gU,hU]):aH.Good AS:=by
 refine⟨au GS rfl (by decide),?_⟩;show ∀ (gg:aT) (s:ae),(bK gg=true)->bd prog A5 [.val ⟨(.st .sig),gg⟩, .val ⟨(.st .proofStep),s⟩] (·=[⟨.bool,mb gg s⟩]);intro gg s hp;refine aU (wr:=[]) (cl:=[]) (ro:=[2,3]) hE GS O5 (Xr gg s) (let v0:=decide ((-40:Int)<=s.use/\s.use<=(23:Int));let v1:=decide (((s.path.length:Int))<=(40:Int));((O s.use->(((v0=true)->(s.path.length<=140737488355328->(O ((s.path.length:Int))->((v1=true->(ET gg s))/\(v1=(!true)->(EU gg s))))))/\((v0=(!true))->((false=true->(ET gg s))/\(false=(!true)->(EU gg s)))))))) (by kernel_rfl) ?_;refine λ _=>⟨λ _ _ _=>⟨λ _ _=>⟨?_,λ _ _ _=>⟨λ _ _ _=>⟨λ _ _=>⟨λ _ _=>⟨λ _ _=>?_,λ _=>?_⟩,λ _=>⟨λ _ _=>?_,λ _=>?_⟩⟩,λ _=>⟨λ _ _=>⟨λ _ _=>?_,λ _=>?_⟩,λ _=>⟨λ _ _=>?_,λ _=>?_⟩⟩⟩,λ _=>⟨λ _ _=>⟨λ _ _=>⟨λ _ _=>?_,λ _=>?_⟩,λ _=>⟨λ _ _=>?_,λ _=>?_⟩⟩,λ _=>⟨λ _ _=>⟨λ _ _=>?_,λ _=>?_⟩,λ _=>⟨λ _ _=>?_,λ _=>?_⟩⟩⟩⟩,λ _=>⟨λ _ _ _=>⟨λ _ _=>⟨λ _ _=>⟨λ _ _=>?_,λ _=>?_⟩,λ _=>⟨λ _ _=>?_,λ _=>?_⟩⟩,λ _=>⟨λ _ _=>⟨λ _ _=>?_,λ _=>?_⟩,λ _=>⟨λ _ _=>?_,λ _=>?_⟩⟩⟩,λ _=>⟨λ _ _=>⟨λ _ _=>⟨λ _ _=>?_,λ _=>?_⟩,λ _=>⟨λ _ _=>?_,λ _=>?_⟩⟩,λ _=>⟨λ _ _=>⟨λ _ _=>?_,λ _=>?_⟩,λ _=>⟨λ _ _=>?_,λ _=>?_⟩⟩⟩⟩⟩,λ _=>⟨λ _ _ _=>⟨λ _ _ _=>⟨λ _ _=>⟨λ _ _=>⟨λ _ _=>?_,λ _=>?_⟩,λ _=>⟨λ _ _=>?_,λ _=>?_⟩⟩,λ _=>⟨λ _ _=>⟨λ _ _=>?_,λ _=>?_⟩,λ _=>⟨λ _ _=>?_,λ _=>?_⟩⟩⟩,λ _=>⟨λ _ _=>⟨λ _ _=>⟨λ _ _=>?_,λ _=>?_⟩,λ _=>⟨λ _ _=>?_,λ _=>?_⟩⟩,λ _=>⟨λ _ _=>⟨λ _ _=>?_,λ _=>?_⟩,λ _=>⟨λ _ _=>?_,λ _=>?_⟩⟩⟩⟩,λ _=>⟨λ _ _ _=>⟨λ _ _=>⟨λ _ _=>⟨λ _ _=>?_,λ _=>?_⟩,λ _=>⟨λ _ _=>?_,λ _=>?_⟩⟩,λ _=>⟨λ _ _=>⟨λ _ _=>?_,λ _=>?_⟩,λ _=>⟨λ _ _=>?_,λ _=>?_⟩⟩⟩,λ _=>⟨λ _ _=>⟨λ _ _=>⟨λ _ _=>?_,λ _=>?_⟩,λ _=>⟨λ _ _=>?_,λ _=>?_⟩⟩,λ _=>⟨λ _ _=>⟨λ _ _=>?_,λ _=>?_⟩,λ _=>⟨λ _ _=>?_,λ _=>?_⟩⟩⟩⟩⟩⟩,λ _=>⟨λ _ _=>⟨?_,λ _ _ _=>⟨λ _ _ _=>⟨λ _ _=>⟨λ _ _=>⟨λ _ _=>?_,λ _=>?_⟩,λ _=>⟨λ _ _=>?_,λ _=>?_⟩⟩,λ _=>⟨λ _ _=>⟨λ _ _=>?_,λ _=>?_⟩,λ _=>⟨λ _ _=>?_,λ _=>?_⟩⟩⟩,λ _=>⟨λ _ _=>⟨λ _ _=>⟨λ _ _=>?_,λ _=>?_⟩,λ _=>⟨λ _ _=>?_,λ _=>?_⟩⟩,λ _=>⟨λ _ _=>⟨λ _ _=>?_,λ _=>?_⟩,λ _=>⟨λ _ _=>?_,λ _=>?_⟩⟩⟩⟩,λ _=>⟨λ _ _ _=>⟨λ _ _=>⟨λ _ _=>⟨λ _ _=>?_,λ _=>?_⟩,λ _=>⟨λ _ _=>?_,λ _=>?_⟩⟩,λ _=>⟨λ _ _=>⟨λ _ _=>?_,λ _=>?_⟩,λ _=>⟨λ _ _=>?_,λ _=>?_⟩⟩⟩,λ _=>⟨λ _ _=>⟨λ _ _=>⟨λ _ _=>?_,λ _=>?_⟩,λ _=>⟨λ _ _=>?_,λ _=>?_⟩⟩,λ _=>⟨λ _ _=>⟨λ _ _=>?_,λ _=>?_⟩,λ _=>⟨λ _ _=>?_,λ _=>?_⟩⟩⟩⟩⟩,λ _=>⟨λ _ _ _=>⟨λ _ _ _=>⟨λ _ _=>⟨λ _ _=>⟨λ _ _=>?_,λ _=>?_⟩,λ _=>⟨λ _ _=>?_,λ _=>?_⟩⟩,λ _=>⟨λ _ _=>⟨λ _ _=>?_,λ _=>?_⟩,λ _=>⟨λ _ _=>?_,λ _=>?_⟩⟩⟩,λ _=>⟨λ _ _=>⟨λ _ _=>⟨λ _ _=>?_,λ _=>?_⟩,λ _=>⟨λ _ _=>?_,λ _=>?_⟩⟩,λ _=>⟨λ _ _=>⟨λ _ _=>?_,λ _=>?_⟩,λ _=>⟨λ _ _=>?_,λ _=>?_⟩⟩⟩⟩,λ _=>⟨λ _ _ _=>⟨λ _ _=>⟨λ _ _=>⟨λ _ _=>?_,λ _=>?_⟩,λ _=>⟨λ _ _=>?_,λ _=>?_⟩⟩,λ _=>⟨λ _ _=>⟨λ _ _=>?_,λ _=>?_⟩,λ _=>⟨λ _ _=>?_,λ _=>?_⟩⟩⟩,λ _=>⟨λ _ _=>⟨λ _ _=>⟨λ _ _=>?_,λ _=>?_⟩,λ _=>⟨λ _ _=>?_,λ _=>?_⟩⟩,λ _=>⟨λ _ _=>⟨λ _ _=>?_,λ _=>?_⟩,λ _=>⟨λ _ _=>?_,λ _=>?_⟩⟩⟩⟩⟩⟩⟩;all_goals try and_intros
 all_goals first|with_reducible rfl|with_reducible assumption|exact True.intro|(simp only[Bool.true_eq_false,Bool.false_eq_true,Bool.not_true,Bool.not_false] at *;done)|omega|(simp only[hp,Bool.and_true,Bool.not_true,Bool.not_false] at *;unfold mb;simp only[*,Bool.and_true,Bool.true_and,Bool.and_false,Bool.false_and];done)|(simp only[ak,O,aY] at *;omega)
def PI:aH.Good AS:=Vk ⟨eW,M8,ly,oH,U⟩
def kz:aH:=⟨pT,[.v (.st .proof)],λ (p:aj)=>⟨(none,[⟨.bool,ec p⟩])⟩⟩
def NM(p:aj):Nat->aE:=(λ zb=>if Nat.beq zb 0 then .mk (Nat) (λ k=>wH p k) (λ k=>p.ai.length - k) [] [0,7,8,9,10,11,12,13,14,15,16,17] (λ k=>[(20, .aI ⟨(.int .i64),((k:Int):Int)⟩)]) [] (λ k=>[]) [] [] (λ k=>(λ zb=>if Nat.beq zb 100008 then .mk (Unit) (λ u=>Mr p k) (λ u=>0) [] [21,22,23] (λ u=>[]) [4] (λ u=>[]) [] [] (λ u=>(λ zb=>if Nat.beq zb 100010 then .mk (Unit) (λ u=>VX p k) (λ u=>0) [] [] (λ u=>[]) [4] (λ u=>[]) [] [] (λ u=>(λ zb=>if Nat.beq zb 2 then .mk (Nat) (λ j=>Rw p k j) (λ j=>(p.ai.getD k (ag.mk zE zE (0:Int) (0:Int) [])).steps.length - j) [] [4,70] (λ j=>[(73, .aI ⟨(.int .i64),((j:Int):Int)⟩)]) [4] (λ j=>[]) [] [] (λ j=>λ _ => .none) else .none)) else .none)) else .none)) else .none)
abbrev mC(p:aj)(k1:Nat):Prop:=(let v0:=p.ai.getD k1 (ag.mk zE zE (0:Int) (0:Int) []);((v0.left.aq=v0.left.aq/\(v0.left.aM=v0.left.aM/\(v0.left.M=v0.left.M/\(v0.right.aq=v0.right.aq/\(v0.right.aM=v0.right.aM/\(v0.right.M=v0.right.M/\(v0.bp=v0.bp/\(v0.ref=v0.ref/\(v0.steps=v0.steps/\True)))))))))/\True))
abbrev fM(p:aj)(k1:Nat):Prop:=((p=p/\(True/\(p.ai=p.ai/\(((p.ai.length:Int))=((p.ai.length:Int))/\((k1:Int)=(k1:Int)/\True)))))/\(mC p k1))
abbrev vV(p:aj)(k1:Nat):Prop:=(let v0:=p.ai.getD k1 (ag.mk zE zE (0:Int) (0:Int) []);let v1:=decide ((60:Int)<((v0.steps.length:Int)));(v0.steps.length<=140737488355328 ->
 (O ((v0.steps.length:Int)) ->
 ((v1=true ->
 false=(ec p))/\(v1=false ->
 (∃ u2:Unit,(Mr p k1/\(fM p k1))))))))
abbrev vW(p:aj)(k1:Nat):Prop:=(let v0:=p.ai.getD k1 (ag.mk zE zE (0:Int) (0:Int) []);let v1 := !(decide ((0:Int)<=v0.ref/\v0.ref<=(39:Int)));(O v0.ref ->
 (((v1=false) ->
 (vV p k1))/\((v1=(!false)) ->
 ((true=true ->
 false=(ec p))/\(true=false ->
 (∃ u2:Unit,(Mr p k1/\(fM p k1)))))))))
abbrev vX(p:aj)(k1:Nat):Prop:=((true=false ->
 (vV p k1))/\(true=(!false) ->
 ((true=true ->
 false=(ec p))/\(true=false ->
 (∃ u2:Unit,(Mr p k1/\(fM p k1)))))))
abbrev vY(p:aj)(k1:Nat):Prop:=(let v0:=p.ai.getD k1 (ag.mk zE zE (0:Int) (0:Int) []);let v1:=decide ((0:Int)<((v0.steps.length:Int)));let v2:=VX p k1/\(fM p k1);let v3 := !(decide (v0.bp=(1:Int)));(O v0.bp ->
 ((v3=true ->
 (v0.steps.length<=140737488355328 ->
 (O ((v0.steps.length:Int)) ->
 ((v1=true ->
 false=(ec p))/\(v1=false ->
 (∃ u3:Unit,v2))))))/\(v3=(!true) ->
 ((false=true ->
 false=(ec p))/\(false=false ->
 (∃ u3:Unit,v2)))))))
abbrev vZ(p:aj):Prop:=(let v1:=(p.ai.length:Int);let v2:=(0:Int);let v0:=ag.mk zE zE v2 v2 [];let v3:=(1:Int);let v4:=ae.mk v2 false [] [] [];(p.ai.length<=140737488355328 ->
 (O v1 ->
 ((∃ k1:Nat,(wH p k1/\((p=p/\(p.ai=p.ai/\(v1=v1/\(v2=(k1:Int)/\True))))/\True)))/\(∀ k1:Nat,let v5:=p.ai.getD k1 v0;let v6:=(v5.steps.length:Int);let v7 := !(bg (bW p.sig) ([(aJ v5.left),(aJ v5.right)])&&bK p.sig);let v8:=(k1:Int);let v9 := !(decide (v3<=v5.bp/\v5.bp<=(3:Int)));let va:=VX p k1/\(fM p k1);(wH p k1 ->
 (((decide (v8<v1))=true ->
 (ak v8 p.ai.length/\(((v7=false ->
 (O v5.bp ->
 (((v9=false) ->
 (vW p k1))/\((v9=(!false)) ->
 (vX p k1)))))/\(v7=(!false) ->
 ((true=false ->
 (vW p k1))/\(true=(!false) ->
 (vX p k1)))))/\(∀ u2:Unit,(Mr p k1 ->
 ((O v5.bp ->
 (((decide (v5.bp=v3))=true ->
 (O v5.ref ->
 (((!(decide (v5.ref=v2)))=false ->
 (vY p k1))/\((!(decide (v5.ref=v2)))=(!false) ->
 ((true=true ->
 false=(ec p))/\(true=false ->
 (∃ u3:Unit,va)))))))/\((decide (v5.bp=v3))=(!true) ->
 ((false=false ->
 (vY p k1))/\(false=(!false) ->
 ((true=true ->
 false=(ec p))/\(true=false ->
 (∃ u3:Unit,va))))))))/\(∀ u3:Unit,(VX p k1 ->
 (v5.steps.length<=140737488355328 ->
 (O v6 ->
 ((∃ j4:Nat,(Rw p k1 j4/\((p=p/\(p.ai=p.ai/\(v1=v1/\(v8=v8/\(v5.steps=v5.steps/\(v6=v6/\(v2=(j4:Int)/\True)))))))/\(mC p k1))))/\(∀ j4:Nat,let vb := !(mb p.sig (v5.steps.getD j4 v4));(Rw p k1 j4 ->
 (((decide ((j4:Int)<v6))=true ->
 (ak (j4:Int) v5.steps.length/\(bK p.sig=true/\((vb=true ->
 false=(ec p))/\(vb=false ->
 (O ((j4:Int)+v3)/\(∃ j5:Nat,(Rw p k1 j5/\(v5.steps.length - j5<v5.steps.length - j4/\((p=p/\(p.ai=p.ai/\(v1=v1/\(v8=v8/\(v5.steps=v5.steps/\(v6=v6/\(((j4:Int)+v3)=(j5:Int)/\True)))))))/\(mC p k1)))))))))))/\((decide ((j4:Int)<v6))=false ->
 (O (v8+v3)/\(∃ k5:Nat,(wH p k5/\(p.ai.length - k5<p.ai.length - k1/\((p=p/\(p.ai=p.ai/\(v1=v1/\((v8+v3)=(k5:Int)/\True))))/\True))))))))))))))))))))/\((decide (v8<v1))=false ->
 true=(ec p)))))))))
def Lv(hE:aC [nA,gU,fb,AS]):aH.Good kz:=by
 refine⟨au yq rfl (by decide),?_⟩;show ∀ (p:aj),True->bd prog pT [.val ⟨(.st .proof),p⟩] (·=[⟨.bool,ec p⟩]);intro p _;refine aU (wr:=[]) (cl:=[]) (ro:=[1]) hE yq Hs (NM p) (let v0:=decide ((40:Int)<((p.ai.length:Int)));((((!(bK p.sig))=false->(p.ai.length<=140737488355328->(O ((p.ai.length:Int))->((v0=true->false=(ec p))/\(v0=false->(vZ p))))))/\((!(bK p.sig))=(!false)->((true=true->false=(ec p))/\(true=false->(vZ p))))))) (by kernel_rfl) ?_;refine⟨λ _ _ _=>⟨λ _=>?_,λ _ _ _=>⟨⟨0,?_,⟨rfl,rfl,rfl,?_,U⟩,U⟩,λ k1 _=>⟨λ _=>⟨?_,⟨λ _ _=>⟨λ _ _=>⟨λ _ _ _=>⟨λ _=>?_,λ _=>⟨(),?_,⟨rfl,U,rfl,rfl,rfl,U⟩,⟨rfl,rfl,rfl,rfl,rfl,rfl,rfl,rfl,rfl,U⟩,U⟩⟩,λ _=>⟨λ _=>?_,λ _=>⟨(),?_,⟨rfl,U,rfl,rfl,rfl,U⟩,⟨rfl,rfl,rfl,rfl,rfl,rfl,rfl,rfl,rfl,U⟩,U⟩⟩⟩,λ _=>⟨λ _ _ _=>⟨λ _=>?_,λ _=>⟨(),?_,⟨rfl,U,rfl,rfl,rfl,U⟩,⟨rfl,rfl,rfl,rfl,rfl,rfl,rfl,rfl,rfl,U⟩,U⟩⟩,λ _=>⟨λ _=>?_,λ _=>⟨(),?_,⟨rfl,U,rfl,rfl,rfl,U⟩,⟨rfl,rfl,rfl,rfl,rfl,rfl,rfl,rfl,rfl,U⟩,U⟩⟩⟩⟩,λ _=>⟨λ _ _=>⟨λ _ _ _=>⟨λ _=>?_,λ _=>⟨(),?_,⟨rfl,U,rfl,rfl,rfl,U⟩,⟨rfl,rfl,rfl,rfl,rfl,rfl,rfl,rfl,rfl,U⟩,U⟩⟩,λ _=>⟨λ _=>?_,λ _=>⟨(),?_,⟨rfl,U,rfl,rfl,rfl,U⟩,⟨rfl,rfl,rfl,rfl,rfl,rfl,rfl,rfl,rfl,U⟩,U⟩⟩⟩,λ _=>⟨λ _ _ _=>⟨λ _=>?_,λ _=>⟨(),?_,⟨rfl,U,rfl,rfl,rfl,U⟩,⟨rfl,rfl,rfl,rfl,rfl,rfl,rfl,rfl,rfl,U⟩,U⟩⟩,λ _=>⟨λ _=>?_,λ _=>⟨(),?_,⟨rfl,U,rfl,rfl,rfl,U⟩,⟨rfl,rfl,rfl,rfl,rfl,rfl,rfl,rfl,rfl,U⟩,U⟩⟩⟩⟩⟩,λ u2 _=>⟨λ _=>⟨λ _ _=>⟨λ _ _=>⟨λ _ _ _=>⟨λ _=>?_,λ _=>⟨(),?_,⟨rfl,U,rfl,rfl,rfl,U⟩,⟨rfl,rfl,rfl,rfl,rfl,rfl,rfl,rfl,rfl,U⟩,U⟩⟩,λ _=>⟨λ _=>?_,λ _=>⟨(),?_,⟨rfl,U,rfl,rfl,rfl,U⟩,⟨rfl,rfl,rfl,rfl,rfl,rfl,rfl,rfl,rfl,U⟩,U⟩⟩⟩,λ _=>⟨λ _=>?_,λ _=>⟨(),?_,⟨rfl,U,rfl,rfl,rfl,U⟩,⟨rfl,rfl,rfl,rfl,rfl,rfl,rfl,rfl,rfl,U⟩,U⟩⟩⟩,λ _=>⟨λ _ _=>⟨λ _ _ _=>⟨λ _=>?_,λ _=>⟨(),?_,⟨rfl,U,rfl,rfl,rfl,U⟩,⟨rfl,rfl,rfl,rfl,rfl,rfl,rfl,rfl,rfl,U⟩,U⟩⟩,λ _=>⟨λ _=>?_,λ _=>⟨(),?_,⟨rfl,U,rfl,rfl,rfl,U⟩,⟨rfl,rfl,rfl,rfl,rfl,rfl,rfl,rfl,rfl,U⟩,U⟩⟩⟩,λ _=>⟨λ _=>?_,λ _=>⟨(),?_,⟨rfl,U,rfl,rfl,rfl,U⟩,⟨rfl,rfl,rfl,rfl,rfl,rfl,rfl,rfl,rfl,U⟩,U⟩⟩⟩⟩,λ u3 _ _ _=>⟨⟨0,?_,⟨rfl,rfl,rfl,rfl,rfl,rfl,?_,U⟩,⟨rfl,rfl,rfl,rfl,rfl,rfl,rfl,rfl,rfl,U⟩,U⟩,λ j4 _=>⟨λ _=>⟨?_,?_,λ _=>?_,λ _=>⟨?_,j4+1,?_,?_,⟨rfl,rfl,rfl,rfl,rfl,rfl,?_,U⟩,⟨rfl,rfl,rfl,rfl,rfl,rfl,rfl,rfl,rfl,U⟩,U⟩⟩,λ _=>⟨?_,k1+1,?_,?_,⟨rfl,rfl,rfl,?_,U⟩,U⟩⟩⟩⟩⟩,λ _=>?_⟩⟩⟩,λ _=>⟨λ _=>?_,λ _ _ _=>⟨⟨0,?_,⟨rfl,rfl,rfl,?_,U⟩,U⟩,λ k1 _=>⟨λ _=>⟨?_,⟨λ _ _=>⟨λ _ _=>⟨λ _ _ _=>⟨λ _=>?_,λ _=>⟨(),?_,⟨rfl,U,rfl,rfl,rfl,U⟩,⟨rfl,rfl,rfl,rfl,rfl,rfl,rfl,rfl,rfl,U⟩,U⟩⟩,λ _=>⟨λ _=>?_,λ _=>⟨(),?_,⟨rfl,U,rfl,rfl,rfl,U⟩,⟨rfl,rfl,rfl,rfl,rfl,rfl,rfl,rfl,rfl,U⟩,U⟩⟩⟩,λ _=>⟨λ _ _ _=>⟨λ _=>?_,λ _=>⟨(),?_,⟨rfl,U,rfl,rfl,rfl,U⟩,⟨rfl,rfl,rfl,rfl,rfl,rfl,rfl,rfl,rfl,U⟩,U⟩⟩,λ _=>⟨λ _=>?_,λ _=>⟨(),?_,⟨rfl,U,rfl,rfl,rfl,U⟩,⟨rfl,rfl,rfl,rfl,rfl,rfl,rfl,rfl,rfl,U⟩,U⟩⟩⟩⟩,λ _=>⟨λ _ _=>⟨λ _ _ _=>⟨λ _=>?_,λ _=>⟨(),?_,⟨rfl,U,rfl,rfl,rfl,U⟩,⟨rfl,rfl,rfl,rfl,rfl,rfl,rfl,rfl,rfl,U⟩,U⟩⟩,λ _=>⟨λ _=>?_,λ _=>⟨(),?_,⟨rfl,U,rfl,rfl,rfl,U⟩,⟨rfl,rfl,rfl,rfl,rfl,rfl,rfl,rfl,rfl,U⟩,U⟩⟩⟩,λ _=>⟨λ _ _ _=>⟨λ _=>?_,λ _=>⟨(),?_,⟨rfl,U,rfl,rfl,rfl,U⟩,⟨rfl,rfl,rfl,rfl,rfl,rfl,rfl,rfl,rfl,U⟩,U⟩⟩,λ _=>⟨λ _=>?_,λ _=>⟨(),?_,⟨rfl,U,rfl,rfl,rfl,U⟩,⟨rfl,rfl,rfl,rfl,rfl,rfl,rfl,rfl,rfl,U⟩,U⟩⟩⟩⟩⟩,λ u2 _=>⟨λ _=>⟨λ _ _=>⟨λ _ _=>⟨λ _ _ _=>⟨λ _=>?_,λ _=>⟨(),?_,⟨rfl,U,rfl,rfl,rfl,U⟩,⟨rfl,rfl,rfl,rfl,rfl,rfl,rfl,rfl,rfl,U⟩,U⟩⟩,λ _=>⟨λ _=>?_,λ _=>⟨(),?_,⟨rfl,U,rfl,rfl,rfl,U⟩,⟨rfl,rfl,rfl,rfl,rfl,rfl,rfl,rfl,rfl,U⟩,U⟩⟩⟩,λ _=>⟨λ _=>?_,λ _=>⟨(),?_,⟨rfl,U,rfl,rfl,rfl,U⟩,⟨rfl,rfl,rfl,rfl,rfl,rfl,rfl,rfl,rfl,U⟩,U⟩⟩⟩,λ _=>⟨λ _ _=>⟨λ _ _ _=>⟨λ _=>?_,λ _=>⟨(),?_,⟨rfl,U,rfl,rfl,rfl,U⟩,⟨rfl,rfl,rfl,rfl,rfl,rfl,rfl,rfl,rfl,U⟩,U⟩⟩,λ _=>⟨λ _=>?_,λ _=>⟨(),?_,⟨rfl,U,rfl,rfl,rfl,U⟩,⟨rfl,rfl,rfl,rfl,rfl,rfl,rfl,rfl,rfl,U⟩,U⟩⟩⟩,λ _=>⟨λ _=>?_,λ _=>⟨(),?_,⟨rfl,U,rfl,rfl,rfl,U⟩,⟨rfl,rfl,rfl,rfl,rfl,rfl,rfl,rfl,rfl,U⟩,U⟩⟩⟩⟩,λ u3 _ _ _=>⟨⟨0,?_,⟨rfl,rfl,rfl,rfl,rfl,rfl,?_,U⟩,⟨rfl,rfl,rfl,rfl,rfl,rfl,rfl,rfl,rfl,U⟩,U⟩,λ j4 _=>⟨λ _=>⟨?_,?_,λ _=>?_,λ _=>⟨?_,j4+1,?_,?_,⟨rfl,rfl,rfl,rfl,rfl,rfl,?_,U⟩,⟨rfl,rfl,rfl,rfl,rfl,rfl,rfl,rfl,rfl,U⟩,U⟩⟩,λ _=>⟨?_,k1+1,?_,?_,⟨rfl,rfl,rfl,?_,U⟩,U⟩⟩⟩⟩⟩,λ _=>?_⟩⟩⟩⟩;all_goals try and_intros
 all_goals try (first|with_reducible rfl|with_reducible assumption)
 all_goals try simp only[J.eta,ag.eta,ar.eta,aK,br,bG] at *
 all_goals first|with_reducible rfl|with_reducible assumption|exact True.intro|(simp only[Bool.true_eq_false,Bool.false_eq_true,Bool.not_true,Bool.not_false] at *;done)|(have h:wH p k1:=(by with_reducible assumption);have sg:=h.sg;simp only[sg,Bool.and_true,Bool.not_true,Bool.not_false,Bool.not_eq_true',Bool.not_eq_false'] at *;first|exact True.intro|exact (h.b1 (by simp only[decide_eq_true_eq] at *;omega) (by with_reducible assumption)).symm|exact (h.b (by simp only[decide_eq_true_eq] at *;omega) (a3v (by simp only[gv,decide_eq_true_eq,decide_eq_false_iff_not] at *;omega))).symm|exact (h.b (by simp only[decide_eq_true_eq] at *;omega) (a3w (by simp only[gv,decide_eq_true_eq,decide_eq_false_iff_not] at *;omega))).symm|exact h.a (by simp only[decide_eq_true_eq] at *;omega) (by with_reducible assumption) (by simp only[gv,decide_eq_true_eq,decide_eq_false_iff_not] at *;omega) (by simp only[gv,decide_eq_true_eq,decide_eq_false_iff_not] at *;omega) (by simp only[gv,decide_eq_true_eq,decide_eq_false_iff_not] at *;omega)|(refine (h.b2J (by simp only[decide_eq_true_eq] at *;omega) ?_).symm;(rw[a4N];unfold clG;simp only[gv, *,Bool.and_true,Bool.true_and,Bool.and_false,Bool.false_and,Bool.not_true,Bool.not_false];done)))|((try simp only[gv,List.nil_append,J.eta,decide_eq_true_eq,decide_eq_false_iff_not,Bool.not_true,Bool.not_false,Bool.not_eq_true',Bool.not_eq_false',ak,O,aY,List.length_append,List.length_cons,List.length_nil,List.length_map,List.length_take] at *);first|exact True.intro|omega|exact (a5l (by with_reducible assumption)).symm|exact (a5m (by omega)).symm|exact wH.zero (by with_reducible assumption) (by omega)|exact (wH.end (by with_reducible assumption) (by omega)).symm|exact VX.zero (by with_reducible assumption)|(have h:wH p k1:=(by with_reducible assumption);have:=h.le;have:=h.ln;omega)|(have h:Mr p k1:=(by with_reducible assumption);have l:=h.lt;first|omega|exact (h.n1 (by simp only[gv];omega) (by simp only[gv];omega)).symm|exact (h.n2 (by simp only[gv];omega) (by simp only[gv];omega)).symm|exact h.y1 (by simp only[gv];omega) (by simp only[gv];omega)|exact h.y2 (by simp only[gv];omega) (by simp only[gv];omega))|(have h:VX p k1:=(by with_reducible assumption);have:=h.lt;omega)|(have h:Rw p k1 j4:=(by with_reducible assumption);first|exact h.h.pp.sg|exact (h.bad (by simp only[gv];omega) (by with_reducible assumption)).symm|exact h.next (by simp only[gv];omega) (by with_reducible assumption)|exact h.done (by simp only[gv];omega)|(have:=h.le;have:=h.h.lt;omega)))
def sL:aH.Good kz:=Lv ⟨yJ,ly,eW,PI,U⟩
def Z5{gg:aT}{x:J}(hg:bK gg=true)(h:bW gg x=true):bc 62 62 x=true:=by
 rw[rk] at h;rw[Yu] at hg;rw[GG _ (by omega),GG _ (by omega)] at h;exact J4 _ _ _ _ (by omega) (by omega) x h.1
def a0v{t a:Int}{x:J}(h:bc t a x=true):cS x.aq=(x.M.length:Int):=by
 rw[ik,Bool.and_eq_true] at h;have h1:=h.1;unfold pD at h1;simp only[Bool.and_eq_true,decide_eq_true_eq] at h1;exact h1.1.1
def Kw{t a:Int}{x:J}(h:bc t a x=true)(hk:x.aq=6\/x.aq=7):x.M.length=2:=by
 have:=a0v h;rcases hk with hk|hk<;>rw[hk] at this<;>simp[cS] at this<;>omega
def Mu{α:Type}(f:α->Bool)(z:α)(xs:List α)(i:Nat)(h:bg f xs=true)(hi:i<xs.length):f (xs.getD i z)=true:=by
 refine qh f xs h _ ?_;rw[b3V,b4j hi];exact b4Z _
structure sB(p:aj):Prop where
 v:ec p=true
def sB.sg{p:aj}(h:sB p):bK p.sig=true:=by
 have:=h.v;simp only[ec,b3J] at this;exact this.1.1
def sB.ln{p:aj}(h:sB p):p.ai.length<=40:=by
 have:=h.v;simp only[ec,b3J,b3E] at this;exact this.1.2
def sB.cl{p:aj}(h:sB p){i:Int}(h0:0<=i)(hi:i<(p.ai.length:Int)):nS p.sig (bJ p i)=true:=by
 have:=h.v;simp only[ec,b3J] at this;exact Mu _ _ _ _ this.2 (by omega)
def sB.e{p:aj}(h:sB p){i:Int}(h0:0<=i)(hi:i<(p.ai.length:Int)):bW p.sig (bJ p i).left=true/\bW p.sig (bJ p i).right=true/\(1<=(bJ p i).bp/\(bJ p i).bp<=3)/\(0<=(bJ p i).ref/\(bJ p i).ref<=39)/\(bJ p i).steps.length<=60/\bg (mb p.sig) (bJ p i).steps=true:=by
 have:=h.cl h0 hi;simp only[nS,b3J,b3E] at this;exact⟨this.1.1.1.1.1.1,this.1.1.1.1.1.2,this.1.1.1.1.2,this.1.1.1.2,this.1.1.2,this.2⟩
def sB.t{p:aj}(h:sB p){i:Int}(h0:0<=i)(hi:i<(p.ai.length:Int)):bc 62 62 (bJ p i).left=true/\bc 62 62 (bJ p i).right=true:=⟨Z5 h.sg (h.e h0 hi).1,Z5 h.sg (h.e h0 hi).2.1⟩
def Wg:FA.length=24:=by unfold FA;rw[List.length_map];rfl
def a5F:FA.all (λ q=>bc 62 62 q.left&&bc 62 62 q.right)=true:=by kernel_rfl
def J5{p:aj}{k u:Int}(h:sB p)(hk:k<=(p.ai.length:Int))(hu:u<=23)(ho:qH k u=true):bc 62 62 (dt p k u).left=true/\bc 62 62 (dt p k u).right=true:=by
 unfold dt;by_cases h0:0<=u
 .rw[b4n h0];have hm:FA.getD u.toNat (ar.mk zE zE)∈FA:=by
   rw[b3V,b4j (by rw[Wg];omega)];exact b4Z _
  have:=b4C.1 a5F _ hm;rwa [b3J] at this
 .rw[b3R h0];simp only[qH,b5s,b3E] at ho;rw[b4n (by omega)];exact h.t (by omega) (by omega)
def a8B{p:aj}{k u:Int}(h:0<=u):dt p k u=FA.getD u.toNat (ar.mk zE zE)/\qH k u=true:=by
 unfold dt qH;rw[if_pos h,decide_eq_true h];exact⟨rfl,rfl⟩
def a8C{p:aj}{k u:Int}(h:¬ 0<=u)(h2 : -1 - u<k):dt p k u=ar.mk (bJ p (-1 - u)).left (bJ p (-1 - u)).right/\qH k u=true:=by
 unfold dt qH;rw[if_neg h,if_pos h2,decide_eq_true h2,Bool.or_true];exact⟨rfl,rfl⟩
def a8D{p:aj}{k u:Int}(h:¬ 0<=u)(h2:¬ -1 - u<k):dt p k u=ar.mk zE zE/\qH k u=false:=by
 unfold dt qH;rw[if_neg h,if_neg h2,decide_eq_false h,decide_eq_false h2];exact⟨rfl,rfl⟩
def a4v{q:ar}(h:qa q=false):Tr q=J.mk (0:Int) (0:Int) []/\Bs q=J.mk (0:Int) (0:Int) []/\LL q=J.mk (0:Int) (0:Int) []:=by unfold Tr Bs LL;rw[h];exact⟨rfl,rfl,rfl⟩
def Rf{q:ar}(h:qa q=true):Tr q=(q.left.M.getD 0 zE).M.getD 0 zE/\Bs q=(q.left.M.getD 0 zE).M.getD 1 zE/\LL q=q.right:=by unfold Tr Bs LL;rw[h];exact⟨rfl,rfl,rfl⟩
def a8o{q:ar}(h1:q.left.aq=6)(h2:(q.left.M.getD 0 zE).aq=6)(h3:bC (q.left.M.getD 1 zE) q.right=true):qa q=true:=by unfold qa;rw[decide_eq_true h1,decide_eq_true h2,h3];rfl
def a8l{q:ar}(h1:¬ q.left.aq=6):qa q=false:=by unfold qa;rw[decide_eq_false h1];rfl
def a8m{q:ar}(h1:¬ (q.left.M.getD 0 zE).aq=6):qa q=false:=by unfold qa;rw[decide_eq_false h1,Bool.and_false];rfl
def a8n{q:ar}(h1:bC (q.left.M.getD 1 zE) q.right=false):qa q=false:=by unfold qa;rw[h1,Bool.and_false]
def Yw{q:ar}(ht:bc 62 62 q.left=true)(h:q.left.aq=6):q.left.M.length=2/\bc 62 62 (q.left.M.getD 0 zE)=true/\((q.left.M.getD 0 zE).aq=6->(q.left.M.getD 0 zE).M.length=2/\bc 62 62 ((q.left.M.getD 0 zE).M.getD 1 zE)=true):=by
 have h2:=Kw ht (.inl h);have h3:=uH ht 0 (by omega);refine⟨h2,h3,λ hk=>?_⟩;have h4:=Kw h3 (.inl hk);exact⟨h4,uH h3 1 (by omega)⟩
def PH:aH.Good o8:=N3.plain
def AU:aH:=⟨A8,[.v (.st .proof), .v (.int .i64), .v (.int .i64)],λ (p:aj) (k:Int) (u:Int)=>⟨(some (u<=23 /\ -40<=u/\0<=k/\k<=(p.ai.length:Int)),[⟨(.st .equation),dt p k u⟩,⟨.bool,qH k u⟩])⟩⟩
def Xv(p:aj)(k:Int)(u:Int):Nat->aE:=λ _ => .none
def Vo(hE:aC [o8]):aH.Good AU:=by
 refine⟨au GX rfl (by decide),?_⟩;show ∀ (p:aj) (k:Int) (u:Int),(u<=23 /\ -40<=u/\0<=k/\k<=(p.ai.length:Int))->bd prog A8 [.val ⟨(.st .proof),p⟩, .val ⟨(.int .i64),k⟩, .val ⟨(.int .i64),u⟩] (·=[⟨(.st .equation),dt p k u⟩,⟨.bool,qH k u⟩]);intro p k u hp;refine aU (wr:=[]) (cl:=[]) (ro:=[3]) hE GX O9 (Xv p k u) (let v1:=(-1:Int) - u;let v0:=p.ai.getD (Int.toNat v1) (ag.mk zE zE (0:Int) (0:Int) []);((((decide ((0:Int)<=u))=true->((FA).length<=140737488355328->(ak u (FA).length/\((jU ((FA).getD (Int.toNat u) (ar.mk zE zE)))=(dt p k u)/\true=(qH k u)))))/\((decide ((0:Int)<=u))=false->(O v1/\(((decide (k<=v1))=true->((ar.mk zE zE)=(dt p k u)/\false=(qH k u)))/\((decide (k<=v1))=false->(p.ai.length<=140737488355328->(O v1/\(ak v1 p.ai.length/\((ar.mk (aJ v0.left) (aJ v0.right))=(dt p k u)/\true=(qH k u)))))))))))) (by kernel_rfl) ?_;refine⟨λ _ _=>⟨?_,?_,?_⟩,λ _=>⟨?_,λ _=>⟨?_,?_⟩,λ _ _=>⟨?_,?_,?_,?_⟩⟩⟩;all_goals try and_intros
 all_goals try (first|with_reducible rfl|with_reducible assumption)
 all_goals try simp only[J.eta,ag.eta,ar.eta,aK,br,bG] at *
 all_goals first|with_reducible rfl|with_reducible assumption|exact True.intro|(simp only[b3M,b3L,b3K,b3I] at *;done)|((try simp only[b4i,J.eta,b3E,b3D,b3K,b3I,b3S,b4f,ak,O,aY,b3U,b3P,b4b,b3Y,b4e] at *);first|exact True.intro|omega|((first|have Q:=a8B (p:=p) (k:=k) (u:=u) (by omega)|have Q:=a8C (p:=p) (k:=k) (u:=u) (by omega) (by omega)|have Q:=a8D (p:=p) (k:=k) (u:=u) (by omega) (by omega));first|exact Q.1|exact Q.2|exact Q.1.symm|exact Q.2.symm)|(have:=Wg;omega))
def PO:aH.Good AU:=Vo ⟨PH,U⟩
def xy:aH:=⟨x8,[.v (.st .equation)],λ (q:ar)=>⟨(some (bc 62 62 q.left=true),[⟨(.st .expr),Tr q⟩,⟨(.st .expr),Bs q⟩,⟨(.st .expr),LL q⟩,⟨.bool,qa q⟩])⟩⟩
def UJ(q:ar):Nat->aE:=λ _ => .none
abbrev rm(q:ar):Prop:=(zE=(Tr q)/\(zE=(Bs q)/\(zE=(LL q)/\false=(qa q))))
abbrev rn(q:ar):Prop:=(let v0:=q.left.M.getD 0 zE;let v1:=v0.M.getD 1 zE;let v2:=v0.M.getD 0 zE;let v3:=(0:Int);(q.left.M.length<=140737488355328 ->
 (ak v3 q.left.M.length/\(v0.M.length<=140737488355328 ->
 (ak v3 v0.M.length/\(q.left.M.length<=140737488355328 ->
 (ak v3 q.left.M.length/\(v0.M.length<=140737488355328 ->
 (ak (1:Int) v0.M.length/\(q.left=q.left/\(q.left.M=q.left.M/\(q.left.M=q.left.M/\(ak v3 q.left.M.length/\(v0=v0/\(v0.M=v0.M/\(v0.M=v0.M/\(ak v3 v0.M.length/\(v2=v2/\(v2=v2/\(q.left=q.left/\(q.left.M=q.left.M/\(q.left.M=q.left.M/\(ak v3 q.left.M.length/\(v0=v0/\(v0.M=v0.M/\(v0.M=v0.M/\(ak (1:Int) v0.M.length/\(v1=v1/\(v1=v1/\(q.right=q.right/\(q.right=q.right/\(q.left=q.left/\(q.left.M=q.left.M/\(q.left.M=q.left.M/\(ak v3 q.left.M.length/\(v0=v0/\(v0.M=v0.M/\(v0.M=v0.M/\(ak (1:Int) v0.M.length/\(v1=v1/\(v1=v1/\(q.right=q.right/\(q.right=q.right/\(q.right=q.right/\(q.right=q.right/\((aJ v2)=(Tr q)/\((aJ v1)=(Bs q)/\((aJ q.right)=(LL q)/\true=(qa q)))))))))))))))))))))))))))))))))))))))))))))))))
abbrev Cv(q:ar):Prop:=(let v0 := !(bC (q.left.M.getD 1 zE) q.right);(q.left.M.length<=140737488355328 ->
 ((v0=true ->
 (rm q))/\(v0=false ->
 (rn q)))))
def SP(hE:aC [jy]):aH.Good xy:=by
 refine⟨au D7 rfl (by decide),?_⟩;show ∀ (q:ar),(bc 62 62 q.left=true)->bd prog x8 [.val ⟨(.st .equation),q⟩] (·=[⟨(.st .expr),Tr q⟩,⟨(.st .expr),Bs q⟩,⟨(.st .expr),LL q⟩,⟨.bool,qa q⟩]);intro q hp;refine aU (wr:=[]) (cl:=[]) (ro:=[1]) hE D7 Mz (UJ q) (let v0:=q.left.M.getD 0 zE;let v1 := !(decide (q.left.aq=(6:Int)));let v2 := !(decide (v0.aq=(6:Int)));(((v1=false->(ak (0:Int) q.left.M.length/\((v2=false->(ak (1:Int) q.left.M.length/\(O q.left.aq->(q.left.M.length<=140737488355328->(O v0.aq->(Cv q))))))/\(v2=(!false)->(O q.left.aq->(q.left.M.length<=140737488355328->(O v0.aq->((true=true->(rm q))/\(true=false->(rn q))))))))))/\(v1=(!false)->((true=false->(ak (1:Int) q.left.M.length/\(O q.left.aq->(Cv q))))/\(true=(!false)->(O q.left.aq->((true=true->(rm q))/\(true=false->(rn q)))))))))) (by kernel_rfl) ?_;refine⟨λ _=>⟨?_,λ _=>⟨?_,λ _ _ _ _=>⟨λ _=>⟨?_,?_,?_,?_⟩,λ _ _=>⟨?_,λ _=>⟨?_,λ _=>⟨?_,λ _=>⟨?_,rfl,rfl,rfl,?_,rfl,rfl,rfl,?_,rfl,rfl,rfl,rfl,rfl,?_,rfl,rfl,rfl,?_,rfl,rfl,rfl,rfl,rfl,rfl,rfl,?_,rfl,rfl,rfl,?_,rfl,rfl,rfl,rfl,rfl,rfl,?_,?_,?_,?_⟩⟩⟩⟩⟩⟩,λ _ _ _ _=>⟨λ _=>⟨?_,?_,?_,?_⟩,λ _ _=>⟨?_,λ _=>⟨?_,λ _=>⟨?_,λ _=>⟨?_,rfl,rfl,rfl,?_,rfl,rfl,rfl,?_,rfl,rfl,rfl,rfl,rfl,?_,rfl,rfl,rfl,?_,rfl,rfl,rfl,rfl,rfl,rfl,rfl,?_,rfl,rfl,rfl,?_,rfl,rfl,rfl,rfl,rfl,rfl,?_,?_,?_,?_⟩⟩⟩⟩⟩⟩,λ _=>⟨λ _=>⟨?_,λ _ _=>⟨λ _=>⟨?_,?_,?_,?_⟩,λ _ _=>⟨?_,λ _=>⟨?_,λ _=>⟨?_,λ _=>⟨?_,rfl,rfl,rfl,?_,rfl,rfl,rfl,?_,rfl,rfl,rfl,rfl,rfl,?_,rfl,rfl,rfl,?_,rfl,rfl,rfl,rfl,rfl,rfl,rfl,?_,rfl,rfl,rfl,?_,rfl,rfl,rfl,rfl,rfl,rfl,?_,?_,?_,?_⟩⟩⟩⟩⟩⟩,λ _ _=>⟨λ _=>⟨?_,?_,?_,?_⟩,λ _ _=>⟨?_,λ _=>⟨?_,λ _=>⟨?_,λ _=>⟨?_,rfl,rfl,rfl,?_,rfl,rfl,rfl,?_,rfl,rfl,rfl,rfl,rfl,?_,rfl,rfl,rfl,?_,rfl,rfl,rfl,rfl,rfl,rfl,rfl,?_,rfl,rfl,rfl,?_,rfl,rfl,rfl,rfl,rfl,rfl,?_,?_,?_,?_⟩⟩⟩⟩⟩⟩⟩;all_goals try and_intros
 all_goals try (first|with_reducible rfl|with_reducible assumption)
 all_goals try simp only[J.eta,ag.eta,ar.eta,aK,br,bG] at *
 all_goals first|with_reducible rfl|with_reducible assumption|exact True.intro|(simp only[b3M,b3L,b3K,b3I] at *;done)|((try simp only[b4i,J.eta,b3E,b3D,b3K,b3I,b3S,b4f,ak,O,aY,b3U,b3P,b4b,b3Y,b4e] at *);first|exact True.intro|omega|(have h:=Yw hp (by with_reducible assumption);have h2:=h.1;first|omega|(have h3:=(h.2.2 (by with_reducible assumption)).1;omega))|((first|have Q:=a4v (q:=q) (a8l (by with_reducible assumption))|have Q:=a4v (q:=q) (a8m (by with_reducible assumption))|have Q:=a4v (q:=q) (a8n (by with_reducible assumption))|have Q:=Rf (q:=q) (a8o (by with_reducible assumption) (by with_reducible assumption) (by with_reducible assumption)));first|exact Q.1|exact Q.1.symm|exact Q.2.1|exact Q.2.1.symm|exact Q.2.2|exact Q.2.2.symm)|((first|have Q:=a8l (q:=q) (by with_reducible assumption)|have Q:=a8m (q:=q) (by with_reducible assumption)|have Q:=a8n (q:=q) (by with_reducible assumption)|have Q:=a8o (q:=q) (by with_reducible assumption) (by with_reducible assumption) (by with_reducible assumption));first|exact Q|exact Q.symm))
def Na:aH.Good xy:=SP ⟨jh,U⟩
structure Ru(p:aj)(k:Int)(e:J)(s:ae):Prop where
 v:sB p
 k0:0<=k
 k1:k<=(p.ai.length:Int)
 e:bW p.sig e=true
 s:mb p.sig s=true
def Ru.u{p:aj}{k:Int}{e:J}{s:ae}(h:Ru p k e s):(-40<=s.use/\s.use<=23)/\s.path.length<=40/\s.az.length<=3/\s.bf.length<=4/\bg (bW p.sig) s.az=true/\bg (bW p.sig) s.bf=true:=by
 have:=h.s;simp only[mb,b3J,b3E] at this;have h1:=this.1.1.1.1.1.1.2;have h2:=this.1.1.1.1.2;have h3:=this.1.1.1.2;exact⟨this.1.1.1.1.1.1.1,by omega,by omega,by omega,this.1.1.2,this.2⟩
def Ru.fl{p:aj}{k:Int}{e:J}{s:ae}(h:Ru p k e s):Ig s.az s.bf :=
 ⟨λ y hy=>rl p.sig y (qh _ _ h.u.2.2.2.2.1 y hy),λ y hy=>rl p.sig y (qh _ _ h.u.2.2.2.2.2 y hy)⟩
def EB{q:ar}{s:ae}(h1:(bM [q.left,q.right]).1=(s.az.length:Int))(h2:(bM [q.left,q.right]).2=(s.bf.length:Int)):eV s.az s.bf q.left/\eV s.az s.bf q.right:=by
 simp only[bM] at h1 h2;exact⟨⟨by omega,by omega⟩,⟨by omega,by omega⟩⟩
def a1C{p:aj}{k:Int}{e:J}{s:ae}{c:Int}(h:im p k e s=c)(hc:c≠0):jO p k e s=J.mk (0:Int) (0:Int) []/\im p k e s=c:=⟨by unfold jO;rw[if_neg (by rw[h];exact hc)],h⟩
def a4G{p:aj}{k:Int}{e:J}{s:ae}(h:qH k s.use=false\/er e s.path=false):jO p k e s=J.mk (0:Int) (0:Int) []/\im p k e s=2:=by
 refine a1C ?_ (by decide);unfold im;rcases h with h|h<;>rw[h]<;>simp
def a4H{p:aj}{k:Int}{e:J}{s:ae}(h:apF (dt p k s.use) s=false):jO p k e s=J.mk (0:Int) (0:Int) []/\im p k e s=2:=by
 refine a1C ?_ (by decide);unfold im;rw[h];cases qH k s.use&&er e s.path<;>rfl
def a6P{q:ar}{s:ae}(h:¬ (bM [q.left,q.right]).1=(s.az.length:Int)):apF q s=false:=by unfold apF;rw[decide_eq_false h];rfl
def a6Q{q:ar}{s:ae}(h:¬ (bM [q.left,q.right]).2=(s.bf.length:Int)):apF q s=false:=by unfold apF;rw[decide_eq_false h,Bool.and_false]
structure BD(p:aj)(k:Int)(e:J)(s:ae):Prop where
 u:qH k s.use=true
 n:er e s.path=true
 t:(bM [(dt p k s.use).left,(dt p k s.use).right]).1=(s.az.length:Int)
 a:(bM [(dt p k s.use).left,(dt p k s.use).right]).2=(s.bf.length:Int)
def BD.c{p:aj}{k:Int}{e:J}{s:ae}(h:BD p k e s):im p k e s=bif !V4 p.sig (dt p k s.use) s then 3 else bif !bC (dN e s.path) (apX (dt p k s.use) s) then 6 else p9 p.sig e s.path (V5 (dt p k s.use) s):=by
 unfold im;rw[h.u,h.n,show apF (dt p k s.use) s=true by unfold apF;rw[decide_eq_true h.t,decide_eq_true h.a];rfl];rfl
def Cs{gg:aT}{x:J}{ts as_:List J}(h:mA gg x ts as_=0):bW gg (cQ ts as_ x)=true/\gn gg x ts as_=cQ ts as_ x:=by
 cases hb:bW gg (cQ ts as_ x) with
 | true=>exact⟨rfl,(R8 hb).1⟩
 | false=>rw[(a3T hb).2] at h;cases h
def Xi{gg:aT}{x:J}{ts as_:List J}(h:¬ mA gg x ts as_=0):bW gg (cQ ts as_ x)=false:=by
 cases hb:bW gg (cQ ts as_ x) with
 | true=>exact absurd (R8 hb).2 h
 | false=>rfl
def BD.c3{p:aj}{k:Int}{e:J}{s:ae}(h:BD p k e s)(h2:¬ mA p.sig (dt p k s.use).left s.az s.bf=0\/¬ mA p.sig (dt p k s.use).right s.az s.bf=0):jO p k e s=J.mk (0:Int) (0:Int) []/\im p k e s=3:=by
 refine a1C ?_ (by decide);rw[h.c];unfold V4;rcases h2 with h2|h2<;>rw[Xi h2]<;>simp
def BD.i{p:aj}{k:Int}{e:J}{s:ae}(h1:mA p.sig (dt p k s.use).left s.az s.bf=0)(h2:mA p.sig (dt p k s.use).right s.az s.bf=0):V4 p.sig (dt p k s.use) s=true:=by
 unfold V4;rw[(Cs h1).1,(Cs h2).1];rfl
structure DV(p:aj)(k:Int)(e:J)(s:ae)(x y:J):Prop where
 r:BD p k e s
 i:V4 p.sig (dt p k s.use) s=true
 x:x=apX (dt p k s.use) s
 y:y=V5 (dt p k s.use) s
def BD.s1{p:aj}{k:Int}{e:J}{s:ae}(h:BD p k e s)(h1:mA p.sig (dt p k s.use).left s.az s.bf=0)(h2:mA p.sig (dt p k s.use).right s.az s.bf=0)(hb:s.back=true):DV p k e s (gn p.sig (dt p k s.use).right s.az s.bf) (gn p.sig (dt p k s.use).left s.az s.bf) :=
 ⟨h,BD.i (e:=e) h1 h2,by rw[(Cs h2).2];unfold apX;rw[hb];rfl,by rw[(Cs h1).2];unfold V5;rw[hb];rfl⟩
def BD.s0{p:aj}{k:Int}{e:J}{s:ae}(h:BD p k e s)(h1:mA p.sig (dt p k s.use).left s.az s.bf=0)(h2:mA p.sig (dt p k s.use).right s.az s.bf=0)(hb:s.back=false):DV p k e s (gn p.sig (dt p k s.use).left s.az s.bf) (gn p.sig (dt p k s.use).right s.az s.bf) :=
 ⟨h,BD.i (e:=e) h1 h2,by rw[(Cs h1).2];unfold apX;rw[hb];rfl,by rw[(Cs h2).2];unfold V5;rw[hb];rfl⟩
def DV.c6{p:aj}{k:Int}{e:J}{s:ae}{x y:J}(h:DV p k e s x y)(h2:bC (HX e s.path) x=false):jO p k e s=J.mk (0:Int) (0:Int) []/\im p k e s=6:=by
 refine a1C ?_ (by decide);have e1:HX e s.path=dN e s.path:=by unfold HX;rw[h.r.n];rfl
 rw[h.r.c,h.i,<-h.x,<-e1,h2];rfl
def DV.go{p:aj}{k:Int}{e:J}{s:ae}{x y:J}(h:DV p k e s x y)(h2:bC (HX e s.path) x=true):jO p k e s=Bm p.sig e s.path y/\im p k e s=p9 p.sig e s.path y:=by
 have e1:HX e s.path=dN e s.path:=by unfold HX;rw[h.r.n];rfl
 have c:im p k e s=p9 p.sig e s.path y:=by rw[h.r.c,h.i,<-h.x,<-e1,h2,h.y];rfl
 refine⟨?_,c⟩;unfold jO;rw[c,<-h.y];unfold Bm p9;cases er e s.path<;>cases p7 e s.path<;>cases bh y<;>cases bW p.sig (fS y e s.path)<;>rfl
def DV.c4{p:aj}{k:Int}{e:J}{s:ae}{x y:J}(h:DV p k e s x y)(h2:bC (HX e s.path) x=true)(h3:Fa e s.path=true)(h4:bh y=false):jO p k e s=J.mk (0:Int) (0:Int) []/\im p k e s=4:=by
 have g:=h.go h2;have g2:=a4t (gg:=p.sig) (y:=y) h.r.n h3 h4;rw[g.1,g.2];exact g2
def DV.sz{p:aj}{k:Int}{e:J}{s:ae}{x y:J}(h:DV p k e s x y):av y<=1048576:=by
 have:=h.i;rw[V4,Bool.and_eq_true] at this;refine rl p.sig y ?_;rw[h.y];unfold V5;cases s.back
 .exact this.2
 .exact this.1
def KZ:aH.Good iG:=wu.plain
def kE:aH:=⟨rW,[.v (.st .proof), .v (.int .i64), .v (.st .expr), .v (.st .proofStep)],λ (p:aj) (k:Int) (e:J) (s:ae)=>⟨(some (Ru p k e s),[⟨(.st .expr),jO p k e s⟩,⟨(.int .i64),im p k e s⟩])⟩⟩
def NV(p:aj)(k:Int)(e:J)(s:ae):Nat->aE:=λ _ => .none
abbrev wa(p:aj)(k:Int)(e:J)(s:ae):Prop:=(let v0:=aJ (gn p.sig (aJ (dt p k s.use).left) s.az s.bf);(s.path.length<=140737488355328 ->
 ((av e<=1048576/\av v0<=1048576/\s.path.length<=1000)/\(O (p9 p.sig e s.path v0) ->
 ((aJ (Bm p.sig e s.path v0))=(jO p k e s)/\(p9 p.sig e s.path v0)=(im p k e s))))))
abbrev wb(p:aj)(k:Int)(e:J)(s:ae):Prop:=(let v0:=aJ (gn p.sig (aJ (dt p k s.use).right) s.az s.bf);(s.path.length<=140737488355328 ->
 ((av e<=1048576/\av v0<=1048576/\s.path.length<=1000)/\(O (p9 p.sig e s.path v0) ->
 ((aJ (Bm p.sig e s.path v0))=(jO p k e s)/\(p9 p.sig e s.path v0)=(im p k e s))))))
abbrev we(p:aj)(k:Int)(e:J)(s:ae):Prop:=(let v0:=aJ (gn p.sig (aJ (dt p k s.use).right) s.az s.bf);let v1:=aJ (gn p.sig (aJ (dt p k s.use).left) s.az s.bf);let v2:=zE=(jO p k e s)/\(4:Int)=(im p k e s);let v3:=aJ (HX e s.path);let v4:=zE=(jO p k e s)/\(6:Int)=(im p k e s);let v5:=Fa e s.path;((s.back=true ->
 (((!(bC v3 v0))=true ->
 v4)/\((!(bC v3 v0))=false ->
 ((v5=true ->
 (((!(bh v1))=true ->
 v2)/\((!(bh v1))=false ->
 (wa p k e s))))/\(v5=(!true) ->
 ((false=true ->
 v2)/\(false=false ->
 (wa p k e s))))))))/\(s.back=false ->
 (((!(bC v3 v1))=true ->
 v4)/\((!(bC v3 v1))=false ->
 ((v5=true ->
 (((!(bh v0))=true ->
 v2)/\((!(bh v0))=false ->
 (wb p k e s))))/\(v5=(!true) ->
 ((false=true ->
 v2)/\(false=false ->
 (wb p k e s))))))))))
abbrev wg(p:aj)(k:Int)(e:J)(s:ae):Prop:=(let v2:=dt p k s.use;let v1:=mA p.sig (aJ v2.left) s.az s.bf;let v3:=zE=(jO p k e s)/\(3:Int)=(im p k e s);let v4:=aJ v2.right;let v0:=mA p.sig v4 s.az s.bf;(s.az.length<=140737488355328 ->
 (s.bf.length<=140737488355328 ->
 ((eV s.az s.bf (aJ v2.left)/\bc 62 62 (aJ v2.left)=true/\Ig s.az s.bf/\s.az.length<=1000/\s.bf.length<=1000)/\(O v1 ->
 (s.az.length<=140737488355328 ->
 (s.bf.length<=140737488355328 ->
 ((eV s.az s.bf v4/\bc 62 62 v4=true/\Ig s.az s.bf/\s.az.length<=1000/\s.bf.length<=1000)/\(O v0 ->
 (((!(decide (v1=(0:Int))))=false ->
 (((!(decide (v0=(0:Int))))=true ->
 v3)/\((!(decide (v0=(0:Int))))=false ->
 (we p k e s))))/\((!(decide (v1=(0:Int))))=(!false) ->
 ((true=true ->
 v3)/\(true=false ->
 (we p k e s))))))))))))))
abbrev wh(p:aj)(k:Int)(e:J)(s:ae):Prop:=(let v1:=jU (dt p k s.use);let v0:=bM [v1.left,v1.right];let v2:=zE=(jO p k e s)/\(2:Int)=(im p k e s);let v3 := !(decide ((v0.1)=((s.az.length:Int))));let v4 := !(decide ((v0.2)=((s.bf.length:Int))));((bc 62 62 v1.left=true/\bc 62 62 v1.right=true)/\(O (v0.1) ->
 (O (v0.2) ->
 (s.az.length<=140737488355328 ->
 (O ((s.az.length:Int)) ->
 ((v3=false ->
 (s.bf.length<=140737488355328 ->
 (O ((s.bf.length:Int)) ->
 ((v4=true ->
 v2)/\(v4=false ->
 (wg p k e s))))))/\(v3=(!false) ->
 ((true=true ->
 v2)/\(true=false ->
 (wg p k e s)))))))))))
def LD(hE:aC [AU,rH,rG,iG,jy,gp])(hO:cO [pP])(hM:cT [])(hS:cR []):aH.bX kE:=by
 refine⟨au zA rfl (by decide),?_⟩;show ∀ (p:aj) (k:Int) (e:J) (s:ae),(Ru p k e s)->cY prog rW [.val ⟨(.st .proof),p⟩, .val ⟨(.int .i64),k⟩, .val ⟨(.st .expr),e⟩, .val ⟨(.st .proofStep),s⟩] [⟨(.st .expr),jO p k e s⟩,⟨(.int .i64),im p k e s⟩];intro p k e s hp;refine cj (own:=[115]) (wr:=[]) (cl:=[]) (ro:=[4,6,7]) hE hO hM hS zA Iv (NV p k e s) (let v0:=zE=(jO p k e s)/\(2:Int)=(im p k e s);((O s.use->((s.use<=23 /\ -40<=s.use/\0<=k/\k<=(p.ai.length:Int))/\(s.path.length<=140737488355328->(((!(qH k s.use))=false->(((!(er e s.path))=true->v0)/\((!(er e s.path))=false->(wh p k e s))))/\((!(qH k s.use))=(!false)->((true=true->v0)/\(true=false->(wh p k e s)))))))))) (by kernel_rfl) ?_;refine λ _=>⟨?_,λ _=>⟨λ _=>⟨λ _=>⟨?_,?_⟩,λ _=>⟨?_,λ _ _ _ _=>⟨λ _ _ _=>⟨λ _=>⟨?_,?_⟩,λ _ _ _=>⟨?_,λ _ _ _=>⟨?_,λ _=>⟨λ _=>⟨λ _=>⟨?_,?_⟩,λ _=>⟨λ _=>⟨λ _=>⟨?_,?_⟩,λ _=>⟨λ _=>⟨λ _=>⟨?_,?_⟩,λ _ _=>⟨?_,λ _=>⟨?_,?_⟩⟩⟩,λ _=>⟨λ _=>⟨?_,?_⟩,λ _ _=>⟨?_,λ _=>⟨?_,?_⟩⟩⟩⟩⟩,λ _=>⟨λ _=>⟨?_,?_⟩,λ _=>⟨λ _=>⟨λ _=>⟨?_,?_⟩,λ _ _=>⟨?_,λ _=>⟨?_,?_⟩⟩⟩,λ _=>⟨λ _=>⟨?_,?_⟩,λ _ _=>⟨?_,λ _=>⟨?_,?_⟩⟩⟩⟩⟩⟩⟩,λ _=>⟨λ _=>⟨?_,?_⟩,λ _=>⟨λ _=>⟨λ _=>⟨?_,?_⟩,λ _=>⟨λ _=>⟨λ _=>⟨?_,?_⟩,λ _ _=>⟨?_,λ _=>⟨?_,?_⟩⟩⟩,λ _=>⟨λ _=>⟨?_,?_⟩,λ _ _=>⟨?_,λ _=>⟨?_,?_⟩⟩⟩⟩⟩,λ _=>⟨λ _=>⟨?_,?_⟩,λ _=>⟨λ _=>⟨λ _=>⟨?_,?_⟩,λ _ _=>⟨?_,λ _=>⟨?_,?_⟩⟩⟩,λ _=>⟨λ _=>⟨?_,?_⟩,λ _ _=>⟨?_,λ _=>⟨?_,?_⟩⟩⟩⟩⟩⟩⟩⟩⟩⟩⟩,λ _=>⟨λ _=>⟨?_,?_⟩,λ _ _ _=>⟨?_,λ _ _ _=>⟨?_,λ _=>⟨λ _=>⟨λ _=>⟨?_,?_⟩,λ _=>⟨λ _=>⟨λ _=>⟨?_,?_⟩,λ _=>⟨λ _=>⟨λ _=>⟨?_,?_⟩,λ _ _=>⟨?_,λ _=>⟨?_,?_⟩⟩⟩,λ _=>⟨λ _=>⟨?_,?_⟩,λ _ _=>⟨?_,λ _=>⟨?_,?_⟩⟩⟩⟩⟩,λ _=>⟨λ _=>⟨?_,?_⟩,λ _=>⟨λ _=>⟨λ _=>⟨?_,?_⟩,λ _ _=>⟨?_,λ _=>⟨?_,?_⟩⟩⟩,λ _=>⟨λ _=>⟨?_,?_⟩,λ _ _=>⟨?_,λ _=>⟨?_,?_⟩⟩⟩⟩⟩⟩⟩,λ _=>⟨λ _=>⟨?_,?_⟩,λ _=>⟨λ _=>⟨λ _=>⟨?_,?_⟩,λ _=>⟨λ _=>⟨λ _=>⟨?_,?_⟩,λ _ _=>⟨?_,λ _=>⟨?_,?_⟩⟩⟩,λ _=>⟨λ _=>⟨?_,?_⟩,λ _ _=>⟨?_,λ _=>⟨?_,?_⟩⟩⟩⟩⟩,λ _=>⟨λ _=>⟨?_,?_⟩,λ _=>⟨λ _=>⟨λ _=>⟨?_,?_⟩,λ _ _=>⟨?_,λ _=>⟨?_,?_⟩⟩⟩,λ _=>⟨λ _=>⟨?_,?_⟩,λ _ _=>⟨?_,λ _=>⟨?_,?_⟩⟩⟩⟩⟩⟩⟩⟩⟩⟩⟩⟩⟩⟩,λ _=>⟨λ _=>⟨?_,?_⟩,λ _=>⟨?_,λ _ _ _ _=>⟨λ _ _ _=>⟨λ _=>⟨?_,?_⟩,λ _ _ _=>⟨?_,λ _ _ _=>⟨?_,λ _=>⟨λ _=>⟨λ _=>⟨?_,?_⟩,λ _=>⟨λ _=>⟨λ _=>⟨?_,?_⟩,λ _=>⟨λ _=>⟨λ _=>⟨?_,?_⟩,λ _ _=>⟨?_,λ _=>⟨?_,?_⟩⟩⟩,λ _=>⟨λ _=>⟨?_,?_⟩,λ _ _=>⟨?_,λ _=>⟨?_,?_⟩⟩⟩⟩⟩,λ _=>⟨λ _=>⟨?_,?_⟩,λ _=>⟨λ _=>⟨λ _=>⟨?_,?_⟩,λ _ _=>⟨?_,λ _=>⟨?_,?_⟩⟩⟩,λ _=>⟨λ _=>⟨?_,?_⟩,λ _ _=>⟨?_,λ _=>⟨?_,?_⟩⟩⟩⟩⟩⟩⟩,λ _=>⟨λ _=>⟨?_,?_⟩,λ _=>⟨λ _=>⟨λ _=>⟨?_,?_⟩,λ _=>⟨λ _=>⟨λ _=>⟨?_,?_⟩,λ _ _=>⟨?_,λ _=>⟨?_,?_⟩⟩⟩,λ _=>⟨λ _=>⟨?_,?_⟩,λ _ _=>⟨?_,λ _=>⟨?_,?_⟩⟩⟩⟩⟩,λ _=>⟨λ _=>⟨?_,?_⟩,λ _=>⟨λ _=>⟨λ _=>⟨?_,?_⟩,λ _ _=>⟨?_,λ _=>⟨?_,?_⟩⟩⟩,λ _=>⟨λ _=>⟨?_,?_⟩,λ _ _=>⟨?_,λ _=>⟨?_,?_⟩⟩⟩⟩⟩⟩⟩⟩⟩⟩⟩,λ _=>⟨λ _=>⟨?_,?_⟩,λ _ _ _=>⟨?_,λ _ _ _=>⟨?_,λ _=>⟨λ _=>⟨λ _=>⟨?_,?_⟩,λ _=>⟨λ _=>⟨λ _=>⟨?_,?_⟩,λ _=>⟨λ _=>⟨λ _=>⟨?_,?_⟩,λ _ _=>⟨?_,λ _=>⟨?_,?_⟩⟩⟩,λ _=>⟨λ _=>⟨?_,?_⟩,λ _ _=>⟨?_,λ _=>⟨?_,?_⟩⟩⟩⟩⟩,λ _=>⟨λ _=>⟨?_,?_⟩,λ _=>⟨λ _=>⟨λ _=>⟨?_,?_⟩,λ _ _=>⟨?_,λ _=>⟨?_,?_⟩⟩⟩,λ _=>⟨λ _=>⟨?_,?_⟩,λ _ _=>⟨?_,λ _=>⟨?_,?_⟩⟩⟩⟩⟩⟩⟩,λ _=>⟨λ _=>⟨?_,?_⟩,λ _=>⟨λ _=>⟨λ _=>⟨?_,?_⟩,λ _=>⟨λ _=>⟨λ _=>⟨?_,?_⟩,λ _ _=>⟨?_,λ _=>⟨?_,?_⟩⟩⟩,λ _=>⟨λ _=>⟨?_,?_⟩,λ _ _=>⟨?_,λ _=>⟨?_,?_⟩⟩⟩⟩⟩,λ _=>⟨λ _=>⟨?_,?_⟩,λ _=>⟨λ _=>⟨λ _=>⟨?_,?_⟩,λ _ _=>⟨?_,λ _=>⟨?_,?_⟩⟩⟩,λ _=>⟨λ _=>⟨?_,?_⟩,λ _ _=>⟨?_,λ _=>⟨?_,?_⟩⟩⟩⟩⟩⟩⟩⟩⟩⟩⟩⟩⟩⟩⟩⟩;all_goals try and_intros
 all_goals try (first|with_reducible rfl|with_reducible assumption)
 all_goals try simp only[J.eta,ag.eta,ar.eta,aK,br,bG] at *
 all_goals first|with_reducible rfl|with_reducible assumption|exact True.intro|(simp only[b3M,b3L,b3K,b3I] at *;done)|((try simp only[b4i,J.eta,b3E,b3D,b3K,b3I,b3S,b4f,ak,O,aY,b3U,b3P,b4b,b3Y,b4e] at *);first|exact True.intro|omega|exact hp.u.1.1|exact hp.u.1.2|exact hp.k0|exact hp.k1|exact hp.fl|(have:=hp.u;omega)|exact rl _ _ hp.e|exact (J5 hp.v hp.k1 hp.u.1.2 (by with_reducible assumption)).1|exact (J5 hp.v hp.k1 hp.u.1.2 (by with_reducible assumption)).2|((first|have Q:=a4G (p:=p) (k:=k) (e:=e) (s:=s) (.inl (by with_reducible assumption))|have Q:=a4G (p:=p) (k:=k) (e:=e) (s:=s) (.inr (by with_reducible assumption))|have Q:=a4H (p:=p) (k:=k) (e:=e) (s:=s) (a6P (by omega))|have Q:=a4H (p:=p) (k:=k) (e:=e) (s:=s) (a6Q (by omega)));first|exact Q.1|exact Q.2|exact Q.1.symm|exact Q.2.symm)|(have A:BD p k e s:=⟨(by with_reducible assumption),(by with_reducible assumption),by omega,by omega⟩;first|exact (EB A.t A.a).1|exact (EB A.t A.a).2|((first|have Q:=(A.c3 (.inl (by with_reducible assumption)))|have Q:=(A.c3 (.inr (by with_reducible assumption))));first|exact Q.1|exact Q.2|exact Q.1.symm|exact Q.2.symm)|(have B:=A.s1 (by with_reducible assumption) (by with_reducible assumption) (by with_reducible assumption);first|exact B.sz|((first|have Q:=(B.c6 (by with_reducible assumption))|have Q:=(B.c4 (by with_reducible assumption) (by with_reducible assumption) (by with_reducible assumption))|have Q:=(B.go (by with_reducible assumption)));first|exact Q.1|exact Q.2|exact Q.1.symm|exact Q.2.symm))|(have B:=A.s0 (by with_reducible assumption) (by with_reducible assumption) (by with_reducible assumption);first|exact B.sz|((first|have Q:=(B.c6 (by with_reducible assumption))|have Q:=(B.c4 (by with_reducible assumption) (by with_reducible assumption) (by with_reducible assumption))|have Q:=(B.go (by with_reducible assumption)));first|exact Q.1|exact Q.2|exact Q.1.symm|exact Q.2.symm)))|exact (EB (by omega) (by omega)).1|exact (EB (by omega) (by omega)).2)
def HY:aH.bX kE:=LD ⟨PO,Cl,Ck,KZ,jh,gA,U⟩ ⟨H2,U⟩ trivial trivial
end
end Go.Proofs.YtmjfpcajohhbeaaGreatDoor

set_option maxRecDepth 4000
set_option maxHeartbeats 4000000
namespace Go.Proofs.YtmjfpcajohhbeaaGreatDoor
noncomputable section
structure InQ(c f:ag):Prop where
 c1:bc 62 62 c.left=true
 f1:bc 62 62 f.left=true
 f2:bc 62 62 f.right=true
abbrev fQ(f:ag):ar:=ar.mk f.left f.right
def InQ.x{c f:ag}(h:InQ c f)(h2:qa (ar.mk f.left f.right)=true)(h3:(Bs (ar.mk f.left f.right)).aq=7):(Bs (ar.mk f.left f.right)).M.length=2:=by
 have e:=(Rf h2).2.1;rw[e] at h3 ⊢;unfold qa at h2;simp only[Bool.and_eq_true,decide_eq_true_eq] at h2;exact Kw ((Yw (q:=fQ f) h.f1 h2.1.1).2.2 h2.1.2).2 (.inr h3)
def in_1{c f:ag}(h:qa (ar.mk f.left f.right)=false):vU c f=false:=by unfold vU;rw[h];rfl
def b0f{c f:ag}(h:¬ (Bs (ar.mk f.left f.right)).aq=7):vU c f=false:=by unfold vU;rw[decide_eq_false h,Bool.and_false];rfl
def b2H{c f:ag}(h:qa (ar.mk f.left f.right)=true)(h3:(Bs (ar.mk f.left f.right)).aq=7)(h2:c.bp=2):vU c f=(bC ((Bs (ar.mk f.left f.right)).M.getD 1 zE) (LL (ar.mk f.left f.right))&&(bC c.left (J.mk 6 0 [J.mk 7 0 [J.mk 8 0 [(Bs (ar.mk f.left f.right)).M.getD 0 zE],Tr (ar.mk f.left f.right)],LL (ar.mk f.left f.right)])&&bC c.right (LL (ar.mk f.left f.right)))):=by
 have e:=(Rf h).2.2;unfold vU a5d inW;rw[h,decide_eq_true h3,if_pos h2,if_pos h2,e];simp only[Bool.true_and,Bool.and_assoc]
def b2I{c f:ag}(h:qa (ar.mk f.left f.right)=true)(h3:(Bs (ar.mk f.left f.right)).aq=7)(h2:¬ c.bp=2):vU c f=(bC ((Bs (ar.mk f.left f.right)).M.getD 0 zE) (LL (ar.mk f.left f.right))&&(bC c.left (J.mk 6 0 [J.mk 7 0 [Tr (ar.mk f.left f.right),J.mk 8 0 [(Bs (ar.mk f.left f.right)).M.getD 1 zE]],LL (ar.mk f.left f.right)])&&bC c.right (LL (ar.mk f.left f.right)))):=by
 have e:=(Rf h).2.2;unfold vU a5d inW;rw[h,decide_eq_true h3,if_neg h2,if_neg h2,e];simp only[Bool.true_and,Bool.and_assoc]
def tB:aH:=⟨ui,[.v (.st .claim), .v (.st .claim)],λ (c:ag) (f:ag)=>⟨(some (InQ c f),[⟨.bool,vU c f⟩])⟩⟩
def Sj(c:ag)(f:ag):Nat->aE:=λ _ => .none
abbrev AH(c:ag)(f:ag):Prop:=((false=true ->
 (bC c.right (aJ (LL (ar.mk (aJ f.left) (aJ f.right)))))=(vU c f))/\(false=(!true) ->
 false=(vU c f)))
abbrev AI(c:ag)(f:ag):Prop:=(let v0:=ar.mk (aJ f.left) (aJ f.right);let v3:=aJ (LL v0);let v4:=Bs v0;let v5:=v4.M.getD 1 zE;let v2:=bC c.left (J.mk (6:Int) 0 ([(aJ (J.mk (7:Int) 0 ([(aJ (Tr v0)),(J.mk (8:Int) 0 ([v5]))]))),v3]));let v6:=v4.M.getD 0 zE;let v1:=bC c.left (J.mk (6:Int) 0 ([(aJ (J.mk (7:Int) 0 ([(J.mk (8:Int) 0 ([v6])),(aJ (Tr v0))]))),v3]));(O c.bp ->
 (((decide (c.bp=(2:Int)))=true ->
 (ak (1:Int) v4.M.length/\(v4.M.length<=140737488355328 ->
 (ak (0:Int) v4.M.length/\(v4.M.length<=140737488355328 ->
 (((bC v5 v3)=true ->
 ((v1=true ->
 (bC c.right v3)=(vU c f))/\(v1=(!true) ->
 false=(vU c f))))/\((bC v5 v3)=(!true) ->
 (AH c f))))))))/\((decide (c.bp=(2:Int)))=false ->
 (ak (0:Int) v4.M.length/\(v4.M.length<=140737488355328 ->
 (ak (1:Int) v4.M.length/\(v4.M.length<=140737488355328 ->
 (((bC v6 v3)=true ->
 ((v2=true ->
 (bC c.right v3)=(vU c f))/\(v2=(!true) ->
 false=(vU c f))))/\((bC v6 v3)=(!true) ->
 (AH c f)))))))))))
def QJ(hE:aC [xy,zc,jy]):aH.Good tB:=by
 refine⟨au B2 rfl (by decide),?_⟩;show ∀ (c:ag) (f:ag),(InQ c f)->bd prog ui [.val ⟨(.st .claim),c⟩, .val ⟨(.st .claim),f⟩] (·=[⟨.bool,vU c f⟩]);intro c f hp;refine aU (wr:=[]) (cl:=[]) (ro:=[2,3,42,45,58,60,68]) hE B2 KG (Sj c f) (let v0:=ar.mk (aJ f.left) (aJ f.right);let v1 := !(decide ((Bs v0).aq=(7:Int)));((bc 62 62 v0.left=true/\(((!(qa v0))=false->(O (Bs v0).aq->((v1=true->false=(vU c f))/\(v1=false->(AI c f)))))/\((!(qa v0))=(!false)->((true=true->false=(vU c f))/\(true=false->(AI c f)))))))) (by kernel_rfl) ?_;refine⟨?_,λ _ _=>⟨λ _=>?_,λ _ _=>⟨λ _=>⟨?_,λ _=>⟨?_,λ _=>⟨λ _=>⟨λ _=>?_,λ _=>?_⟩,λ _=>⟨λ _=>?_,λ _=>?_⟩⟩⟩⟩,λ _=>⟨?_,λ _=>⟨?_,λ _=>⟨λ _=>⟨λ _=>?_,λ _=>?_⟩,λ _=>⟨λ _=>?_,λ _=>?_⟩⟩⟩⟩⟩⟩,λ _=>⟨λ _=>?_,λ _ _=>⟨λ _=>⟨?_,λ _=>⟨?_,λ _=>⟨λ _=>⟨λ _=>?_,λ _=>?_⟩,λ _=>⟨λ _=>?_,λ _=>?_⟩⟩⟩⟩,λ _=>⟨?_,λ _=>⟨?_,λ _=>⟨λ _=>⟨λ _=>?_,λ _=>?_⟩,λ _=>⟨λ _=>?_,λ _=>?_⟩⟩⟩⟩⟩⟩⟩;all_goals try and_intros
 all_goals try (first|with_reducible rfl|with_reducible assumption)
 all_goals try simp only[J.eta,ag.eta,ar.eta,aK,br,bG] at *
 all_goals first|with_reducible rfl|with_reducible assumption|exact True.intro|(simp only[b3M,b3L,b3K,b3I] at *;done)|((try simp only[b4i,J.eta,b3E,b3D,b3K,b3I,b3S,b4f,ak,O,aY,b3U,b3P,b4b,b3Y,b4e] at *);first|exact True.intro|omega|exact hp.f1|(have:=hp.x (by with_reducible assumption) (by with_reducible assumption);omega)|exact in_1 (by with_reducible assumption)|exact (in_1 (by with_reducible assumption)).symm|exact b0f (by with_reducible assumption)|exact (b0f (by with_reducible assumption)).symm|(rw[b2H (by with_reducible assumption) (by with_reducible assumption) (by with_reducible assumption)];simp only[*,b5o,b4T,b5c,b4Y];done)|(rw[b2I (by with_reducible assumption) (by with_reducible assumption) (by with_reducible assumption)];simp only[*,b5o,b4T,b5c,b4Y];done))
def KY:aH.Good tB:=QJ ⟨Na,Hb,jh,U⟩
def a6O{p:aj}{k:Int}{e:J}{s:ae}(h:im p k e s=0):bW p.sig (jO p k e s)=true:=by
 unfold jO;rw[if_pos h];unfold im at h;cases h1 : !(qH k s.use&&er e s.path)<;>rw[h1] at h
 .cases h2 : !apF (dt p k s.use) s<;>rw[h2] at h
  .cases h3 : !V4 p.sig (dt p k s.use) s<;>rw[h3] at h
   .cases h4 : !bC (dN e s.path) (apX (dt p k s.use) s)<;>rw[h4] at h
    .simp only[cond_false] at h;unfold p9 at h;cases h5:er e s.path<;>rw[h5] at h
     .cases h
     .cases h6:p7 e s.path && !bh (V5 (dt p k s.use) s)<;>rw[h6] at h
      .cases h7:bW p.sig (fS (V5 (dt p k s.use) s) e s.path)<;>rw[h7] at h;cases h
      .cases h
    .cases h
   .cases h
  .cases h
 .cases h
structure Hq(p:aj)(k:Int):Prop where
 v:sB p
 k0:0<=k
 k1:k<(p.ai.length:Int)
def Hq.b{p:aj}{k:Int}(h:Hq p k):bW p.sig (bJ p k).left=true/\bW p.sig (bJ p k).right=true/\(1<=(bJ p k).bp/\(bJ p k).bp<=3)/\(0<=(bJ p k).ref/\(bJ p k).ref<=39)/\(bJ p k).steps.length<=60/\bg (mb p.sig) (bJ p k).steps=true:=h.v.e h.k0 h.k1
def Pr(p:aj)(i:Int):p.ai.getD i.toNat (ag.mk zE zE (0:Int) (0:Int) [])=bJ p i:=rfl
structure D0(p:aj)(k:Int)(j:Nat):Prop where
 h:Hq p k
 r:(bJ p k).bp=1
 jl:j<=(bJ p k).steps.length
 o:rnO p k j=true
 e:bW p.sig (ma p k j)=true
def JZ{p:aj}{k:Int}(h:¬ (bJ p k).bp=1):jf p k=(decide ((bJ p k).ref<k)&&vU (bJ p k) (bJ p (bJ p k).ref)):=by unfold jf;rw[if_neg h]
def Hq.i{p:aj}{k:Int}(h:Hq p k)(h2:(bJ p k).ref<k):InQ (bJ p k) (bJ p (bJ p k).ref)/\0<=(bJ p k).ref/\(bJ p k).ref<(p.ai.length:Int):=by
 have b:=h.b.2.2.2.1;have:=h.k1;exact⟨⟨(h.v.t h.k0 h.k1).1,(h.v.t (i:=(bJ p k).ref) b.1 (by omega)).1,(h.v.t (i:=(bJ p k).ref) b.1 (by omega)).2⟩,b.1,by omega⟩
def Hq.z{p:aj}{k:Int}(h:Hq p k)(h2:(bJ p k).bp=1):D0 p k 0:=⟨h,h2,b4O _,rfl,h.b.1⟩
def a2R{p:aj}{k:Int}{j:Nat}(h:rnO p k (j+1)=false):∀ n,j<n->rnO p k n=false
 | 0,hn=>by omega
 | n+1,hn=>by
  rcases b4J j n with g|g
  .rw[rnO,a2R h n g];rfl
  .have:j=n:=by omega
   subst this;exact h
def D0.ap{p:aj}{k:Int}{j:Nat}(h:D0 p k j)(hj:j<(bJ p k).steps.length):Ru p k (ma p k j) ((bJ p k).steps.getD j (ae.mk (0:Int) false [] [] [])) :=
 ⟨h.h.v,h.h.k0,by have:=h.h.k1;omega,h.e,Mu _ _ _ _ h.h.b.2.2.2.2.2 hj⟩
def D0.no{p:aj}{k:Int}{j:Nat}(h:D0 p k j)(hj:j<(bJ p k).steps.length)(hc:¬ im p k (ma p k j) ((bJ p k).steps.getD j (ae.mk (0:Int) false [] [] []))=0):jf p k=false:=by
 unfold jf;rw[if_pos h.r,a2R (j:=j) (by rw[rnO,decide_eq_false hc,Bool.and_false]) _ hj];rfl
def D0.next{p:aj}{k:Int}{j:Nat}(h:D0 p k j)(hj:j<(bJ p k).steps.length)(hc:im p k (ma p k j) ((bJ p k).steps.getD j (ae.mk (0:Int) false [] [] []))=0):D0 p k (j+1) :=
 ⟨h.h,h.r,hj,by rw[rnO,h.o,b4l hc];rfl,by rw[ma];exact a6O hc⟩
def D0.end{p:aj}{k:Int}{j:Nat}(h:D0 p k j)(hj:(bJ p k).steps.length<=j):jf p k=bC (ma p k j) (bJ p k).right:=by
 have:(bJ p k).steps.length=j:=by have:=h.jl;omega
 unfold jf;rw[if_pos h.r,this,h.o];rfl
def b0i(p:aj)(k:Int):ma p k 0=(bJ p k).left:=rfl
def a5s(p:aj)(k:Int)(j:Nat):ma p k (j+1)=jO p k (ma p k j) ((bJ p k).steps.getD j (ae.mk (0:Int) false [] [] [])):=rfl
structure zw(p:aj)(k:Nat):Prop where
 v:sB p
 kl:k<=p.ai.length
 a:Zq (λ k=>jf p (k:Int)) k=true
def zw.zero{p:aj}(h:sB p):zw p 0:=⟨h,b4O _,rfl⟩
def zw.sh{p:aj}{k:Nat}(h:zw p k)(hk:k<p.ai.length):Hq p (k:Int):=⟨h.v,by omega,by omega⟩
def zw.next{p:aj}{k:Nat}(h:zw p k)(hk:k<p.ai.length)(hb:jf p (k:Int)=true):zw p (k+1):=⟨h.v,hk,by rw[Zq,h.a,hb];rfl⟩
def zw.no{p:aj}{k:Nat}(h:zw p k)(hk:k<p.ai.length)(hb:jf p (k:Int)=false):(zR p:Int)=(k:Int):=by
 unfold zR;rw[a4V (λ k=>jf p (k:Int)) k h.a hb _ hk]
def zw.end{p:aj}{k:Nat}(h:zw p k)(hk:p.ai.length<=k):(zR p:Int)=(p.ai.length:Int):=by
 have:k=p.ai.length:=by have:=h.kl;omega
 subst this;unfold zR;rw[WM (λ k=>jf p (k:Int)) _ h.a]
def IV:aH.Good kE:=HY.plain
def xx:aH:=⟨x7,[.v (.st .proof), .v (.int .i64)],λ (p:aj) (k:Int)=>⟨(some (Hq p k),[⟨.bool,jf p k⟩])⟩⟩
def UI(p:aj)(k:Int):Nat->aE:=(λ zb=>if Nat.beq zb 0 then .mk (Nat) (λ j=>D0 p k j) (λ j=>(bJ p k).steps.length - j) [] [0,11,12,13,14,15,16,17,18,33,34,35] (λ j=>[(38, .aI ⟨(.int .i64),((j:Int):Int)⟩)]) [5] (λ j=>[(6, .box [.aI ⟨(.int .i64),((ma p k j).aq:Int)⟩, .aI ⟨(.int .i64),((ma p k j).aM:Int)⟩, .aI ⟨(.slice (.st .expr)),((ma p k j).M:List J)⟩])]) [] [] (λ j=>λ _ => .none) else .none)
abbrev Cu(p:aj)(k:Int):Prop:=(let v0:=p.ai.getD (Int.toNat k) (ag.mk zE zE (0:Int) (0:Int) []);((v0.left.aq=v0.left.aq/\(v0.left.aM=v0.left.aM/\(v0.left.M=v0.left.M/\(v0.right.aq=v0.right.aq/\(v0.right.aM=v0.right.aM/\(v0.right.M=v0.right.M/\(v0.bp=v0.bp/\(v0.ref=v0.ref/\(v0.steps=v0.steps/\True)))))))))/\True))
def SO(hE:aC [tB,kE,jy]):aH.Good xx:=by
 refine⟨au D6 rfl (by decide),?_⟩;show ∀ (p:aj) (k:Int),(Hq p k)->bd prog x7 [.val ⟨(.st .proof),p⟩, .val ⟨(.int .i64),k⟩] (·=[⟨.bool,jf p k⟩]);intro p k hp;refine aU (wr:=[]) (cl:=[]) (ro:=[2]) hE D6 My (UI p k) (let v6:=(0:Int);let v1:=ae.mk v6 false [] [] [];let v3:=ag.mk zE zE v6 v6 [];let v0:=p.ai.getD (Int.toNat k) v3;let v2:=(v0.steps.length:Int);let v4:=p.ai.getD (Int.toNat v0.ref) v3;let v5 := !(decide (v0.bp=(1:Int)));((p.ai.length<=140737488355328->(ak k p.ai.length/\(O v0.bp->((v5=true->(((decide (v0.ref<k))=true->(ak v0.ref p.ai.length/\(O v0.ref->(p.ai.length<=140737488355328->(O v0.ref->(InQ (oG v0) v4/\(vU (oG v0) v4)=(jf p k)))))))/\((decide (v0.ref<k))=(!true)->(O v0.ref->false=(jf p k)))))/\(v5=false->(v0.steps.length<=140737488355328->(O v2->((∃ j1:Nat,(D0 p k j1/\((k=k/\(p=p/\(True/\(True/\(v0.steps=v0.steps/\(v2=v2/\(v6=(j1:Int)/\True)))))))/\((v0.left.aq=((ma p k j1).aq)/\(v0.left.aM=((ma p k j1).aM)/\(v0.left.M=((ma p k j1).M)/\True)))/\(Cu p k)))))/\(∀ j1:Nat,let v7:=J.mk ((ma p k j1).aq) ((ma p k j1).aM) ((ma p k j1).M);let v8:=v0.steps.getD j1 v1;let v9 := !(decide ((im p k v7 v8)=v6));(D0 p k j1->(((decide ((j1:Int)<v2))=true->(ak (j1:Int) v0.steps.length/\(Ru p k v7 v8/\(O (im p k v7 v8)->((v9=true->false=(jf p k))/\(v9=false->(O ((j1:Int)+(1:Int))/\(∃ j2:Nat,(D0 p k j2/\((bJ p k).steps.length - j2<(bJ p k).steps.length - j1/\((k=k/\(p=p/\(True/\(True/\(v0.steps=v0.steps/\(v2=v2/\(((j1:Int)+(1:Int))=(j2:Int)/\True)))))))/\(((jO p k v7 v8).aq=((ma p k j2).aq)/\((jO p k v7 v8).aM=((ma p k j2).aM)/\((jO p k v7 v8).M=((ma p k j2).M)/\True)))/\(Cu p k)))))))))))))/\((decide ((j1:Int)<v2))=false->(bC v7 (aJ v0.right))=(jf p k))))))))))))))) (by kernel_rfl) ?_;refine λ _=>⟨?_,λ _=>⟨λ _=>⟨λ _=>⟨?_,λ _ _ _=>⟨?_,?_⟩⟩,λ _ _=>?_⟩,λ _ _ _=>⟨⟨0,?_,⟨rfl,rfl,U,U,rfl,rfl,?_,U⟩,⟨?_,?_,?_,U⟩,⟨rfl,rfl,rfl,rfl,rfl,rfl,rfl,rfl,rfl,U⟩,U⟩,λ j1 _=>⟨λ _=>⟨?_,?_,λ _=>⟨λ _=>?_,λ _=>⟨?_,j1+1,?_,?_,⟨rfl,rfl,U,U,rfl,rfl,?_,U⟩,⟨?_,?_,?_,U⟩,⟨rfl,rfl,rfl,rfl,rfl,rfl,rfl,rfl,rfl,U⟩,U⟩⟩⟩,λ _=>?_⟩⟩⟩⟩;all_goals try and_intros
 all_goals try (first|with_reducible rfl|with_reducible assumption)
 all_goals try simp only[J.eta,ag.eta,ar.eta,aK,br,bG] at *
 all_goals first|with_reducible rfl|with_reducible assumption|exact True.intro|(simp only[b3M,b3L,b3K,b3I] at *;done)|((try simp only[b4i,J.eta,b3E,b3D,b3K,b3I,b3S,b4f,ak,O,aY,b3U,b3P,b4b,b3Y,b4e] at *);(try simp only[Pr] at *);first|with_reducible exact True.intro|omega|(rw[b0i];done)|exact hp.k0|exact hp.k1|(have:=hp.k1;have:=hp.k0;omega)|exact (hp.i (by omega)).1|(have:=(hp.i (by omega)).2;omega)|exact hp.z (by with_reducible assumption)|exact hp.z (by omega)|(rw[JZ (by with_reducible assumption)];simp only[*,b5o,b4T,b5c,b4Y];done)|(rw[JZ (by with_reducible assumption),b4l (by omega),b4T];done)|(rw[JZ (by with_reducible assumption),b3Q (by omega),b4Y];done)|(have h:D0 p k j1:=(by with_reducible assumption);first|exact h.ap (by omega)|exact h.no (by omega) (by with_reducible assumption)|exact (h.no (by omega) (by with_reducible assumption)).symm|exact h.end (by omega)|exact (h.end (by omega)).symm|exact h.next (by omega) (by with_reducible assumption)|(rw[a5s];done)|exact congrArg _ (a5s _ _ _).symm|(have:=h.jl;omega)))
def M9:aH.Good xx:=SO ⟨KY,IV,jh,U⟩
def xv:aH:=⟨xZ,[.v (.st .proof)],λ (p:aj)=>⟨(some (sB p),[⟨(.int .i64),(zR p:Int)⟩])⟩⟩
def UG(p:aj):Nat->aE:=(λ zb=>if Nat.beq zb 0 then .mk (Nat) (λ k=>zw p k) (λ k=>p.ai.length - k) [] [0,4,5] (λ k=>[(7, .aI ⟨(.int .i64),((k:Int):Int)⟩)]) [] (λ k=>[]) [] [] (λ k=>λ _ => .none) else .none)
def SM(hE:aC [xx]):aH.Good xv:=by
 refine⟨au D4 rfl (by decide),?_⟩;show ∀ (p:aj),(sB p)->bd prog xZ [.val ⟨(.st .proof),p⟩] (·=[⟨(.int .i64),(zR p:Int)⟩]);intro p hp;refine aU (wr:=[]) (cl:=[]) (ro:=[1]) hE D4 Mw (UG p) (let v0:=(p.ai.length:Int);((p.ai.length<=140737488355328->(O v0->((∃ k1:Nat,(zw p k1/\((p=p/\(v0=v0/\((0:Int)=(k1:Int)/\True)))/\True)))/\(∀ k1:Nat,let v1:=(k1:Int);(zw p k1->(((decide (v1<v0))=true->(Hq p v1/\(((!(jf p v1))=true->v1=(zR p:Int))/\((!(jf p v1))=false->(O (v1+(1:Int))/\(∃ k2:Nat,(zw p k2/\(p.ai.length - k2<p.ai.length - k1/\((p=p/\(v0=v0/\((v1+(1:Int))=(k2:Int)/\True)))/\True)))))))))/\((decide (v1<v0))=false->(p.ai.length<=140737488355328->(O v0->v0=(zR p:Int)))))))))))) (by kernel_rfl) ?_;refine λ _ _=>⟨⟨0,?_,⟨rfl,rfl,?_,U⟩,U⟩,λ k1 _=>⟨λ _=>⟨?_,λ _=>?_,λ _=>⟨?_,k1+1,?_,?_,⟨rfl,rfl,?_,U⟩,U⟩⟩,λ _ _ _=>?_⟩⟩;all_goals try and_intros
 all_goals first|with_reducible rfl|with_reducible assumption|exact True.intro|(simp only[b3M,b3L,b3K,b3I] at *;done)|((try simp only[b4i,J.eta,b3E,b3D,b3K,b3I,b3S,b4f,ak,O,aY,b3U,b3P,b4b,b3Y,b4e] at *);first|exact True.intro|omega|exact zw.zero (by with_reducible assumption)|(have h:zw p k1:=(by with_reducible assumption);first|exact h.sh (by omega)|exact h.no (by omega) (by with_reducible assumption)|exact (h.no (by omega) (by with_reducible assumption)).symm|exact h.end (by omega)|exact (h.end (by omega)).symm|exact h.next (by omega) (by with_reducible assumption)|(have:=h.kl;omega)))
def M7:aH.Good xv:=SM ⟨M9,U⟩
end
end Go.Proofs.YtmjfpcajohhbeaaGreatDoor

set_option maxRecDepth 4000
set_option maxHeartbeats 4000000
namespace Go.Proofs.YtmjfpcajohhbeaaGreatDoor
noncomputable section
def QK{gg:aT}(h:bK gg=true)(x:J):Bl gg x=bW gg x:=by unfold Bl;rw[h];rfl
def b2G(x:Int):decide (0<=x/\x<=1)=vT 2 x:=rfl
def a3V(n m:Int):decide (n<=m) = !decide (m<n):=by
 by_cases h:n<=m
 .rw[b4l h,b3Q (by omega)];rfl
 .rw[b3Q h,b4l (by omega)];rfl
def stG(s:ae):Bool:=decide (-40<=s.use/\s.use<=23)&&(!decide (40<(s.path.length:Int))&&(!decide (3<(s.az.length:Int)) && !decide (4<(s.bf.length:Int))))
def a1r(gg:aT)(s:ae):mb gg s=(stG s&&(bg (vT 2) s.path&&(bg (bW gg) s.az&&(bg bh s.az&&bg (bW gg) s.bf)))):=by
 unfold mb stG;rw[a3V (s.path.length:Int) 40,a3V (s.az.length:Int) 3,a3V (s.bf.length:Int) 4];cases decide (-40<=s.use/\s.use<=23)<;>cases decide (40<(s.path.length:Int))<;>cases decide (3<(s.az.length:Int))<;>cases decide (4<(s.bf.length:Int))<;>cases bg (vT 2) s.path<;>cases bg (bW gg) s.az<;>cases bg bh s.az<;>cases bg (bW gg) s.bf<;>rfl
structure me{α:Type}(f:α->Bool)(xs:List α)(k:Nat):Prop where
 le:k<=xs.length
 al:bg f (xs.take k)=true
def me.zero{α:Type}(f:α->Bool)(xs:List α):me f xs 0:=⟨b4O _,all_zero f xs⟩
def me.next{α:Type}{f:α->Bool}{xs:List α}{k:Nat}(h:me f xs k)(z:α)(hk:k<xs.length)(hb:f (xs.getD k z)=true):me f xs (k+1):=⟨hk,by rw[dk f z xs k hk,h.al,hb];rfl⟩
def me.bad{α:Type}{f:α->Bool}{xs:List α}{k:Nat}(_:me f xs k)(z:α)(hk:k<xs.length)(hb:f (xs.getD k z)=false):bg f xs=false:=dL f z xs k hk hb
def me.done{α:Type}{f:α->Bool}{xs:List α}{k:Nat}(h:me f xs k)(hk:xs.length<=k):bg f xs=true:=by
 have:=h.al;rwa [b4a hk] at this
def ib:aH:=⟨lL,[.v (.slice (.st .expr))],λ (xs:List J)=>⟨(none,[⟨.bool,bg bh xs⟩])⟩⟩
def HS(xs:List J):Nat->aE:=(λ zb=>if Nat.beq zb 0 then .mk (Nat) (λ k=>me bh xs k) (λ k=>xs.length - k) [] [] (λ k=>[(3, .aI ⟨(.int .i64),((k:Int):Int)⟩)]) [] (λ k=>[]) [] [] (λ k=>λ _ => .none) else .none)
def GB(hE:aC [mI]):aH.Good ib:=by
 refine⟨au qN rfl (by decide),?_⟩;show ∀ (xs:List J),True->bd prog lL [.val ⟨(.slice (.st .expr)),xs⟩] (·=[⟨.bool,bg bh xs⟩]);intro xs _;refine aU (wr:=[]) (cl:=[]) (ro:=[]) hE qN Dd (HS xs) (let v0:=(xs.length:Int);(((∃ k1:Nat,(me bh xs k1/\((xs=xs/\((0:Int)=(k1:Int)/\True))/\True)))/\(∀ k1:Nat,(me bh xs k1->(O v0->(((decide ((k1:Int)<v0))=true->(ak (k1:Int) xs.length/\(((!(bh (xs.getD k1 zE)))=true->false=(bg bh xs))/\((!(bh (xs.getD k1 zE)))=false->(O ((k1:Int)+(1:Int))/\(∃ k2:Nat,(me bh xs k2/\(xs.length - k2<xs.length - k1/\((xs=xs/\(((k1:Int)+(1:Int))=(k2:Int)/\True))/\True)))))))))/\((decide ((k1:Int)<v0))=false->true=(bg bh xs))))))))) (by kernel_rfl) ?_;refine⟨⟨0,?_,⟨rfl,?_,U⟩,U⟩,λ k1 _ _=>⟨λ _=>⟨?_,λ _=>?_,λ _=>⟨?_,k1+1,?_,?_,⟨rfl,?_,U⟩,U⟩⟩,λ _=>?_⟩⟩;all_goals try and_intros
 all_goals first|with_reducible rfl|with_reducible assumption|exact True.intro|(simp only[b3M,b3L,b3K,b3I] at *;done)|((try simp only[b4i,J.eta,b3E,b3D,b3K,b3I,b3S,b4f,ak,O,aY,b3U,b3P,b4b,b3Y,b4e] at *);  first|with_reducible exact True.intro|omega|exact me.zero _ _|(have h:me bh xs k1:=(by with_reducible assumption);first|exact h.bad _ (by omega) (by with_reducible assumption)|exact (h.bad _ (by omega) (by with_reducible assumption)).symm|exact h.done (by omega)|exact (h.done (by omega)).symm|exact h.next _ (by omega) (by with_reducible assumption)|(have:=h.le;omega)))
def oJ:aH.Good ib:=GB ⟨jv,U⟩
def nB:aH:=⟨uz,[.v (.st .sig), .v (.slice (.st .expr))],λ (gg:aT) (xs:List J)=>⟨(some (bK gg=true),[⟨.bool,bg (bW gg) xs⟩])⟩⟩
def Sw(gg:aT)(xs:List J):Nat->aE:=(λ zb=>if Nat.beq zb 0 then .mk (Nat) (λ k=>me (bW gg) xs k) (λ k=>xs.length - k) [] [0] (λ k=>[(5, .aI ⟨(.int .i64),((k:Int):Int)⟩)]) [] (λ k=>[]) [] [] (λ k=>λ _ => .none) else .none)
def QW(hE:aC [oO]):aH.Good nB:=by
 refine⟨au Ce rfl (by decide),?_⟩;show ∀ (gg:aT) (xs:List J),(bK gg=true)->bd prog uz [.val ⟨(.st .sig),gg⟩, .val ⟨(.slice (.st .expr)),xs⟩] (·=[⟨.bool,bg (bW gg) xs⟩]);intro gg xs hp;refine aU (wr:=[]) (cl:=[]) (ro:=[2]) hE Ce KV (Sw gg xs) (let v0:=(xs.length:Int);(((∃ k1:Nat,(me (bW gg) xs k1/\((xs=xs/\(gg=gg/\((0:Int)=(k1:Int)/\True)))/\True)))/\(∀ k1:Nat,(me (bW gg) xs k1->(O v0->(((decide ((k1:Int)<v0))=true->(ak (k1:Int) xs.length/\(((!(Bl gg (xs.getD k1 zE)))=true->false=(bg (bW gg) xs))/\((!(Bl gg (xs.getD k1 zE)))=false->(O ((k1:Int)+(1:Int))/\(∃ k2:Nat,(me (bW gg) xs k2/\(xs.length - k2<xs.length - k1/\((xs=xs/\(gg=gg/\(((k1:Int)+(1:Int))=(k2:Int)/\True)))/\True)))))))))/\((decide ((k1:Int)<v0))=false->true=(bg (bW gg) xs))))))))) (by kernel_rfl) ?_;have ok:=QK hp;refine⟨⟨0,?_,⟨rfl,rfl,?_,U⟩,U⟩,λ k1 _ _=>⟨λ _=>⟨?_,λ _=>?_,λ _=>⟨?_,k1+1,?_,?_,⟨rfl,rfl,?_,U⟩,U⟩⟩,λ _=>?_⟩⟩;all_goals try and_intros
 all_goals first|with_reducible rfl|with_reducible assumption|exact True.intro|(simp only[b3M,b3L,b3K,b3I] at *;done)|((try simp only[b4i,J.eta,b3E,b3D,b3K,b3I,b3S,b4f,ak,O,aY,b3U,b3P,b4b,b3Y,b4e] at *);(try simp only[ok] at *);first|with_reducible exact True.intro|omega|exact me.zero _ _|(have h:me (bW gg) xs k1:=(by with_reducible assumption);first|exact h.bad _ (by omega) (by with_reducible assumption)|exact (h.bad _ (by omega) (by with_reducible assumption)).symm|exact h.done (by omega)|exact (h.done (by omega)).symm|exact h.next _ (by omega) (by with_reducible assumption)|(have:=h.le;omega)))
def yK:aH.Good nB:=QW ⟨nw,U⟩
structure StJ(gg:aT)(s:ae)(j:Nat):Prop where
 t:me (vT 2) s.path j
 g:stG s=true
def b1n{gg:aT}{s:ae}(h:stG s=false):mb gg s=false:=by rw[a1r,h];rfl
def StJ.bad{gg:aT}{s:ae}{j:Nat}(h:StJ gg s j)(hj:j<s.path.length)(hb:vT 2 (s.path.getD j 0)=false):mb gg s=false:=by rw[a1r,h.t.bad 0 hj hb,b4Y,b5c]
def StJ.end{gg:aT}{s:ae}{j:Nat}(h:StJ gg s j)(hj:s.path.length<=j):mb gg s=(bg (bW gg) s.az&&(bg bh s.az&&bg (bW gg) s.bf)):=by rw[a1r,h.g,h.t.done hj];rfl
def xO:aH:=⟨yl,[.v (.st .sig), .r (.st .proofStep)],λ (gg:aT) (s:ae)=>⟨(some (bK gg=true),[⟨.bool,mb gg s⟩])⟩⟩
def U3(gg:aT)(s:ae):Nat->aE:=(λ zb=>if Nat.beq zb 0 then .mk (Nat) (λ j=>StJ gg s j) (λ j=>s.path.length - j) [] [0,6,7,8,9,10,11,12,13,14,15,16,17,18,19,20,21,22,23,24,25,26,27,28,29,30,31,32,33,34,35,36,37,38] (λ j=>[(5, .aI ⟨(.int .i64),((j:Int):Int)⟩)]) [] (λ j=>[]) [] [] (λ j=>λ _ => .none) else .none)
abbrev rz(gg:aT)(s:ae):Prop:=(let v0:=bK gg=true/\(bg (bW gg) s.bf)=(mb gg s);let v1:=(0:Int);let v2:=(s.path.length:Int);((∃ j1:Nat,(StJ gg s j1/\((s=s/\(gg=gg/\(v1=(j1:Int)/\True)))/\True)))/\(∀ j1:Nat,let v4:=s.path.getD j1 v1;let v3 := !(decide (v1<=v4/\v4<=(1:Int)));(StJ gg s j1 ->
 (s.path.length<=140737488355328 ->
 (O v2 ->
 (((decide ((j1:Int)<v2))=true ->
 (s.path.length<=140737488355328 ->
 (ak (j1:Int) s.path.length/\(O v4 ->
 (((v3=true) ->
 false=(mb gg s))/\((v3=false) ->
 (O ((j1:Int)+(1:Int))/\(∃ j2:Nat,(StJ gg s j2/\(s.path.length - j2<s.path.length - j1/\((s=s/\(gg=gg/\(((j1:Int)+(1:Int))=(j2:Int)/\True)))/\True)))))))))))/\((decide ((j1:Int)<v2))=false ->
 (bK gg=true/\(((bg (bW gg) s.az)=true ->
 (((bg bh s.az)=true ->
 (s.az.length<=140737488355328 ->
 (s.az.length<=140737488355328 ->
 (s.bf.length<=140737488355328 ->
 v0))))/\((bg bh s.az)=(!true) ->
 (s.az.length<=140737488355328 ->
 (s.az.length<=140737488355328 ->
 false=(mb gg s))))))/\((bg (bW gg) s.az)=(!true) ->
 ((false=true ->
 (s.az.length<=140737488355328 ->
 (s.bf.length<=140737488355328 ->
 v0)))/\(false=(!true) ->
 (s.az.length<=140737488355328 ->
 false=(mb gg s)))))))))))))))
abbrev CC(gg:aT)(s:ae):Prop:=(let v0:=decide ((4:Int)<((s.bf.length:Int)));(s.bf.length<=140737488355328 ->
 (O ((s.bf.length:Int)) ->
 ((v0=true ->
 false=(mb gg s))/\(v0=false ->
 (rz gg s))))))
abbrev CD(gg:aT)(s:ae):Prop:=(let v0:=decide ((3:Int)<((s.az.length:Int)));(s.az.length<=140737488355328 ->
 (O ((s.az.length:Int)) ->
 ((v0=false ->
 (CC gg s))/\(v0=(!false) ->
 ((true=true ->
 false=(mb gg s))/\(true=false ->
 (rz gg s))))))))
abbrev CE(gg:aT)(s:ae):Prop:=((true=false ->
 (CC gg s))/\(true=(!false) ->
 ((true=true ->
 false=(mb gg s))/\(true=false ->
 (rz gg s)))))
def Tb(hE:aC [gG,ia,nB,ib]):aH.Good xO:=by
 refine⟨au Ei rfl (by decide),?_⟩;show ∀ (gg:aT) (s:ae),(bK gg=true)->bd prog yl [.val ⟨(.st .sig),gg⟩, .ref ⟨(.st .proofStep),s⟩] (·=[⟨.bool,mb gg s⟩]);intro gg s hp;refine aU (wr:=[]) (cl:=[]) (ro:=[2]) hE Ei MR (U3 gg s) (let v1:=decide ((40:Int)<((s.path.length:Int)));let v2:=((oD).length:Int);let v0 := !(decide ((-40:Int)<=s.use/\s.use<=(v2 - (1:Int))));((O (v2 - (1:Int))/\(O s.use->((oD).length<=140737488355328->(O v2->(((v0=false)->(s.path.length<=140737488355328->(O ((s.path.length:Int))->((v1=false->(CD gg s))/\(v1=(!false)->(CE gg s))))))/\((v0=(!false))->((true=false->(CD gg s))/\(true=(!false)->(CE gg s))))))))))) (by kernel_rfl) ?_;have f0:(oD.length:Int) - 1=23:=by rw[oE];rfl
 refine⟨?_,λ _ _ _=>⟨λ _ _ _=>⟨λ _ _ _=>⟨λ _ _ _=>⟨λ _=>?_,λ _=>⟨⟨0,?_,⟨rfl,rfl,?_,U⟩,U⟩,λ j1 _ _ _=>⟨λ _ _=>⟨?_,λ _=>⟨λ _=>?_,λ _=>⟨?_,j1+1,?_,?_,⟨rfl,rfl,?_,U⟩,U⟩⟩⟩,λ _=>⟨?_,λ _=>⟨λ _ _ _ _=>⟨?_,?_⟩,λ _ _ _=>?_⟩,λ _=>⟨λ _ _ _=>⟨?_,?_⟩,λ _ _=>?_⟩⟩⟩⟩⟩,λ _=>⟨λ _=>?_,λ _=>⟨⟨0,?_,⟨rfl,rfl,?_,U⟩,U⟩,λ j1 _ _ _=>⟨λ _ _=>⟨?_,λ _=>⟨λ _=>?_,λ _=>⟨?_,j1+1,?_,?_,⟨rfl,rfl,?_,U⟩,U⟩⟩⟩,λ _=>⟨?_,λ _=>⟨λ _ _ _ _=>⟨?_,?_⟩,λ _ _ _=>?_⟩,λ _=>⟨λ _ _ _=>⟨?_,?_⟩,λ _ _=>?_⟩⟩⟩⟩⟩⟩,λ _=>⟨λ _ _ _=>⟨λ _=>?_,λ _=>⟨⟨0,?_,⟨rfl,rfl,?_,U⟩,U⟩,λ j1 _ _ _=>⟨λ _ _=>⟨?_,λ _=>⟨λ _=>?_,λ _=>⟨?_,j1+1,?_,?_,⟨rfl,rfl,?_,U⟩,U⟩⟩⟩,λ _=>⟨?_,λ _=>⟨λ _ _ _ _=>⟨?_,?_⟩,λ _ _ _=>?_⟩,λ _=>⟨λ _ _ _=>⟨?_,?_⟩,λ _ _=>?_⟩⟩⟩⟩⟩,λ _=>⟨λ _=>?_,λ _=>⟨⟨0,?_,⟨rfl,rfl,?_,U⟩,U⟩,λ j1 _ _ _=>⟨λ _ _=>⟨?_,λ _=>⟨λ _=>?_,λ _=>⟨?_,j1+1,?_,?_,⟨rfl,rfl,?_,U⟩,U⟩⟩⟩,λ _=>⟨?_,λ _=>⟨λ _ _ _ _=>⟨?_,?_⟩,λ _ _ _=>?_⟩,λ _=>⟨λ _ _ _=>⟨?_,?_⟩,λ _ _=>?_⟩⟩⟩⟩⟩⟩⟩,λ _=>⟨λ _ _ _=>⟨λ _ _ _=>⟨λ _=>?_,λ _=>⟨⟨0,?_,⟨rfl,rfl,?_,U⟩,U⟩,λ j1 _ _ _=>⟨λ _ _=>⟨?_,λ _=>⟨λ _=>?_,λ _=>⟨?_,j1+1,?_,?_,⟨rfl,rfl,?_,U⟩,U⟩⟩⟩,λ _=>⟨?_,λ _=>⟨λ _ _ _ _=>⟨?_,?_⟩,λ _ _ _=>?_⟩,λ _=>⟨λ _ _ _=>⟨?_,?_⟩,λ _ _=>?_⟩⟩⟩⟩⟩,λ _=>⟨λ _=>?_,λ _=>⟨⟨0,?_,⟨rfl,rfl,?_,U⟩,U⟩,λ j1 _ _ _=>⟨λ _ _=>⟨?_,λ _=>⟨λ _=>?_,λ _=>⟨?_,j1+1,?_,?_,⟨rfl,rfl,?_,U⟩,U⟩⟩⟩,λ _=>⟨?_,λ _=>⟨λ _ _ _ _=>⟨?_,?_⟩,λ _ _ _=>?_⟩,λ _=>⟨λ _ _ _=>⟨?_,?_⟩,λ _ _=>?_⟩⟩⟩⟩⟩⟩,λ _=>⟨λ _ _ _=>⟨λ _=>?_,λ _=>⟨⟨0,?_,⟨rfl,rfl,?_,U⟩,U⟩,λ j1 _ _ _=>⟨λ _ _=>⟨?_,λ _=>⟨λ _=>?_,λ _=>⟨?_,j1+1,?_,?_,⟨rfl,rfl,?_,U⟩,U⟩⟩⟩,λ _=>⟨?_,λ _=>⟨λ _ _ _ _=>⟨?_,?_⟩,λ _ _ _=>?_⟩,λ _=>⟨λ _ _ _=>⟨?_,?_⟩,λ _ _=>?_⟩⟩⟩⟩⟩,λ _=>⟨λ _=>?_,λ _=>⟨⟨0,?_,⟨rfl,rfl,?_,U⟩,U⟩,λ j1 _ _ _=>⟨λ _ _=>⟨?_,λ _=>⟨λ _=>?_,λ _=>⟨?_,j1+1,?_,?_,⟨rfl,rfl,?_,U⟩,U⟩⟩⟩,λ _=>⟨?_,λ _=>⟨λ _ _ _ _=>⟨?_,?_⟩,λ _ _ _=>?_⟩,λ _=>⟨λ _ _ _=>⟨?_,?_⟩,λ _ _=>?_⟩⟩⟩⟩⟩⟩⟩⟩⟩;all_goals try and_intros
 all_goals first|with_reducible rfl|with_reducible assumption|exact True.intro|(simp only[Bool.true_eq_false,Bool.false_eq_true,Bool.not_true,Bool.not_false] at *;done)|exact hp|(have e:=oE;clear f0;simp only[e];done)|(have e:=oE;omega)|((try simp only[f0,b2G,Bool.not_true,Bool.not_false,Bool.not_eq_true',Bool.not_eq_false'] at *);first|with_reducible exact True.intro|(refine (b1n ?_).symm;(unfold stG;simp only[*,Bool.and_true,Bool.true_and,Bool.and_false,Bool.false_and,Bool.not_true,Bool.not_false];done))|(refine⟨me.zero _ _,?_⟩;(unfold stG;simp only[*,Bool.and_true,Bool.true_and,Bool.and_false,Bool.false_and,Bool.not_true,Bool.not_false];done))|(have h:StJ gg s j1:=(by with_reducible assumption);first|exact (h.bad (by simp only[decide_eq_true_eq,decide_eq_false_iff_not] at *;omega) (by with_reducible assumption)).symm|exact⟨h.t.next 0 (by simp only[decide_eq_true_eq,decide_eq_false_iff_not] at *;omega) (by with_reducible assumption),h.g⟩|(rw[h.end (by simp only[decide_eq_true_eq,decide_eq_false_iff_not] at *;omega)];simp only[*,Bool.and_true,Bool.true_and,Bool.and_false,Bool.false_and];done)|(have:=h.t.le;simp only[ak,O,aY,decide_eq_true_eq,decide_eq_false_iff_not] at *;omega))|(simp only[ak,O,aY,decide_eq_true_eq,decide_eq_false_iff_not] at *;omega))
def Ns:aH.Good xO:=Tb ⟨gL,oI,yK,oJ,U⟩
end
end Go.Proofs.YtmjfpcajohhbeaaGreatDoor

set_option maxRecDepth 4000
set_option maxHeartbeats 4000000
namespace Go.Proofs.YtmjfpcajohhbeaaGreatDoor
noncomputable section
structure Ul(gg:aT)(c:ag)(j:Nat):Prop where
 t:me (mb gg) c.steps j
 g:Df gg c=true
def Ul.bad{gg:aT}{c:ag}{j:Nat}(h:Ul gg c j)(hj:j<c.steps.length)(hb:mb gg (c.steps.getD j (ae.mk (0:Int) false [] [] []))=false):nS gg c=false:=by rw[FP,h.t.bad _ hj hb,b5c]
def Ul.end{gg:aT}{c:ag}{j:Nat}(h:Ul gg c j)(hj:c.steps.length<=j):nS gg c=true:=by rw[FP,h.g,h.t.done hj];rfl
def Ul.zero{gg:aT}{c:ag}(g:Df gg c=true):Ul gg c 0:=⟨me.zero _ _,g⟩
def tK:aH:=⟨ux,[.v (.st .sig), .r (.st .claim)],λ (gg:aT) (c:ag)=>⟨(some (bK gg=true),[⟨.bool,nS gg c⟩])⟩⟩
def Su(gg:aT)(c:ag):Nat->aE:=(λ zb=>if Nat.beq zb 100003 then .mk (Unit) (λ u=>Fp gg c) (λ u=>0) [] [0] (λ u=>[]) [] (λ u=>[]) [] [] (λ u=>(λ zb=>if Nat.beq zb 100005 then .mk (Unit) (λ u=>Df gg c=true) (λ u=>0) [] [] (λ u=>[]) [] (λ u=>[]) [] [] (λ u=>(λ zb=>if Nat.beq zb 0 then .mk (Nat) (λ j=>Ul gg c j) (λ j=>c.steps.length - j) [] [] (λ j=>[(5, .aI ⟨(.int .i64),((j:Int):Int)⟩)]) [] (λ j=>[]) [] [] (λ j=>λ _ => .none) else .none)) else .none)) else .none)
abbrev AN(gg:aT)(c:ag):Prop:=(let v0 := !(decide ((0:Int)<=c.ref/\c.ref<=(39:Int)));(O c.ref ->
 (((v0=true) ->
 false=(nS gg c))/\((v0=false) ->
 (∃ u1:Unit,(Fp gg c/\((c=c/\(gg=gg/\True))/\True)))))))
abbrev AO(gg:aT)(c:ag):Prop:=(let v0 := !(decide ((1:Int)<=c.bp/\c.bp<=(3:Int)));(O c.bp ->
 (((v0=false) ->
 (AN gg c))/\((v0=(!false)) ->
 ((true=true ->
 false=(nS gg c))/\(true=false ->
 (∃ u1:Unit,(Fp gg c/\((c=c/\(gg=gg/\True))/\True)))))))))
abbrev AP(gg:aT)(c:ag):Prop:=((true=false ->
 (AN gg c))/\(true=(!false) ->
 ((true=true ->
 false=(nS gg c))/\(true=false ->
 (∃ u1:Unit,(Fp gg c/\((c=c/\(gg=gg/\True))/\True)))))))
abbrev pG(gg:aT)(c:ag):Prop:=(let v0:=decide ((60:Int)<((c.steps.length:Int)));(c.steps.length<=140737488355328 ->
 (O ((c.steps.length:Int)) ->
 ((v0=true ->
 false=(nS gg c))/\(v0=false ->
 (∃ u2:Unit,(Df gg c=true/\((c=c/\(gg=gg/\True))/\True))))))))
abbrev AQ(gg:aT)(c:ag):Prop:=(let v0:=Df gg c=true/\((c=c/\(gg=gg/\True))/\True);let v1:=decide ((0:Int)<((c.steps.length:Int)));let v2 := !(decide (c.bp=(1:Int)));(O c.bp ->
 ((v2=true ->
 (c.steps.length<=140737488355328 ->
 (O ((c.steps.length:Int)) ->
 ((v1=false ->
 (pG gg c))/\(v1=(!false) ->
 ((true=true ->
 false=(nS gg c))/\(true=false ->
 (∃ u2:Unit,v0))))))))/\(v2=(!true) ->
 ((false=false ->
 (pG gg c))/\(false=(!false) ->
 ((true=true ->
 false=(nS gg c))/\(true=false ->
 (∃ u2:Unit,v0)))))))))
abbrev AR(gg:aT)(c:ag):Prop:=((true=false ->
 (pG gg c))/\(true=(!false) ->
 ((true=true ->
 false=(nS gg c))/\(true=false ->
 (∃ u2:Unit,(Df gg c=true/\((c=c/\(gg=gg/\True))/\True)))))))
def QU(hE:aC [oO,gG,xO]):aH.Good tK:=by
 refine⟨au Cc rfl (by decide),?_⟩;show ∀ (gg:aT) (c:ag),(bK gg=true)->bd prog ux [.val ⟨(.st .sig),gg⟩, .ref ⟨(.st .claim),c⟩] (·=[⟨.bool,nS gg c⟩]);intro gg c hp;refine aU (wr:=[]) (cl:=[]) (ro:=[2]) hE Cc KS (Su gg c) (let v0:=(c.steps.length:Int);let v1:=ae.mk (0:Int) false [] [] [];let v2 := !(decide (c.ref=(0:Int)));(((((!(Bl gg c.left))=false->(((!(Bl gg c.right))=false->(AO gg c))/\((!(Bl gg c.right))=(!false)->(AP gg c))))/\((!(Bl gg c.left))=(!false)->((true=false->(AO gg c))/\(true=(!false)->(AP gg c)))))/\(∀ u1:Unit,(Fp gg c->((O c.bp->(((decide (c.bp=(1:Int)))=true->(O c.ref->((v2=false->(AQ gg c))/\(v2=(!false)->(AR gg c)))))/\((decide (c.bp=(1:Int)))=(!true)->((false=false->(AQ gg c))/\(false=(!false)->(AR gg c))))))/\(∀ u2:Unit,(Df gg c=true->((∃ j3:Nat,(Ul gg c j3/\((c=c/\(gg=gg/\((0:Int)=(j3:Int)/\True)))/\True)))/\(∀ j3:Nat,let v3 := !(mb gg (c.steps.getD j3 v1));(Ul gg c j3->(c.steps.length<=140737488355328->(O v0->(((decide ((j3:Int)<v0))=true->(ak (j3:Int) c.steps.length/\(c.steps.length<=140737488355328->(bK gg=true/\((v3=true->false=(nS gg c))/\(v3=false->(O ((j3:Int)+(1:Int))/\(∃ j4:Nat,(Ul gg c j4/\(c.steps.length - j4<c.steps.length - j3/\((c=c/\(gg=gg/\(((j3:Int)+(1:Int))=(j4:Int)/\True)))/\True)))))))))))/\((decide ((j3:Int)<v0))=false->true=(nS gg c)))))))))))))))) (by kernel_rfl) ?_;have ok:=QK hp;refine⟨⟨λ _=>⟨λ _ _=>⟨λ _ _=>⟨λ _=>?_,λ _=>⟨(),?_,⟨rfl,rfl,U⟩,U⟩⟩,λ _=>⟨λ _=>?_,λ _=>⟨(),?_,⟨rfl,rfl,U⟩,U⟩⟩⟩,λ _=>⟨λ _ _=>⟨λ _=>?_,λ _=>⟨(),?_,⟨rfl,rfl,U⟩,U⟩⟩,λ _=>⟨λ _=>?_,λ _=>⟨(),?_,⟨rfl,rfl,U⟩,U⟩⟩⟩⟩,λ _=>⟨λ _ _=>⟨λ _ _=>⟨λ _=>?_,λ _=>⟨(),?_,⟨rfl,rfl,U⟩,U⟩⟩,λ _=>⟨λ _=>?_,λ _=>⟨(),?_,⟨rfl,rfl,U⟩,U⟩⟩⟩,λ _=>⟨λ _ _=>⟨λ _=>?_,λ _=>⟨(),?_,⟨rfl,rfl,U⟩,U⟩⟩,λ _=>⟨λ _=>?_,λ _=>⟨(),?_,⟨rfl,rfl,U⟩,U⟩⟩⟩⟩⟩,λ u1 _=>⟨λ _=>⟨λ _ _=>⟨λ _ _=>⟨λ _ _ _=>⟨λ _ _ _=>⟨λ _=>?_,λ _=>⟨(),?_,⟨rfl,rfl,U⟩,U⟩⟩,λ _=>⟨λ _=>?_,λ _=>⟨(),?_,⟨rfl,rfl,U⟩,U⟩⟩⟩,λ _=>⟨λ _ _ _=>⟨λ _=>?_,λ _=>⟨(),?_,⟨rfl,rfl,U⟩,U⟩⟩,λ _=>⟨λ _=>?_,λ _=>⟨(),?_,⟨rfl,rfl,U⟩,U⟩⟩⟩⟩,λ _=>⟨λ _ _ _=>⟨λ _=>?_,λ _=>⟨(),?_,⟨rfl,rfl,U⟩,U⟩⟩,λ _=>⟨λ _=>?_,λ _=>⟨(),?_,⟨rfl,rfl,U⟩,U⟩⟩⟩⟩,λ _=>⟨λ _ _=>⟨λ _ _ _=>⟨λ _ _ _=>⟨λ _=>?_,λ _=>⟨(),?_,⟨rfl,rfl,U⟩,U⟩⟩,λ _=>⟨λ _=>?_,λ _=>⟨(),?_,⟨rfl,rfl,U⟩,U⟩⟩⟩,λ _=>⟨λ _ _ _=>⟨λ _=>?_,λ _=>⟨(),?_,⟨rfl,rfl,U⟩,U⟩⟩,λ _=>⟨λ _=>?_,λ _=>⟨(),?_,⟨rfl,rfl,U⟩,U⟩⟩⟩⟩,λ _=>⟨λ _ _ _=>⟨λ _=>?_,λ _=>⟨(),?_,⟨rfl,rfl,U⟩,U⟩⟩,λ _=>⟨λ _=>?_,λ _=>⟨(),?_,⟨rfl,rfl,U⟩,U⟩⟩⟩⟩⟩,λ u2 _=>⟨⟨0,?_,⟨rfl,rfl,?_,U⟩,U⟩,λ j3 _ _ _=>⟨λ _=>⟨?_,λ _=>⟨?_,λ _=>?_,λ _=>⟨?_,j3+1,?_,?_,⟨rfl,rfl,?_,U⟩,U⟩⟩⟩,λ _=>?_⟩⟩⟩⟩;all_goals try and_intros
 all_goals first|with_reducible rfl|with_reducible assumption|exact True.intro|(simp only[b3M,b3L,b3K,b3I] at *;done)|exact hp|exact Int.ofNat_zero.symm|exact rfl|((try simp only[ok,b3K,b3I,b3S,b4f,b3E,b3D] at *);first|with_reducible exact True.intro|exact a7d (by with_reducible assumption)|exact (a7d (by with_reducible assumption)).symm|exact a7e (by with_reducible assumption)|exact (a7e (by with_reducible assumption)).symm|exact a3v (by with_reducible assumption)|exact (a3v (by with_reducible assumption)).symm|exact a3w (by with_reducible assumption)|exact (a3w (by with_reducible assumption)).symm|exact⟨(by with_reducible assumption),(by with_reducible assumption),(by with_reducible assumption),(by with_reducible assumption)⟩|(have h:Fp gg c:=(by with_reducible assumption);first|exact (h.n1 (by omega) (by omega)).symm|exact (h.n2 (by omega) (by omega)).symm|exact (h.n3 (by omega)).symm|exact h.y1 (by omega) (by omega) (by omega)|exact h.y2 (by omega) (by omega))|exact Ul.zero (by with_reducible assumption)|(have h:Ul gg c j3:=(by with_reducible assumption);first|exact (h.bad (by omega) (by with_reducible assumption)).symm|exact⟨h.t.next _ (by omega) (by with_reducible assumption),h.g⟩|exact (h.end (by omega)).symm|(have:=h.t.le;simp only[ak,O,aY] at *;omega))|(simp only[ak,O,aY] at *;omega))
def K9:aH.Good tK:=QU ⟨nw,gL,Ns,U⟩
structure PoJ(p:aj)(j:Nat):Prop where
 s:bK p.sig=true
 n:p.ai.length<=40
 t:me (nS p.sig) p.ai j
def PoJ.bad{p:aj}{j:Nat}(h:PoJ p j)(hj:j<p.ai.length)(hb:nS p.sig (p.ai.getD j (ag.mk zE zE (0:Int) (0:Int) []))=false):ec p=false:=by
 unfold ec;rw[h.t.bad _ hj hb,Bool.and_false]
def PoJ.end{p:aj}{j:Nat}(h:PoJ p j)(hj:p.ai.length<=j):ec p=true:=by unfold ec;rw[h.s,h.t.done hj,decide_eq_true h.n];rfl
def uN:aH:=⟨DE,[.r (.st .proof)],λ (p:aj)=>⟨(none,[⟨.bool,ec p⟩])⟩⟩
def Y7(p:aj):Nat->aE:=(λ zb=>if Nat.beq zb 0 then .mk (Nat) (λ j=>PoJ p j) (λ j=>p.ai.length - j) [] [4,5,6,7,8,9,10,11,12,13,14,15,16,17] (λ j=>[(3, .aI ⟨(.int .i64),((j:Int):Int)⟩)]) [] (λ j=>[]) [] [] (λ j=>λ _ => .none) else .none)
abbrev He(p:aj):Prop:=(let v0:=(p.ai.length:Int);let v1:=ag.mk zE zE (0:Int) (0:Int) [];((∃ j1:Nat,(PoJ p j1/\((p=p/\((0:Int)=(j1:Int)/\True))/\True)))/\(∀ j1:Nat,let v2 := !(nS p.sig (p.ai.getD j1 v1));(PoJ p j1 ->
 (p.ai.length<=140737488355328 ->
 (O v0 ->
 (((decide ((j1:Int)<v0))=true ->
 (ak (j1:Int) p.ai.length/\(p.ai.length<=140737488355328 ->
 (bK p.sig=true/\((v2=true ->
 false=(ec p))/\(v2=false ->
 (O ((j1:Int)+(1:Int))/\(∃ j2:Nat,(PoJ p j2/\(p.ai.length - j2<p.ai.length - j1/\((p=p/\(((j1:Int)+(1:Int))=(j2:Int)/\True))/\True)))))))))))/\((decide ((j1:Int)<v0))=false ->
 true=(ec p)))))))))
def Yb(hE:aC [mJ,tK]):aH.Good uN:=by
 refine⟨au Iq rfl (by decide),?_⟩;show ∀ (p:aj),True->bd prog DE [.ref ⟨(.st .proof),p⟩] (·=[⟨.bool,ec p⟩]);intro p _;refine aU (wr:=[]) (cl:=[]) (ro:=[]) hE Iq RG (Y7 p) (let v0:=decide ((40:Int)<((p.ai.length:Int)));((((!(bK p.sig))=false->(p.ai.length<=140737488355328->(O ((p.ai.length:Int))->((v0=true->false=(ec p))/\(v0=false->(He p))))))/\((!(bK p.sig))=(!false)->((true=true->false=(ec p))/\(true=false->(He p))))))) (by kernel_rfl) ?_;refine⟨λ _ _ _=>⟨λ _=>?_,λ _=>⟨⟨0,?_,⟨rfl,?_,U⟩,U⟩,λ j1 _ _ _=>⟨λ _=>⟨?_,λ _=>⟨?_,λ _=>?_,λ _=>⟨?_,j1+1,?_,?_,⟨rfl,?_,U⟩,U⟩⟩⟩,λ _=>?_⟩⟩⟩,λ _=>⟨λ _=>?_,λ _=>⟨⟨0,?_,⟨rfl,?_,U⟩,U⟩,λ j1 _ _ _=>⟨λ _=>⟨?_,λ _=>⟨?_,λ _=>?_,λ _=>⟨?_,j1+1,?_,?_,⟨rfl,?_,U⟩,U⟩⟩⟩,λ _=>?_⟩⟩⟩⟩;all_goals try and_intros
 all_goals first|with_reducible rfl|with_reducible assumption|exact True.intro|(simp only[b3M,b3L,b3K,b3I] at *;done)|((try simp only[b3K,b3I,b3S,b4f,b3E,b3D] at *);first|with_reducible exact True.intro|exact (a5l (by with_reducible assumption)).symm|exact (a5m (by omega)).symm|exact⟨(by with_reducible assumption),by omega,me.zero _ _⟩|(have h:PoJ p j1:=(by with_reducible assumption);first|exact h.s|exact (h.bad (by omega) (by with_reducible assumption)).symm|exact⟨h.s,h.n,h.t.next _ (by omega) (by with_reducible assumption)⟩|exact (h.end (by omega)).symm|(have:=h.t.le;simp only[ak,O,aY] at *;omega)|(have:=h.t.le;omega))|(simp only[ak,O,aY] at *;omega))
def EI:aH.Good uN:=Yb ⟨re,K9,U⟩
end
end Go.Proofs.YtmjfpcajohhbeaaGreatDoor

set_option maxRecDepth 4000
set_option maxHeartbeats 4000000
namespace Go.Proofs.YtmjfpcajohhbeaaGreatDoor
noncomputable section
def BT(t:Int)(e:J)(i:Nat):Int:=max (max t (if e.aq=3 then e.aM+1 else 0)) (bM (e.M.take i)).1
def DU(a:Int)(e:J)(i:Nat):Int:=max (max a (if e.aq=4 then e.aM+1 else 0)) (bM (e.M.take i)).2
def Ro{x:J}(h:bc 62 62 x=true)(hk:x.aq=3\/x.aq=4):x.M=[]:=by
 have:=a0v h;rcases hk with hk|hk<;>rw[hk] at this<;>simp[cS] at this<;>exact b4L (by omega)
def b2V(t a:Int)(e:J):BT t e 0=max t (max (if e.aq=3 then e.aM+1 else 0) 0)/\DU a e 0=max a (max (if e.aq=4 then e.aM+1 else 0) 0):=by
 unfold BT DU;rw[List.take_zero,bM];dsimp only;omega
def b2X(t a:Int)(e:J)(i:Nat)(hi:i<e.M.length):BT t e (i+1)=max (BT t e i) (dh (e.M.getD i zE)).1/\DU a e (i+1)=max (DU a e i) (dh (e.M.getD i zE)).2:=by
 unfold BT DU;rw[Uj e i hi];dsimp only;omega
def b2W(t a:Int)(e:J)(i:Nat)(h:bc 62 62 e=true)(hi:e.M.length<=i)(ht:0<=t)(ha:0<=a):BT t e i=max t (dh e).1/\DU a e i=max a (dh e).2:=by
 unfold BT DU;have hn:=lq h;by_cases h3:e.aq=3
 .have:=hn (.inl h3);rw[if_pos h3,if_neg (show ¬ e.aq=4 by omega),Ro h (.inl h3),List.take_nil,bM,a8x e h3];dsimp only;omega
 .by_cases h4:e.aq=4
  .have:=hn (.inr h4);rw[if_neg h3,if_pos h4,Ro h (.inr h4),List.take_nil,bM,a8y e h3 h4];dsimp only;omega
  .have:=Tt e h i;rw[b3R h3,b3R h4,<-a4A e h3 h4 i hi];rw[<-a4A e h3 h4 i hi] at this;omega
def b1s(t a:Int)(e:J)(i:Nat)(h:bc 62 62 e=true)(ht:0<=t/\t<=1000)(ha:0<=a/\a<=1000):(0<=BT t e i/\BT t e i<=1000)/\0<=DU a e i/\DU a e i<=1000:=by
 have h1:=Tt e h i;have hn:=lq h;unfold BT DU;have:(if e.aq=3 then e.aM+1 else 0)<=63:=by
  split
  .rename_i q;have:=hn (.inl q);omega
  .omega
 have:(if e.aq=4 then e.aM+1 else 0)<=63:=by
  split
  .rename_i q;have:=hn (.inr q);omega
  .omega
 omega
def ua(n:Nat):fL:=⟨sn,[[.d (.int .i64)],[.d (.int .i64)]],[.r (.st .expr), .b 0, .b 1],[[(.int .i64)],[(.int .i64)]],λ (e:J) (t:Int) (a:Int)=>⟨(some (cf e<n/\bc 62 62 e=true/\(0<=t/\t<=1000)/\0<=a/\a<=1000),[],[[⟨(.int .i64),max t (dh e).1⟩],[⟨(.int .i64),max a (dh e).2⟩]])⟩⟩
def Hl:fL:=⟨sn,[[.d (.int .i64)],[.d (.int .i64)]],[.r (.st .expr), .b 0, .b 1],[[(.int .i64)],[(.int .i64)]],λ (e:J) (t:Int) (a:Int)=>⟨(some (bc 62 62 e=true/\(0<=t/\t<=1000)/\0<=a/\a<=1000),[],[[⟨(.int .i64),max t (dh e).1⟩],[⟨(.int .i64),max a (dh e).2⟩]])⟩⟩
def Vg(e:J)(t:Int)(a:Int):Nat->aE:=(λ zb=>if Nat.beq zb 100004 then .mk (Unit) (λ u=>True) (λ u=>0) [] [7,8,9,10,11,12,13,14,15,16,17,18,19,20,21,22] (λ u=>[]) [] (λ u=>[(400000, .box [.aI ⟨(.int .i64),(BT t e 0:Int)⟩]),(400001, .box [.aI ⟨(.int .i64),(DU a e 0:Int)⟩])]) [] [] (λ u=>(λ zb=>if Nat.beq zb 0 then .mk (Nat) (λ i=>i<=e.M.length) (λ i=>e.M.length - i) [] [] (λ i=>[(6, .aI ⟨(.int .i64),((i:Int):Int)⟩)]) [] (λ i=>[(400000, .box [.aI ⟨(.int .i64),(BT t e i:Int)⟩]),(400001, .box [.aI ⟨(.int .i64),(DU a e i:Int)⟩])]) [] [] (λ i=>λ _ => .none) else .none)) else .none)
abbrev CO(n:Nat)(e:J)(t:Int)(a:Int):Prop:=(let v0:=(e.M.length:Int);(∀ u1:Unit,(True ->
 ((∃ i2:Nat,(i2<=e.M.length/\((e=e/\(True/\(True/\((0:Int)=(i2:Int)/\True))))/\(((BT t e 0)=(BT t e i2)/\True)/\(((DU a e 0)=(DU a e i2)/\True)/\True)))))/\(∀ i2:Nat,let v1:=e.M.getD i2 zE;(i2<=e.M.length ->
 (e.M.length<=140737488355328 ->
 (O v0 ->
 (((decide ((i2:Int)<v0))=true ->
 (e.M.length<=140737488355328 ->
 (ak (i2:Int) e.M.length/\((cf v1<n/\bc 62 62 v1=true/\(0<=(BT t e i2)/\(BT t e i2)<=1000)/\0<=(DU a e i2)/\(DU a e i2)<=1000)/\(O ((i2:Int)+(1:Int))/\(∃ i3:Nat,(i3<=e.M.length/\(e.M.length - i3<e.M.length - i2/\((e=e/\(True/\(True/\(((i2:Int)+(1:Int))=(i3:Int)/\True))))/\(((max (BT t e i2) (dh v1).1)=(BT t e i3)/\True)/\(((max (DU a e i2) (dh v1).2)=(DU a e i3)/\True)/\True)))))))))))/\((decide ((i2:Int)<v0))=false ->
 (True/\((BT t e i2)=(max t (dh e).1)/\((DU a e i2)=(max a (dh e).2)/\True)))))))))))))
def Tl(n:Nat)(hE:aC [rK])(hO:cO [])(hM:cT [])(hS:cR [ua n]):fL.Good (ua (n+1)):=by
 refine⟨au oZ rfl (by decide),?_⟩;show ∀ (e:J) (t:Int) (a:Int),(cf e<n+1/\bc 62 62 e=true/\(0<=t/\t<=1000)/\0<=a/\a<=1000)->qI prog sn [[.d (.int .i64)],[.d (.int .i64)]] [.ref ⟨(.st .expr),e⟩, .box 0, .box 1] [[⟨(.int .i64),t⟩],[⟨(.int .i64),a⟩]] [] [[⟨(.int .i64),max t (dh e).1⟩],[⟨(.int .i64),max a (dh e).2⟩]];intro e t a hp;refine ig (own:=[]) (wr:=[]) (cl:=[]) (ro:=[]) hE hO hM hS oZ Pm (Vg e t a) rfl rfl (let v0:=e.aM+(1:Int);let v1:=e=e/\(True/\(True/\True));let v2:=decide (e.aq=(4:Int));let v3:=((max a v0)=(DU a e 0)/\True)/\True;let v4:=(a=(DU a e 0)/\True)/\True;let v5:=(max t v0)=(BT t e 0)/\True;((O e.aq->(((decide (e.aq=(3:Int)))=true->(O v0/\(O t->(O e.aM->(O (max t v0)->((O e.aq->((v2=true->(O v0/\(O a->(O e.aM->(O (max a v0)->(∃ u1:Unit,(True/\(v1/\(v5/\v3)))))))))/\(v2=false->(∃ u1:Unit,(True/\(v1/\(v5/\v4)))))))/\(CO n e t a)))))))/\((decide (e.aq=(3:Int)))=false->((O e.aq->((v2=true->(O v0/\(O a->(O e.aM->(O (max a v0)->(∃ u1:Unit,(True/\(v1/\((t=(BT t e 0)/\True)/\v3)))))))))/\(v2=false->(∃ u1:Unit,(True/\(v1/\((t=(BT t e 0)/\True)/\v4)))))))/\(CO n e t a))))))) (by kernel_rfl) ?_;obtain⟨hm,g0,g1,g2⟩:=hp;have f0:=λ i (h:i<e.M.length)=>cb zE e.M i h;have f1:=dn e;have f2:=b2V t a e;have f3:=lq g0;refine λ _=>⟨λ _=>⟨?_,λ _ _ _=>⟨λ _=>⟨λ _=>⟨?_,λ _ _ _=>⟨(),?_,⟨rfl,U,U,U⟩,⟨?_,U⟩,⟨?_,U⟩,U⟩⟩,λ _=>⟨(),?_,⟨rfl,U,U,U⟩,⟨?_,U⟩,⟨?_,U⟩,U⟩⟩,λ u1 _=>⟨⟨0,?_,⟨rfl,U,U,?_,U⟩,⟨?_,U⟩,⟨?_,U⟩,U⟩,λ i2 _ _ _=>⟨λ _ _=>⟨?_,?_,?_,i2+1,?_,?_,⟨rfl,U,U,?_,U⟩,⟨?_,U⟩,⟨?_,U⟩,U⟩,λ _=>⟨U,?_,?_,U⟩⟩⟩⟩⟩,λ _=>⟨λ _=>⟨λ _=>⟨?_,λ _ _ _=>⟨(),?_,⟨rfl,U,U,U⟩,⟨?_,U⟩,⟨?_,U⟩,U⟩⟩,λ _=>⟨(),?_,⟨rfl,U,U,U⟩,⟨?_,U⟩,⟨?_,U⟩,U⟩⟩,λ u1 _=>⟨⟨0,?_,⟨rfl,U,U,?_,U⟩,⟨?_,U⟩,⟨?_,U⟩,U⟩,λ i2 _ _ _=>⟨λ _ _=>⟨?_,?_,?_,i2+1,?_,?_,⟨rfl,U,U,?_,U⟩,⟨?_,U⟩,⟨?_,U⟩,U⟩,λ _=>⟨U,?_,?_,U⟩⟩⟩⟩⟩;all_goals try and_intros
 all_goals first|with_reducible rfl|with_reducible assumption|exact True.intro|(simp only[b3M,b3L,b3K,b3I] at *;done)|((try simp only[b4i,J.eta,b3E,b3D,b3K,b3I,b3S,b4f,ak,O,aY,b3U,b3P,b4b,b3Y,b4e] at *);first|exact True.intro|omega|exact uH g0 _ (by omega)|(have h1:=f0 i2 (by omega);omega)|(have h1:=b2X t a e i2 (by omega);omega)|(have h1:=b2W t a e i2 g0 (by omega) (by omega) (by omega);omega)|(have h1:=b1s t a e i2 g0 (by omega) (by omega);omega)|(rw[f2.1];simp only[*,b5y,b6B];omega)|(rw[f2.2];simp only[*,b5y,b6B];omega)|(have:=f3 (by omega);omega))
def V3:∀ n,cR [ua n]
 | 0=>⟨⟨au oZ rfl (by decide),λ _ _ _ h=>absurd h.1 (b4y _)⟩,U⟩
 | n+1=>by
  have ih:=V3 n;exact⟨Tl n ⟨Cm,U⟩ trivial trivial ⟨ih.1,U⟩,U⟩
def Ox:fL.Good Hl :=
 ⟨au oZ rfl (by decide),λ e t a hp=>(V3 (cf e+1)).1.2 e t a (⟨b4v _,hp⟩)⟩
def o7:aH:=⟨yh,[.r (.st .equation)],λ (q:ar)=>⟨(some (bc 62 62 q.left=true/\bc 62 62 q.right=true),[⟨(.int .i64),(bM [q.left,q.right]).1⟩,⟨(.int .i64),(bM [q.left,q.right]).2⟩])⟩⟩
def U1(q:ar):Nat->aE:=λ _ => .none
def S9(hE:aC [])(hO:cO [])(hM:cT [])(hS:cR [Hl]):aH.Good o7:=by
 refine⟨au Ef rfl (by decide),?_⟩;show ∀ (q:ar),(bc 62 62 q.left=true/\bc 62 62 q.right=true)->bd prog yh [.ref ⟨(.st .equation),q⟩] (·=[⟨(.int .i64),(bM [q.left,q.right]).1⟩,⟨(.int .i64),(bM [q.left,q.right]).2⟩]);intro q hp;refine X8 (own:=[]) (wr:=[]) (cl:=[]) (ro:=[]) hE hO hM hS Ef MO (U1 q) (let v2:=dh q.right;let v3:=(0:Int);let v0:=max v3 (dh q.left).1;let v1:=max v3 (dh q.left).2;(((bc 62 62 q.left=true/\(0<=v3/\v3<=1000)/\0<=v3/\v3<=1000)/\((bc 62 62 q.right=true/\(0<=v0/\v0<=1000)/\0<=v1/\v1<=1000)/\(O (max v0 v2.1)->(O (max v1 v2.2)->((max v0 v2.1)=((bM [q.left,q.right]).1)/\(max v1 v2.2)=((bM [q.left,q.right]).2)))))))) (by kernel_rfl) ?_;refine⟨?_,?_,λ _ _=>⟨?_,?_⟩⟩;all_goals try and_intros
 all_goals first|with_reducible rfl|with_reducible assumption|exact True.intro|(simp only[b3M,b3L,b3K,b3I] at *;done)|exact hp.1|exact hp.2|(have h1:=Fm _ hp.1;have h2:=Fm _ hp.2;(try simp only[bM]);omega)
def Aw:aH.Good o7:=S9 trivial trivial trivial ⟨Ox,U⟩
def xV:aH:=⟨Be,[],⟨(none,[⟨(.st .expr),J.mk 2 0 []⟩])⟩⟩
def Vd :Nat->aE:=λ _ => .none
def Ti(hE:aC [])(hO:cO [])(hM:cT [])(hS:cR []):aH.bX xV:=by
 refine⟨au G6 rfl (by decide),?_⟩;show True->cY prog Be [] [⟨(.st .expr),J.mk 2 0 []⟩];intro  _;refine cj (own:=[]) (wr:=[]) (cl:=[]) (ro:=[]) hE hO hM hS G6 Pg (Vd ) ((J.mk (2:Int) (0:Int) [])=(J.mk 2 0 [])) (by kernel_rfl) ?_;refine ?_;all_goals try and_intros
 all_goals first|rfl|trivial|omega|(simp only[b3E,b3D,ak,O,bQ,cw,bI,aY] at *;omega)|(simp[ak,O] at *;omega)|grind
def N7:aH.bX xV:=Ti trivial trivial trivial trivial
def tR(n:Nat):aH:=⟨pg,[.r (.st .expr)],λ (x:J)=>⟨(some (cf x<n/\aL x<=1048576),[⟨(.int .i64),(aL x:Int)⟩])⟩⟩
def Hg:aH:=⟨pg,[.r (.st .expr)],λ (x:J)=>⟨(some (aL x<=1048576),[⟨(.int .i64),(aL x:Int)⟩])⟩⟩
def UX(x:J):Nat->aE:=(λ zb=>if Nat.beq zb 0 then .mk (Nat) (λ k=>k<=x.M.length) (λ k=>x.M.length - k) [] [2] (λ k=>[(4, .aI ⟨(.int .i64),((k:Int):Int)⟩),(3, .aI ⟨(.int .i64),((1+aF aL (x.M.take k):Int):Int)⟩)]) [] (λ k=>[]) [] [] (λ k=>λ _ => .none) else .none)
def S5(n:Nat)(hE:aC [tR n]):aH.Good (tR (n+1)):=by
 refine⟨au nr rfl (by decide),?_⟩;show ∀ (x:J),(cf x<n+1/\aL x<=1048576)->bd prog pg [.ref ⟨(.st .expr),x⟩] (·=[⟨(.int .i64),(aL x:Int)⟩]);intro x hp;refine aU (wr:=[]) (cl:=[]) (ro:=[]) hE nr MJ (UX x) (let v0:=(x.M.length:Int);(((∃ k1:Nat,(k1<=x.M.length/\((x=x/\((1:Int)=(1+aF aL (x.M.take k1):Int)/\((0:Int)=(k1:Int)/\True)))/\True)))/\(∀ k1:Nat,let v2:=x.M.getD k1 zE;let v3:=(1+aF aL (x.M.take k1):Int);let v1:=v3+((aL v2:Int));(k1<=x.M.length->(x.M.length<=140737488355328->(O v0->(((decide ((k1:Int)<v0))=true->(x.M.length<=140737488355328->(ak (k1:Int) x.M.length/\((cf v2<n/\aL v2<=1048576)/\(O ((aL v2:Int))->(O v1/\(O ((k1:Int)+(1:Int))/\(∃ k2:Nat,(k2<=x.M.length/\(x.M.length - k2<x.M.length - k1/\((x=x/\(v1=(1+aF aL (x.M.take k2):Int)/\(((k1:Int)+(1:Int))=(k2:Int)/\True)))/\True)))))))))))/\((decide ((k1:Int)<v0))=false->v3=(aL x:Int)))))))))) (by kernel_rfl) ?_;rw[Bj x] at hp;have f0:=dn x;have f1:=ij aL x.M;refine⟨⟨0,?_,⟨rfl,?_,?_,U⟩,U⟩,λ k1 _=>have El:=ft aL zE x.M k1;have qO:=b9 aL x.M k1;have yD:=b9 aL x.M (k1+1);have Ir:=gZ aL x.M k1;have TJ:=cb zE x.M k1;λ _ _=>⟨λ _ _=>⟨?_,?_,λ _=>⟨?_,?_,k1+1,?_,?_,⟨rfl,?_,?_,U⟩,U⟩⟩,λ _=>?_⟩⟩;all_goals try and_intros
 all_goals try rw[Bj x]
 all_goals first|rfl|trivial|omega|(simp only[b3E,b3D,ak,O,bQ,cw,bI,aY] at *;omega)|(simp[ak,O] at *;omega)|grind
def VZ :∀ n,aC [tR n]
 | 0=>⟨⟨au nr rfl (by decide),λ _ h=>absurd h.1 (b4y _)⟩,U⟩
 | n+1=>by
  have ih:=VZ  n;exact⟨S5 n ⟨ih.1,U⟩,U⟩
def Nl :aH.Good Hg :=
 ⟨au nr rfl (by decide),λ x hp=>(VZ  (cf x+1)).1.2 x (⟨b4v _,hp⟩)⟩
end
end Go.Proofs.YtmjfpcajohhbeaaGreatDoor

set_option maxRecDepth 4000
set_option maxHeartbeats 4000000
namespace Go.Proofs.YtmjfpcajohhbeaaGreatDoor
noncomputable section
def VO(ts as_:List J)(x:J)(l:Int):eO ts as_ x l=if l - 1<0 then (J.mk (0:Int) (0:Int) [],l - 1) else
   if x.aq=3\/x.aq=4 then ((if x.aq=4 then as_ else ts).getD x.aM.toNat zE,l - 1 - ((aL ((if x.aq=4 then as_ else ts).getD x.aM.toNat zE):Int) - 1)) else
   (J.mk x.aq x.aM (dS ts as_ x.M (l - 1)).1,(dS ts as_ x.M (l - 1)).2):=by
 cases x with
 | mk k n ks=>rw[eO]
def a5r{ts as_:List J}{x:J}{l:Int}(h:l - 1<0):(eO ts as_ x l).1=J.mk (0:Int) (0:Int) []/\(eO ts as_ x l).2=l - 1:=by rw[VO,b4n h];exact⟨rfl,rfl⟩
def a5o{ts as_:List J}{x:J}{l:Int}(h:¬ l - 1<0)(h3:x.aq=3):(eO ts as_ x l).1=ts.getD x.aM.toNat zE/\(eO ts as_ x l).2=l - 1 - ((aL (ts.getD x.aM.toNat zE):Int) - 1):=by
 rw[VO,b3R h,b4n (.inl h3),b3R (by omega)];exact⟨rfl,rfl⟩
def a5p{ts as_:List J}{x:J}{l:Int}(h:¬ l - 1<0)(h4:x.aq=4):(eO ts as_ x l).1=as_.getD x.aM.toNat zE/\(eO ts as_ x l).2=l - 1 - ((aL (as_.getD x.aM.toNat zE):Int) - 1):=by
 rw[VO,b3R h,b4n (.inr h4),b4n h4];exact⟨rfl,rfl⟩
def a5q{ts as_:List J}{x:J}{l:Int}(h:¬ l - 1<0)(h3:¬ x.aq=3)(h4:¬ x.aq=4)(i:Nat)(hi:x.M.length<=i):(eO ts as_ x l).1=J.mk x.aq x.aM (dS ts as_ (x.M.take i) (l - 1)).1/\(eO ts as_ x l).2=(dS ts as_ (x.M.take i) (l - 1)).2:=by
 rw[VO,b3R h,b3R (by omega),b4a hi];exact⟨rfl,rfl⟩
def a0l(ts as_:List J):∀ (xs:List J) (y:J) (l:Int),dS ts as_ (xs++[y]) l=((dS ts as_ xs l).1++[(eO ts as_ y (dS ts as_ xs l).2).1],(eO ts as_ y (dS ts as_ xs l).2).2)
 | [],y,l=>by rw[b4i,dS,dS];rfl
 | x::xs,y,l=>by rw[b4U,dS,a0l ts as_ xs y,dS];rfl
def Kq(ts as_:List J)(x:J)(i:Nat)(l:Int)(hi:i<x.M.length):(dS ts as_ (x.M.take (i+1)) l).1=(dS ts as_ (x.M.take i) l).1++[(eO ts as_ (x.M.getD i zE) (dS ts as_ (x.M.take i) l).2).1] /\
  (dS ts as_ (x.M.take (i+1)) l).2=(eO ts as_ (x.M.getD i zE) (dS ts as_ (x.M.take i) l).2).2:=by
 rw[cr zE x.M i hi,a0l];exact⟨rfl,rfl⟩
mutual
def a9l(ts as_:List J):∀ (x:J) (l:Int),l - (aL (cQ ts as_ x):Int)<=(eO ts as_ x l).2
 | ⟨k,n,ks⟩,l=>by
  have hp:=CX (cQ ts as_ ⟨k,n,ks⟩);rw[cQ] at hp ⊢;rw[eO];by_cases h0:l - 1<0
  .rw[if_pos h0];dsimp only;omega
  .rw[b3R h0];by_cases h3:k=3
   .subst h3;rw[if_pos (Or.inl rfl:(3:Int)=3\/(3:Int)=4),if_pos rfl,if_neg (show ¬ (3:Int)=4 by decide)];dsimp only;omega
   .by_cases h4:k=4
    .subst h4;rw[if_pos (Or.inr rfl:(4:Int)=3\/(4:Int)=4),if_neg h3,if_pos rfl,if_pos rfl];dsimp only;omega
    .rw[if_neg h3,if_neg h4,if_neg (show ¬ (k=3\/k=4) by omega),aL];have:=Q3 ts as_ ks (l - 1);dsimp only;omega
def Q3(ts as_:List J):∀ (xs:List J) (l:Int),l - (c9 (jV ts as_ xs):Int)<=(dS ts as_ xs l).2
 | [],l=>by rw[dS,jV,c9];dsimp only;omega
 | x::xs,l=>by
  rw[dS,jV,c9];have h1:=a9l ts as_ x l;have h2:=Q3 ts as_ xs (eO ts as_ x l).2;dsimp only;omega
end
def M5(ts as_:List J):∀ (xs:List J) (i:Nat),i<xs.length->c9 (jV ts as_ (xs.take i))+aL (cQ ts as_ (xs.getD i zE))<=c9 (jV ts as_ xs)
 | [],i,h=>by simp at h
 | x::xs,0,h=>by
  rw[b4I,jV,c9,jV,c9];show 0+aL (cQ ts as_ x)<=_;omega
 | x::xs,i+1,h=>by
  have:=M5 ts as_ xs i (by simpa using h);rw[List.take_succ_cons,jV,c9,jV,c9];show _+aL (cQ ts as_ (xs.getD i zE))<=_;omega
def ZP(ts as_:List J)(x:J)(h3:¬ x.aq=3)(h4:¬ x.aq=4):aL (cQ ts as_ x)=1+c9 (jV ts as_ x.M):=by
 cases x with
 | mk k n ks=>rw[cQ,b3R h3,b3R h4,aL]
def a9k{ts as_:List J}{x:J}{l:Int}(h3:¬ x.aq=3)(h4:¬ x.aq=4)(i:Nat)(hi:i<x.M.length)(h:(aL (cQ ts as_ x):Int)<=1000000+l)(hl:l<=1000):(aL (cQ ts as_ (x.M.getD i zE)):Int)<=1000000+(dS ts as_ (x.M.take i) (l - 1)).2/\(dS ts as_ (x.M.take i) (l - 1)).2<=1000:=by
 have h1:=M5 ts as_ x.M i hi;have h2:=Q3 ts as_ (x.M.take i) (l - 1);have h5:=(Kp ts as_ (x.M.take i) (l - 1)).1;rw[ZP ts as_ x h3 h4] at h;omega
def b1d{ts as_:List J}{x:J}{l:Int}(h3:¬ x.aq=3)(h4:¬ x.aq=4)(i:Nat)(h:(aL (cQ ts as_ x):Int)<=1000000+l)(hl:l<=1000) : -1000000<=(dS ts as_ (x.M.take i) (l - 1)).2/\(dS ts as_ (x.M.take i) (l - 1)).2<=1000:=by
 have h2:=Q3 ts as_ (x.M.take i) (l - 1);have h5:=(Kp ts as_ (x.M.take i) (l - 1)).1;have h6:c9 (jV ts as_ (x.M.take i))<=c9 (jV ts as_ x.M):=by
  rcases b4J i x.M.length with g|g
  .have:=M5 ts as_ x.M i g;omega
  .rw[b4a g];exact b4r _
 rw[ZP ts as_ x h3 h4] at h;omega
structure DW(ts as_:List J):Prop where
 t:∀ y∈ts,aL y<=1000
 a:∀ y∈as_,aL y<=1000
def DW.gt{ts as_:List J}(h:DW ts as_){n:Int}(h0:0<=n)(h1:n<(ts.length:Int)):aL (ts.getD n.toNat zE)<=1000/\av (ts.getD n.toNat zE)<=1048576:=by
 have:=h.t (ts.getD n.toNat zE) (by
  rw[b3V,b4j (by omega)];exact b4Z _)
 have:=Kv (ts.getD n.toNat zE);omega
def DW.ga{ts as_:List J}(h:DW ts as_){n:Int}(h0:0<=n)(h1:n<(as_.length:Int)):aL (as_.getD n.toNat zE)<=1000/\av (as_.getD n.toNat zE)<=1048576:=by
 have:=h.a (as_.getD n.toNat zE) (by
  rw[b3V,b4j (by omega)];exact b4Z _)
 have:=Kv (as_.getD n.toNat zE);omega
def a2O(ts as_:List J):∀ (xs:List J) (l:Int),(dS ts as_ xs l).1.length=xs.length
 | [],l=>by rw[dS]
 | x::xs,l=>by rw[dS,b3P,b3P,a2O ts as_ xs]
def b1f(ts as_:List J)(x:J)(l:Int):(dS ts as_ (x.M.take 0) l).1=[]/\(dS ts as_ (x.M.take 0) l).2=l:=by rw[b4I,dS];exact⟨rfl,rfl⟩
def tZ(n:Nat):fL:=⟨mU,[[.d (.int .i64)]],[.r (.st .expr), .v (.slice (.st .expr)), .v (.slice (.st .expr)), .b 0],[[(.int .i64)]],λ (e:J) (ts:List J) (as_:List J) (l:Int)=>⟨(some (cf e<n/\eV ts as_ e/\bc 62 62 e=true/\DW ts as_/\(aL (cQ ts as_ e):Int)<=1000000+l/\l<=1000),[⟨(.st .expr),(eO ts as_ e l).1⟩],[[⟨(.int .i64),(eO ts as_ e l).2⟩]])⟩⟩
def UF:fL:=⟨mU,[[.d (.int .i64)]],[.r (.st .expr), .v (.slice (.st .expr)), .v (.slice (.st .expr)), .b 0],[[(.int .i64)]],λ (e:J) (ts:List J) (as_:List J) (l:Int)=>⟨(some (eV ts as_ e/\bc 62 62 e=true/\DW ts as_/\(aL (cQ ts as_ e):Int)<=1000000+l/\l<=1000),[⟨(.st .expr),(eO ts as_ e l).1⟩],[[⟨(.int .i64),(eO ts as_ e l).2⟩]])⟩⟩
def Vf(e:J)(ts:List J)(as_:List J)(l:Int):Nat->aE:=(λ zb=>if Nat.beq zb 0 then .mk (Nat) (λ i=>i<=e.M.length/\¬ e.aq=3/\¬ e.aq=4/\¬ l - 1<0) (λ i=>e.M.length - i) [] [9,12,13,14,15,16,17,18,19,20,22,23,24,25,26,27,28,29,30,31,32,33,34,35,36,37,38,39,40,69,70,71,72,73,74,75,76,77] (λ i=>[(11, .aI ⟨(.int .i64),((i:Int):Int)⟩)]) [8] (λ i=>[(10, .box [.aI ⟨(.int .i64),(e.aq:Int)⟩, .aI ⟨(.int .i64),(e.aM:Int)⟩, .aw 10100]),(10100, .aw (.st .expr) ((dS ts as_ (e.M.take i) (l - 1)).1:List J)),(400000, .box [.aI ⟨(.int .i64),((dS ts as_ (e.M.take i) (l - 1)).2:Int)⟩])]) [] [] (λ i=>λ _ => .none) else .none)
abbrev CM(e:J)(ts:List J)(as_:List J)(l:Int):Prop:=(let v0:=as_.getD (Int.toNat e.aM) zE;let v1:=((aL v0:Int)) - (1:Int);let v2:=eO ts as_ e l;let v3:=decide (((as_.length:Int))<=e.aM);let v4:=l - (1:Int);(O e.aM ->
 (O ((as_.length:Int)) ->
 ((v3=true ->
 ((aJ (J.mk 2 0 []))=(v2.1)/\(v4=(v2.2)/\True)))/\(v3=false ->
 (ak e.aM as_.length/\(aL v0<=1048576/\(O v1/\(O v4 ->
 (O e.aM ->
 (O ((aL v0:Int)) ->
 (O (v4 - v1)/\(O e.aM ->
 (ak e.aM as_.length/\(av v0<=1048576/\((aJ v0)=(v2.1)/\((v4 - v1)=(v2.2)/\True)))))))))))))))))
abbrev Qk(n:Nat)(e:J)(ts:List J)(as_:List J)(l:Int):Prop:=(let v0:=((0:Int)=(0:Int)/\((0:Int)=(0:Int)/\(True/\True)))/\True;let v1:=(10:Nat)=10/\(2:Nat)=2;let v2:=e.aq=e.aq/\(e.aM=e.aM/\(True/\True));let v3:=l - 1;let v4:=(e.M.length:Int);(O e.aq ->
 (O e.aM ->
 ((∃ i1:Nat,let v5:=dS ts as_ (e.M.take i1) v3;((i1<=e.M.length/\¬ e.aq=3/\¬ e.aq=4/\¬ l - 1<0)/\((e=e/\(ts=ts/\(as_=as_/\(True/\(True/\(True/\((0:Int)=(i1:Int)/\True)))))))/\(v2/\((v5.1)=[]/\(((l - (1:Int))=(v5.2)/\True)/\v0))))))/\(∀ i1:Nat,let v5:=dS ts as_ (e.M.take i1) v3;let v6:=e.M.getD i1 zE;let v7:=(i1:Int);let v8:=eO ts as_ v6 (v5.2);((i1<=e.M.length/\¬ e.aq=3/\¬ e.aq=4/\¬ l - 1<0) ->
 (e.M.length<=140737488355328 ->
 (O v4 ->
 (((decide (v7<v4))=true ->
 (e.M.length<=140737488355328 ->
 (O v7 ->
 (ak v7 e.M.length/\(ts.length<=140737488355328 ->
 (as_.length<=140737488355328 ->
 (v1/\((10100:Nat)=10100/\(e=e/\(e=e/\(e.M=e.M/\(e.M=e.M/\(v7=v7/\(ak v7 e.M.length/\(v6=v6/\(ts=ts/\(as_=as_/\(((400000:Nat)=400000/\(0:Nat)=0)/\((cf v6<n/\eV ts as_ v6/\bc 62 62 v6=true/\DW ts as_/\(aL (cQ ts as_ v6):Int)<=1000000+(v5.2)/\(v5.2)<=1000)/\(v1/\((10100:Nat)=10100/\(v1/\((10100:Nat)=10100/\(aY ((v5.1).length+([(aJ (v8.1))]).length) 40/\(O (v7+(1:Int))/\(∃ i2:Nat,let v9:=dS ts as_ (e.M.take i2) v3;((i2<=e.M.length/\¬ e.aq=3/\¬ e.aq=4/\¬ l - 1<0)/\(e.M.length - i2<e.M.length - i1/\((e=e/\(ts=ts/\(as_=as_/\(True/\(True/\(True/\((v7+(1:Int))=(i2:Int)/\True)))))))/\(v2/\(((v5.1)++([(aJ (v8.1))]))=(v9.1)/\(((v8.2)=(v9.2)/\True)/\v0))))))))))))))))))))))))))))))))/\((decide (v7<v4))=false ->
 ((J.mk e.aq e.aM (v5.1))=((eO ts as_ e l).1)/\((v5.2)=((eO ts as_ e l).2)/\True))))))))))))
abbrev CN(e:J)(ts:List J)(as_:List J)(l:Int):Prop:=(let v0:=ts.getD (Int.toNat e.aM) zE;let v1:=((aL v0:Int)) - (1:Int);let v2:=eO ts as_ e l;let v3:=decide (((ts.length:Int))<=e.aM);let v4:=l - (1:Int);(O e.aM ->
 (O ((ts.length:Int)) ->
 ((v3=true ->
 ((aJ (J.mk 2 0 []))=(v2.1)/\(v4=(v2.2)/\True)))/\(v3=false ->
 (ak e.aM ts.length/\(aL v0<=1048576/\(O v1/\(O v4 ->
 (O e.aM ->
 (O ((aL v0:Int)) ->
 (O (v4 - v1)/\(O e.aM ->
 (ak e.aM ts.length/\(av v0<=1048576/\((aJ v0)=(v2.1)/\((v4 - v1)=(v2.2)/\True)))))))))))))))))
def Tk(n:Nat)(hE:aC [Hg])(hO:cO [gb,xV])(hM:cT [])(hS:cR [tZ n]):fL.Good (tZ (n+1)):=by
 refine⟨au oY rfl (by decide),?_⟩;show ∀ (e:J) (ts:List J) (as_:List J) (l:Int),(cf e<n+1/\eV ts as_ e/\bc 62 62 e=true/\DW ts as_/\(aL (cQ ts as_ e):Int)<=1000000+l/\l<=1000)->qI prog mU [[.d (.int .i64)]] [.ref ⟨(.st .expr),e⟩, .val ⟨(.slice (.st .expr)),ts⟩, .val ⟨(.slice (.st .expr)),as_⟩, .box 0] [[⟨(.int .i64),l⟩]] [⟨(.st .expr),(eO ts as_ e l).1⟩] [[⟨(.int .i64),(eO ts as_ e l).2⟩]];intro e ts as_ l hp;refine ig (own:=[48,68,98,99,100]) (wr:=[]) (cl:=[]) (ro:=[]) hE hO hM hS oY Pk (Vf e ts as_ l) rfl rfl (let v0:=decide (e.aq=(4:Int));let v1:=Qk n e ts as_ l;let v2:=decide (e.aq=(3:Int));let v3:=l - (1:Int);((O l->(O v3/\(O v3->(((decide (v3<(0:Int)))=true->(zE=((eO ts as_ e l).1)/\(v3=((eO ts as_ e l).2)/\True)))/\((decide (v3<(0:Int)))=false->(O e.aq->((v0=true->(O e.aq->((v2=false->(O e.aq->((v0=true->(CM e ts as_ l))/\(v0=false->v1))))/\(v2=(!false)->((true=true->(CM e ts as_ l))/\(true=false->v1))))))/\(v0=false->(O e.aq->((v2=false->(O e.aq->((v0=true->(CN e ts as_ l))/\(v0=false->v1))))/\(v2=(!false)->((true=true->(CN e ts as_ l))/\(true=false->v1))))))))))))))) (by kernel_rfl) ?_;obtain⟨hm,g0,g1,g2,g3,g4⟩:=hp;have f0:=λ i (h:i<e.M.length)=>cb zE e.M i h;have f1:=dn e;have f3:=b1f ts as_ e (l - 1);have f4:=CX (cQ ts as_ e);have f5:=YG g1;refine λ _=>⟨?_,λ _=>⟨λ _=>⟨?_,?_,U⟩,λ _ _=>⟨λ _ _=>⟨λ _ _=>⟨λ _ _ _=>⟨λ _=>⟨?_,?_,U⟩,λ _=>⟨?_,?_,?_,λ _ _ _=>⟨?_,λ _=>⟨?_,?_,?_,?_,U⟩⟩⟩⟩,λ _ _ _=>⟨⟨0,?_,⟨rfl,rfl,rfl,U,U,U,?_,U⟩,⟨rfl,rfl,U,U⟩,?_,⟨?_,U⟩,⟨rfl,rfl,U,U⟩,U⟩,λ i1 _ _ _=>⟨λ _ _ _=>⟨?_,λ _ _=>⟨⟨?_,?_⟩,?_,rfl,rfl,rfl,rfl,rfl,?_,rfl,rfl,rfl,⟨?_,?_⟩,?_,⟨?_,?_⟩,?_,⟨?_,?_⟩,?_,?_,?_,i1+1,?_,?_,⟨rfl,rfl,rfl,U,U,U,?_,U⟩,⟨rfl,rfl,U,U⟩,?_,⟨?_,U⟩,⟨rfl,rfl,U,U⟩,U⟩⟩,λ _=>⟨?_,?_,U⟩⟩⟩⟩,λ _=>⟨λ _ _ _=>⟨λ _=>⟨?_,?_,U⟩,λ _=>⟨?_,?_,?_,λ _ _ _=>⟨?_,λ _=>⟨?_,?_,?_,?_,U⟩⟩⟩⟩,λ _ _ _=>⟨⟨0,?_,⟨rfl,rfl,rfl,U,U,U,?_,U⟩,⟨rfl,rfl,U,U⟩,?_,⟨?_,U⟩,⟨rfl,rfl,U,U⟩,U⟩,λ i1 _ _ _=>⟨λ _ _ _=>⟨?_,λ _ _=>⟨⟨?_,?_⟩,?_,rfl,rfl,rfl,rfl,rfl,?_,rfl,rfl,rfl,⟨?_,?_⟩,?_,⟨?_,?_⟩,?_,⟨?_,?_⟩,?_,?_,?_,i1+1,?_,?_,⟨rfl,rfl,rfl,U,U,U,?_,U⟩,⟨rfl,rfl,U,U⟩,?_,⟨?_,U⟩,⟨rfl,rfl,U,U⟩,U⟩⟩,λ _=>⟨?_,?_,U⟩⟩⟩⟩⟩,λ _ _=>⟨λ _ _=>⟨λ _ _ _=>⟨λ _=>⟨?_,?_,U⟩,λ _=>⟨?_,?_,?_,λ _ _ _=>⟨?_,λ _=>⟨?_,?_,?_,?_,U⟩⟩⟩⟩,λ _ _ _=>⟨⟨0,?_,⟨rfl,rfl,rfl,U,U,U,?_,U⟩,⟨rfl,rfl,U,U⟩,?_,⟨?_,U⟩,⟨rfl,rfl,U,U⟩,U⟩,λ i1 _ _ _=>⟨λ _ _ _=>⟨?_,λ _ _=>⟨⟨?_,?_⟩,?_,rfl,rfl,rfl,rfl,rfl,?_,rfl,rfl,rfl,⟨?_,?_⟩,?_,⟨?_,?_⟩,?_,⟨?_,?_⟩,?_,?_,?_,i1+1,?_,?_,⟨rfl,rfl,rfl,U,U,U,?_,U⟩,⟨rfl,rfl,U,U⟩,?_,⟨?_,U⟩,⟨rfl,rfl,U,U⟩,U⟩⟩,λ _=>⟨?_,?_,U⟩⟩⟩⟩,λ _=>⟨λ _ _ _=>⟨λ _=>⟨?_,?_,U⟩,λ _=>⟨?_,?_,?_,λ _ _ _=>⟨?_,λ _=>⟨?_,?_,?_,?_,U⟩⟩⟩⟩,λ _ _ _=>⟨⟨0,?_,⟨rfl,rfl,rfl,U,U,U,?_,U⟩,⟨rfl,rfl,U,U⟩,?_,⟨?_,U⟩,⟨rfl,rfl,U,U⟩,U⟩,λ i1 _ _ _=>⟨λ _ _ _=>⟨?_,λ _ _=>⟨⟨?_,?_⟩,?_,rfl,rfl,rfl,rfl,rfl,?_,rfl,rfl,rfl,⟨?_,?_⟩,?_,⟨?_,?_⟩,?_,⟨?_,?_⟩,?_,?_,?_,i1+1,?_,?_,⟨rfl,rfl,rfl,U,U,U,?_,U⟩,⟨rfl,rfl,U,U⟩,?_,⟨?_,U⟩,⟨rfl,rfl,U,U⟩,U⟩⟩,λ _=>⟨?_,?_,U⟩⟩⟩⟩⟩⟩⟩⟩;all_goals try and_intros
 all_goals try (first|with_reducible rfl|with_reducible assumption)
 all_goals try simp only[J.eta,ag.eta,ar.eta,aK,br,bG] at *
 all_goals first|with_reducible rfl|with_reducible assumption|exact True.intro|(simp only[b3M,b3L,b3K,b3I] at *;done)|((try simp only[b4i,J.eta,b3E,b3D,b3K,b3I,b3S,b4f,ak,O,aY,b3U,b3P,b4b,b3Y,b4e] at *);first|exact True.intro|omega|(have h1:=a2O ts as_ (e.M.take i1) (l - 1);have h2:=b4e (l:=e.M) (i:=i1);omega)|exact f3.1|exact (f3.1).symm|exact f3.2|exact (f3.2).symm|exact (a5r (by omega)).1|exact ((a5r (by omega)).1).symm|exact (a5r (by omega)).2|exact ((a5r (by omega)).2).symm|exact (a5o (by omega) (by omega)).1|exact ((a5o (by omega) (by omega)).1).symm|exact (a5o (by omega) (by omega)).2|exact ((a5o (by omega) (by omega)).2).symm|exact (a5p (by omega) (by omega)).1|exact ((a5p (by omega) (by omega)).1).symm|exact (a5p (by omega) (by omega)).2|exact ((a5p (by omega) (by omega)).2).symm|exact (a5q (by omega) (by omega) (by omega) i1 (by omega)).1|exact ((a5q (by omega) (by omega) (by omega) i1 (by omega)).1).symm|exact (a5q (by omega) (by omega) (by omega) i1 (by omega)).2|exact ((a5q (by omega) (by omega) (by omega) i1 (by omega)).2).symm|exact (Kq _ _ _ _ _ (by omega)).1|exact ((Kq _ _ _ _ _ (by omega)).1).symm|exact (Kq _ _ _ _ _ (by omega)).2|exact ((Kq _ _ _ _ _ (by omega)).2).symm|exact uH g1 _ (by omega)|(have h1:=f0 i1 (by omega);omega)|exact ZM g0 (by omega) (by omega) i1 (by omega)|(have h1:=a9k (ts:=ts) (as_:=as_) (l:=l) (by omega) (by omega) i1 (by omega) g3 g4;omega)|(have h1:=b1d (ts:=ts) (as_:=as_) (l:=l) (by omega) (by omega) i1 g3 g4;omega)|(have h1:=lq g1 (.inl (by omega));have h2:=a4T g0 (by omega);have h3:=g2.gt h1.1 h2;omega)|(have h1:=lq g1 (.inr (by omega));have h2:=a4S g0 (by omega);have h3:=g2.ga h1.1 h2;omega))
def V2:∀ n,cR [tZ n]
 | 0=>⟨⟨au oY rfl (by decide),λ _ _ _ _ h=>absurd h.1 (b4y _)⟩,U⟩
 | n+1=>by
  have ih:=V2 n;exact⟨Tk n ⟨Nl,U⟩ ⟨gW,N7,U⟩ trivial ⟨ih.1,U⟩,U⟩
def Ov:fL.Good UF :=
 ⟨au oY rfl (by decide),λ e ts as_ l hp=>(V2 (cf e+1)).1.2 e ts as_ l (⟨b4v _,hp⟩)⟩
def DW.of{gg:aT}{ts as_:List J}(h:bg (bW gg) ts=true)(h2:bg (bW gg) as_=true):DW ts as_ :=
 ⟨λ y hy=>by have:=(rk gg y).1 (qh _ _ h y hy);omega,λ y hy=>by have:=(rk gg y).1 (qh _ _ h2 y hy);omega⟩
def DW.zt{ts as_:List J}(h:DW ts as_)(n:Nat):aL (ts.getD n zE)<=1000:=by
 rcases b4J n ts.length with g|g
 .have:=(h.gt (n:=(n:Int)) (by omega) (by omega)).1;simpa using this
 .rw[b3V,b5H g];exact b4w rfl
def DW.za{ts as_:List J}(h:DW ts as_)(n:Nat):aL (as_.getD n zE)<=1000:=by
 rcases b4J n as_.length with g|g
 .have:=(h.ga (n:=(n:Int)) (by omega) (by omega)).1;simpa using this
 .rw[b3V,b5H g];exact b4w rfl
mutual
def a2c{ts as_:List J}(h:DW ts as_):∀ x:J,aL (cQ ts as_ x)<=1000 * aL x
 | ⟨k,n,ks⟩=>by
  have hx:=CX (J.mk k n ks);rw[cQ];split
  .have:=h.zt n.toNat;omega
  .split
   .have:=h.za n.toNat;omega
   .have:=ZR h ks;rw[aL,aL];omega
def ZR{ts as_:List J}(h:DW ts as_):∀ xs:List J,c9 (jV ts as_ xs)<=1000 * c9 xs
 | []=>by rw[jV];simp[c9]
 | x::xs=>by
  have h1:=a2c h x;have h2:=ZR h xs;rw[jV,c9,c9];omega
end
def zk(e:J)(ts as_:List J):J:=(eO ts as_ e 200).1
def b2S{gg:aT}{e:J}{ts as_:List J}(b:Bool)(h:0<=(eO ts as_ e 200).2)(h2:Bl gg (eO ts as_ e 200).1=b)(hg:bK gg=true):bW gg (cQ ts as_ e)=b:=by
 rw[QK hg] at h2;rw[<-(VP gg ts as_ e).1,b4l h,h2];rfl
def b2R{gg:aT}{e:J}{ts as_:List J}(h:¬ 0<=(eO ts as_ e 200).2):bW gg (cQ ts as_ e)=false:=by
 rw[<-(VP gg ts as_ e).1,b3Q h];rfl
def Kt{gg:aT}{e:J}{ts as_:List J}(h:bW gg (cQ ts as_ e)=true):zk e ts as_=cQ ts as_ e:=by
 refine (VP gg ts as_ e).2 ?_;rw[<-(VP gg ts as_ e).1,b3J,b3E] at h;exact h.1
end
end Go.Proofs.YtmjfpcajohhbeaaGreatDoor

namespace Go.Proofs.YtmjfpcajohhbeaaGreatDoor
noncomputable section
open Go.RowKit
mutual
def Ow.lt{w:World}:∀ (d:D) {cs:List Value} {fp:List Nat},Ow w d cs fp->∀ b∈fp,b<w.heap.size
 | .int _ _,_,_,h=>λ b hb=>by rw[h.2] at hb;cases hb
 | .bool _,_,_,h=>λ b hb=>by rw[h.2] at hb;cases hb
 | .str _,_,_,h=>λ b hb=>by rw[h.2] at hb;cases hb
 | .slice n xs,_,_,h=>λ b hb=>by
  obtain⟨a,cap,h1,h2,h3,h4,h5⟩:=h;rcases h5 with ⟨_,_,rfl⟩|⟨b',f,l,t,rfl,rfl,hh,_,hr⟩
  .cases hb
  .rcases b3Z.1 hb with rfl|hb
   .exact (b4P.1 hh).1
   .exact bR.lt xs hr b hb
 | .agg ds,_,_,h=>cZ.lt ds h
 | .hole,_,_,h=>λ b hb=>by rw[h.2] at hb;cases hb
 | .ptr,_,_,h=>λ b hb=>by rw[h.2] at hb;cases hb
def cZ.lt{w:World}:∀ (ds:List D) {cs:List Value} {fp:List Nat},cZ w ds cs fp->∀ b∈fp,b<w.heap.size
 | [],_,_,h=>λ b hb=>by rw[h.2] at hb;cases hb
 | d::ds,_,_,h=>λ b hb=>by
  obtain⟨v,r,f1,f2,_,rfl,h3,h4⟩:=h;rcases b3H.1 hb with hb|hb
  .exact Ow.lt d h3 b hb
  .exact cZ.lt ds h4 b hb
def bR.lt{w:World}:∀ (ds:List D) {l:List Value} {fp:List Nat},bR w ds l fp->∀ b∈fp,b<w.heap.size
 | [],_,_,h=>λ b hb=>by rw[show _=[] from h] at hb;cases hb
 | d::ds,_,_,h=>λ b hb=>by
  obtain⟨c,r,f1,f2,_,rfl,h3,h4⟩:=h;rcases b3H.1 hb with hb|hb
  .exact Ow.lt d h3 b hb
  .exact bR.lt ds h4 b hb
end
structure Nd(w:World)(b o:Nat)(x:J)(L:List Value)(t:TypeId)(fy:List Nat):Prop where
 h:w.heap[b]?=some (.cells L.toArray t (0,0))
 l:o+3<=L.length
 ow:Ow w x.aQ ((L.drop o).take 3) fy
 nb:b∉fy
 nd:fy.Nodup
def Pl(w:World)(lo B:Nat)(x:J):Prop:=∃ cs t fp,w.heap[B]?=some (.cells cs.toArray t (0,0))/\Ow w x.aQ cs fp/\∀ q∈fp,lo<=q
structure GN(w:World)(lo B:Nat)(x:J)(ks:List Int)(b o:Nat)(L:List Value)(t:TypeId)(fy:List Nat):Prop where
 nd:Nd w b o (dN x ks) L t fy
 flo:∀ q∈fy,lo<=q
 lb:lo<=b
 put:∀ (w':World) (y:J) (c:List Value) (f:List Nat),(∀ k,k<w.heap.size->k≠b->k∉fy->w'.heap[k]?=w.heap[k]?)->w'.heap[b]?=some (.cells (L.take o++c++L.drop (o+3)).toArray t (0,0))->c.length=3->Ow w' y.aQ c f->(∀ q∈f,lo<=q)->Pl w' lo B (fS y x ks)
def b0V(w:World)(lo B:Nat)(x:J)(cs:List Value)(t:TypeId)(fp:List Nat)(h:w.heap[B]?=some (.cells cs.toArray t (0,0)))(ho:Ow w x.aQ cs fp)(hb:B∉fp)(hn:fp.Nodup)(hB:lo<=B)(hl:∀ q∈fp,lo<=q):GN w lo B x [] B 0 cs t fp:=by
 have hl6:cs.length=3:=(Ow.length _ ho).trans (by cases x;rfl);refine⟨⟨h,by omega,?_,hb,hn⟩,hl,hB,λ w' y c f hk hh hc hw hf=>⟨c,t,f,?_,hw,hf⟩⟩
 .rw[b5O,b4a (by omega)];exact ho
 .rw[b4I,b4i,List.drop_of_length_le (by omega),b4W] at hh;exact hh
def OX(y:J)(k:Int):∀ (ks:List Int) (x:J),fS (J.mk (dN x ks).aq (dN x ks).aM ((dN x ks).M.set k.toNat y)) x ks=fS y x (ks++[k])
 | [],x=>rfl
 | j::ks,x=>by
  simp only[b4U,fS,dN];rw[OX y k ks]
def Ud(w:World)(z:J)(cs:List Value)(fy:List Nat)(h:Ow w z.aQ cs fy):∃ c0 v,cs=c0++[v]/\c0.length=2/\Ow w (.slice 3 (z.M.map J.aQ)) [v] fy /\
  ∀ (w':World) (ks:List J) (f:List Nat),Ow w' (.slice 3 (ks.map J.aQ)) [v] f->Ow w' (J.mk z.aq z.aM ks).aQ cs f:=by
 cases z with
 | mk k n ks =>
  simp only[J.aQ,J.wC] at h;obtain⟨v0,r0,f0,g0,rfl,rfl,a0,v1,r1,f1,g1,rfl,rfl,a1,v2,r2,f2,g2,rfl,rfl,a2,rfl,rfl⟩:=h;have e0:f0=[]:=a0.2;have e1:f1=[]:=a1.2;subst e0 e1;refine⟨[v0,v1],v2,rfl,rfl,by simpa using a2,λ w' ks' f hw=>?_⟩;simp only[J.aQ,J.wC];exact⟨v0,_,[],f,rfl,rfl,(a0.aR _ λ b hb=>(by cases hb)),v1,_,[],f,rfl,rfl,(a1.aR _ λ b hb=>(by cases hb)),v2,[],f,[],rfl,by simp,hw,rfl,rfl⟩
def a6w(x:J):x.aQ.size=3:=by cases x;rfl
def a3W{w:World}{lo B:Nat}{x:J}{ks:List Int}{b o:Nat}{L:List Value}{t:TypeId}{fy:List Nat}(h:GN w lo B x ks b o L t fy) :
  ∃ a cap,w.cell? ⟨b,o+2,none⟩=some (.slice a (dN x ks).M.length cap)/\(dN x ks).M.length<=140737488355328:=by
 obtain⟨c0,v,e1,e2,e4,_⟩:=Ud w _ _ _ h.nd.ow;obtain⟨a,cap,q1,_,_,q4,_⟩:=e4;simp only[b3O,b3T,b3Y] at q1 q4;subst q1;refine⟨a,cap,?_,q4⟩;have hl:=h.nd.l;have h5:((L.drop o).take 3)[2]?=some (.slice a (dN x ks).M.length cap):=by rw[e1,b5g (by omega),e2];rfl
 rw[b6v (by omega),b5w] at h5;simp[World.cell?,h.nd.h,h5]
def a3X{w:World}{lo B:Nat}{x:J}{ks:List Int}{b o:Nat}{L:List Value}{t:TypeId}{fy:List Nat}(h:GN w lo B x ks b o L t fy)(k:Int)(hk:0<=k/\k<((dN x ks).M.length:Int)) :
  ∃ bk cap L' t' fy',w.cell? ⟨b,o+2,none⟩=some (.slice (some ⟨bk,0,none⟩) (dN x ks).M.length cap)/\(dN x ks).M.length<=140737488355328/\GN w lo B x (ks++[k]) bk (k.toNat * 3) L' t' fy':=by
 obtain⟨c0,v,e1,e2,e4,e5⟩:=Ud w _ _ _ h.nd.ow;obtain⟨a,cap,q1,q2,q3,q4,q5⟩:=id e4;simp only[b3O,b3T,b3Y] at q1 q2 q4;subst q1;have hl:=h.nd.l;have h5:((L.drop o).take 3)[2]?=some (.slice a (dN x ks).M.length cap):=by rw[e1,b5g (by omega),e2];rfl
 rw[b6v (by omega),b5w] at h5;rcases q5 with ⟨q5,_⟩|⟨bk,f,l,t',rfl,rfl,hb,hc,hr⟩
 .have:(dN x ks).M=[]:=b5V.1 q5;rw[this] at hk;simp at hk;omega
 have Ld:k.toNat<(dN x ks).M.length:=by omega
 have hn6:∀ d∈(dN x ks).M.map J.aQ,d.size=3:=λ d hd=>by
  obtain⟨y,_,rfl⟩:=b3N.1 hd;exact a6w y
 obtain⟨f0,f1,f2,rfl,hlen,hw1,EO⟩:=bR.split _ k.toNat ((dN x ks).M.getD k.toNat zE).aQ hr hn6 (by simp[Ld]);have hnk:=h.nd.nd;have hnb:=h.nd.nb;have a7B:=(b4x.1 hnk);have a9Z:=b4h.1 a7B.2;have b0a:=b4h.1 a9Z.1;refine⟨bk,cap,l,t',f1,?_,q4,⟨hb,hlen,?_,λ q=>a7B.1 (by simp[q]),b0a.2.1⟩,λ q hq=>h.flo q (by simp[hq]),h.flo bk (by simp),λ w' y c f' fY hh F6 hw hlo=>?_⟩
 .simp[World.cell?,h.nd.h,h5]
 .rw[(XX k ks x).2.1];exact hw1
 .rw[<-OX];have hbk:b≠bk:=λ e=>hnb (by simp[e]);have bN:=λ q hq=>Ow.lt _ h.nd.ow q hq;refine h.put w' _ ((L.drop o).take 3) (bk::(f0++f'++f2)) (λ q h1 h2 h3=>fY q h1 (λ e=>h3 (by simp[e])) λ e=>h3 (by simp[e])) ?_ (by simp;omega) ?_ (λ q hq=>?_)
  .rw[fY b (b4P.1 h.nd.h).1 hbk λ e=>hnb (by simp[e]),h.nd.h];congr 2;have e6:L.drop (o+3)=(L.drop o).drop 3:=by rw[b5p]
   rw[e6,b4H,b4S,b4S]
  .refine e5 w' _ _ ?_;refine⟨_,cap,by rw[b3Y,b5e],by rw[b3Y,b5e];exact q2,q3,by rw[b3Y,b5e];exact q4, .inr ⟨bk,f0++f'++f2,_,t',rfl,rfl,hh,?_,?_⟩⟩
   .simp only[b3U,b4e,b4V,F6];omega
   .rw[b6G];exact EO w' y.aQ c f' (λ q hq=>fY q (bN q (by simp only[b3H,b3Z] at hq ⊢;rcases hq with hq|hq<;>simp[hq])) (λ e=>a7B.1 (by rw[<-e];simp only[b3H] at hq ⊢;rcases hq with hq|hq<;>simp[hq])) λ e=>by
     rcases b3H.1 hq with hq|hq
     .exact b0a.2.2 q hq q e rfl
     .exact a9Z.2.2 q (by simp[e]) q hq rfl) F6 hw
  .simp only[b3H,b3Z] at hq;rcases hq with rfl|((hq|hq)|hq)
   .exact h.flo q (by simp)
   .exact h.flo q (by simp[hq])
   .exact hlo q hq
   .exact h.flo q (by simp[hq])
end
end Go.Proofs.YtmjfpcajohhbeaaGreatDoor

set_option maxRecDepth 4000
set_option maxHeartbeats 4000000
namespace Go.Proofs.YtmjfpcajohhbeaaGreatDoor
noncomputable section
open Go.RowKit Go.Proofs
def Ka{w:World}{b:Nat}{cs:List Value}{t:TypeId}(h:w.heap[b]?=some (.cells cs.toArray t (0,0))):ct w b 0 cs:=λ j v hj=>by
 simp[World.cell?,h,hj]
def fm{X Y Z:Nat->Prop}{a b c:World}(h:bE X a b)(k:bE Y b c)(hX:∀ i,i<a.heap.size->X i->Z i)(hY:∀ i,i<a.heap.size->Y i->Z i):bE Z a c :=
 ⟨k.os.trans h.os,k.tape.trans h.tape,k.output.trans h.output,b5v h.size k.size,λ i hi hz=>(k.block i (b3X hi h.size) λ q=>hz (hY i hi q)).trans (h.block i hi λ q=>hz (hX i hi q))⟩
def OV(w:World)(o:Obj):bE (λ _=>False) w (w.alloc o)/\(w.alloc o).heap[w.heap.size]?=some o/\(w.alloc o).heap.size=w.heap.size+1:=by
 refine⟨⟨rfl,rfl,rfl,by simp,λ b hb _=>?_⟩,?_,by simp⟩
 .show (w.heap.push o)[b]?=_;rw[b4M,b3R];omega
 .show (w.heap.push o)[w.heap.size]?=_;rw[b4M,b4n rfl]
def a9s{w W:World}{o1 o2 o3:Obj}(h:((w.alloc o1).alloc o2).alloc o3=W) :
  bE (λ _=>False) w W/\W.heap[w.heap.size]?=some o1/\W.heap[w.heap.size+1]?=some o2/\W.heap[w.heap.size+1+1]?=some o3/\W.heap.size=w.heap.size+3:=by
 subst h;refine⟨⟨rfl,rfl,rfl,by simp;omega,λ b hb _=>?_⟩,?_,?_,?_,by simp⟩
 .show (((w.heap.push o1).push o2).push o3)[b]?=_;rw[b4M,b4M,b4M,b3R (by simp only[b5t];omega),b3R (by simp only[b5t];omega),b3R (by omega)]
 .show (((w.heap.push o1).push o2).push o3)[w.heap.size]?=_;rw[b4M,b4M,b4M,b3R (by simp only[b5t];omega),b3R (by simp only[b5t];omega),b4n rfl]
 .show (((w.heap.push o1).push o2).push o3)[w.heap.size+1]?=_;rw[b4M,b4M,b3R (by simp only[b5t];omega),b4n (by simp only[b5t])]
 .show (((w.heap.push o1).push o2).push o3)[w.heap.size+1+1]?=_;rw[b4M,b4n (by simp only[b5t])]
def a4w{w0 w:World}{S:Nat->Prop}(hS:yU w0 S)(hb:Below w0.heap.size w0 w):yU w S :=
 ⟨λ b h=>b3X (hS.1 b h) hb.size,hS.2.mono (λ _ h=>h) λ b h=>hb.block b (hS.1 b h)⟩
def Yk{w0 w:World}{S:Nat->Prop}(hS:yU w0 S)(hb:Below w0.heap.size w0 w){d:D}{cs:List Value}(r:Rd w0 S d cs):Rd w S d cs:=Rd.aR (λ _ h=>h) (λ b h=>hb.block b (hS.1 b h)) _ r
def vK{B:Nat}{w w':World}(h:bE (λ _=>False) w w')(hB:B<=w.heap.size):Below B w w':=⟨h.os,h.tape,h.output,h.size,λ k hk=>h.block k (by omega) id⟩
def II{w0 w:World}(hb:Below w0.heap.size w0 w){b o:Nat}{cs:List Value}(h:ct w0 b o cs)(h1:b<w0.heap.size):ct w b o cs:=h.aR (hb.block b h1)
def fz0{w:World}{g e j:Nat}{cur:Array Value}(h:w.heap[g]?=some (.cells cur e (0,0))):w.frozen? ⟨g,j,none⟩=false:=by simp[World.frozen?,h]
def RH{w:World}{b t:Nat}{u0 u1 u2:Value}(h:w.heap[b]?=some (.cells #[u0,u1,u2] t (0,0))):(w.cell? ⟨b,0,none⟩=some u0/\w.cell? ⟨b,1,none⟩=some u1/\w.cell? ⟨b,2,none⟩=some u2)/\w.frozen? ⟨b,0,none⟩=false/\w.frozen? ⟨b,1,none⟩=false/\w.frozen? ⟨b,2,none⟩=false :=
 ⟨⟨by simp[World.cell?,h],by simp[World.cell?,h],by simp[World.cell?,h]⟩,fz0 h,fz0 h,fz0 h⟩
def Rg{w:World}{b t:Nat}{u0 u1 u2:Value}(c0 c1 c2:Value)(h:w.heap[b]?=some (.cells #[u0,u1,u2] t (0,0))):(((w.setCell ⟨b,0,none⟩ c0).setCell ⟨b,1,none⟩ c1).setCell ⟨b,2,none⟩ c2).heap[b]?=some (.cells #[c0,c1,c2] t (0,0)) /\
  ∀ k,k≠b->(((w.setCell ⟨b,0,none⟩ c0).setCell ⟨b,1,none⟩ c1).setCell ⟨b,2,none⟩ c2).heap[k]?=w.heap[k]? :=
 ⟨b7b _ _ _ _ _ _ (b7b _ _ _ _ _ _ (b7b _ _ _ _ _ _ h)),λ k hk=>by rw[b6T _ _ _ _ hk,b6T _ _ _ _ hk,b6T _ _ _ _ hk]⟩
def ow3{w:World}{x:J}{c:List Value}{fp:List Nat}(h:Ow w x.aQ c fp):∃ a m cap,c=[.int .i64 x.aq, .int .i64 x.aM, .slice a m cap]:=by
 cases x with
 | mk k n ks =>
  simp only[J.aQ,J.wC] at h;obtain⟨v0,r0,f0,g0,rfl,rfl,a0,v1,r1,f1,g1,rfl,rfl,a1,v2,r2,f2,g2,rfl,rfl,a2,rfl,rfl⟩:=h;have e0:[v0]=[.int .i64 k]:=a0.1.1;have e1:[v1]=[.int .i64 n]:=a1.1.1;obtain⟨a,cap,e2,_⟩:=a2;simp only[b3O,b3T] at e0 e1 e2;subst e0 e1 e2;exact⟨a,_,cap,rfl⟩
def bE.drew{X:Nat->Prop}{w w':World}(h:bE X w w'):bE X w w'.drew:=⟨h.os,h.tape,h.output,h.size,h.block⟩
def Rd.drew{w:World}{S:Nat->Prop}{d:D}{cs:List Value}(h:Rd w S d cs):Rd w.drew S d cs:=Rd.aR (w:=w) (w':=w.drew) (λ _ h=>h) (λ _ _=>rfl) _ h
def a6i{w0 w:World}{S:Nat->Prop}(hS:yU w0 S)(hb:Below w0.heap.size w0 w)(e:J)(ts as_:List J)(l:Int)(hp:eV ts as_ e/\bc 62 62 e=true/\DW ts as_/\(aL (cQ ts as_ e):Int)<=1000000+l/\l<=1000)(hl : -1000000<=l)
  (b o:Nat) (cs:List Value) (h1:b<w.heap.size) (h2:ct w b o cs) (r:Rd w0 S e.aQ cs) (v3 v4:Value) (r3:Rd w0 S (.slice 3 (ts.map J.aQ)) [v3]) (r4:Rd w0 S (.slice 3 (as_.map J.aQ)) [v4]) (q:Nat) (t:TypeId) (hq:w.heap[q]?=some (.cells #[.int .i64 l] t (0,0))) (hq0:w0.heap.size<=q) (hbq:b≠q) :
  Calls prog mU #[.pointer (some ⟨b,o,none⟩),v3,v4, .pointer (some ⟨q,0,none⟩)] w λ x w'=>∃ (k' n':Int) (a':Option Addr) (m' c':Nat) (fp:List Nat) (t':TypeId),x = .returned (.agg #[.int .i64 k', .int .i64 n', .slice a' m' c'])/\bE (λ b=>b=q) w w'/\Ow w' (eO ts as_ e l).1.aQ [.int .i64 k', .int .i64 n', .slice a' m' c'] fp/\fp.Nodup /\
   (∀ b∈fp,w.heap.size<=b/\b<w'.heap.size)/\w'.heap[q]?=some (.cells #[.int .i64 (eO ts as_ e l).2] t' (0,0)):=by
 have hi:O l:=⟨by show (-9223372036854775808:Int)<=l;omega,by show l<=9223372036854775807;omega⟩;have hnS:¬ S q:=λ h=>by have:=hS.1 q h;omega
 refine (Ov.2 e ts as_ l hp w S (λ _=>q) [_,_,_,_] [] (a4w hS hb) ⟨_,t,[],[],rfl,hq,⟨⟨rfl,rfl,rfl,hi⟩,rfl⟩,rfl⟩ b4Q (by simp) (λ k hk=>⟨bD hq,hnS⟩) (λ j k hj hk _=>by
   have hj:j<1:=hj;have hk:k<1:=hk;omega)
  ⟨⟨b,o,cs,rfl,h1,(λ h=>by rcases h with h|⟨k,_,h⟩;cases h;exact hbq h),h2,Yk hS hb r⟩,Yk hS hb r3,Yk hS hb r4,rfl,U⟩).mono ?_
 rintro x w' ⟨v,S',fp,Pz,rfl,hk,_,_,_,cN,hB,hn,hf,_⟩;obtain⟨c,rfl,ho⟩:=(show ∃ cs,v = .agg cs.toArray/\Ow w' (eO ts as_ e l).1.aQ cs fp from cN);obtain⟨lc,t',f1,f2,e1,YZ,hR,e2⟩:=hB;have e2:f2=[]:=e2;match lc,hR with
 | [u],⟨⟨_,_,hu,_⟩,e3⟩ =>
  have hu:[u]=[.int .i64 (eO ts as_ e l).2]:=hu;simp only[b3O,b3T] at hu;subst hu;obtain⟨a,m,cap,rfl⟩:=ow3 ho;refine⟨_,_,_,_,_,fp,t',rfl,⟨hk.os,hk.tape,hk.output,hk.size,λ i hi hq=>hk.block i hi λ h=>?_⟩,ho,(b4h.1 hn).1,λ i hi=>?_,YZ⟩
  .rcases h with h|⟨k,_,h⟩
   .cases h
   .exact hq h
  .have:=(hf i (b5N _ hi)).1;rcases this with h|h
   .cases h
   .exact h
def SJ{w0 w:World}{S:Nat->Prop}(hS:yU w0 S)(hb:Below w0.heap.size w0 w)(gg:aT)(g0 g1:Value)(r1:Rd w0 S (aS.sig.aQ gg) [g0,g1])(x:J)(b o:Nat)(cs:List Value)(h1:b<w.heap.size)(h2:ct w b o cs)(r:Rd w (λ b=>b<w.heap.size) x.aQ cs) :
  Calls prog uS #[.agg #[g0,g1], .pointer (some ⟨b,o,none⟩)] w λ e w'=>e = .returned (.bool (Bl gg x))/\bE (λ _=>False) w w':=by
 have hA:yU w λ b=>b<w.heap.size:=⟨λ _ h=>h,hS.2.mono (λ b h=>b3X (hS.1 b h) hb.size) λ b h=>hb.block b (hS.1 b h)⟩;refine (nw.2 gg x trivial w _ [_,_] hA ⟨⟨[g0,g1],rfl,r1.aR (λ b h=>b3X (hS.1 b h) hb.size) λ b h=>hb.block b (hS.1 b h)⟩,⟨b,o,cs,rfl,h1,h2,r⟩,U⟩).mono ?_;rintro e w' ⟨v,S',res,rfl,rfl,l9,_,_,hr⟩;have hr:[v]=[.bool (Bl gg x)]:=hr;simp only[b3O,b3T] at hr;subst hr;exact⟨rfl,l9⟩
def E0:Env:=M3 [] [] [] []
def hE0:bH prog E0:=RT trivial
def ld3{w:World}{g o:Nat}{cs:List Value}(hc:ct w g o cs)(hl:cs.length=3):(Instr.loadAt 38 (.pointer (some ⟨g,o,none⟩))).run prog w = .ok (.agg cs.toArray) w :=
 mY hE0 (T:=38) (τ := .st .expr) rfl hc hl
def C2{f:Func}{a:Act}{w:World}{b:Nat}{cs:List Value}{t:TypeId}{n:Value}(hf:f.results = #[.cell 8 38, .tmp 9])(h8:a.tmps.getD 8 undef = .pointer (some ⟨b,0,none⟩))(h9:a.tmps.getD 9 undef=n)(hb:w.heap[b]?=some (.cells cs.toArray t (0,0)))(hl:cs.length=3)(hd:a.defers=[])
  {R:Ending->World->Prop} (hR:R (.returned (.tuple #[.agg cs.toArray,n])) w):bodyPost prog f R .ret a w:=by
 refine bodyPost_ret ?_ hd hR;have cH:=ld3 (Ka hb) hl;simp only[Instr.loadAt,Instr.sureAddr,b4q,b4s,b4g] at cH;rw[wy,b5K];simp only[b4q,b7n,hf,b6d,List.mapM_nil,nK,h8,h9,asAddr,b4s,b4g,cH];rfl
def TQ{w w3:World}{q:Nat}{t:TypeId}{u0 u1 u2:Value}(c0 c1 c2:Value)(hk:bE (λ _=>False) w w3)(h:w3.heap[q]?=some (.cells #[u0,u1,u2] t (0,0)))(hq:w.heap.size<=q):bE (λ _=>False) w (((w3.setCell ⟨q,0,none⟩ c0).setCell ⟨q,1,none⟩ c1).setCell ⟨q,2,none⟩ c2) /\
  (((w3.setCell ⟨q,0,none⟩ c0).setCell ⟨q,1,none⟩ c1).setCell ⟨q,2,none⟩ c2).heap.size=w3.heap.size :=
 ⟨⟨hk.os,hk.tape,hk.output,by simpa using hk.size,λ b hb _=>((Rg c0 c1 c2 h).2 b (by omega)).trans (hk.block b hb id)⟩,by simp⟩
structure Zi(gg:aT)(e:J)(ts as_:List J):Prop where
 s:bK gg=true
 f:eV ts as_ e
 t:bc 62 62 e=true
 n:DW ts as_
 d:aL e<=500
set_option maxRecDepth 100000 in
def a6v(gg:aT)(e:J)(ts as_:List J)(hp:Zi gg e ts as_):cY prog Bh [.val ⟨.st .sig,gg⟩, .ref ⟨.st .expr,e⟩, .val ⟨.slice (.st .expr),ts⟩, .val ⟨.slice (.st .expr),as_⟩] [⟨.st .expr,zk e ts as_⟩,⟨.bool,bW gg (cQ ts as_ e)⟩]:=by
 intro w S cI fa hS ha n1 n2 n3;clear n1 n2 n3;match cI,ha with
 | [v1,v2,v3,v4],⟨a1,b1,e1,⟨z1,⟨c1,y1,r1⟩⟩,a2,b2,e2,⟨z2,⟨b,o,cs,y2,hb,hc,r2⟩⟩,a3,b3,e3,⟨z3,r3⟩,a4,b4,e4,⟨z4,r4⟩,e5⟩ =>
 have e5:b4=[]:=e5;subst e5 z1 z2 z3 z4 y1 y2;have e4:b3=[]:=e4;subst e4;have e3:b2=[]:=e3;subst e3;have e2:b1=[]:=e2;subst e2;have e1:fa=[]:=e1;subst e1;clear e1 e2 e3 e4 e5 ha;have r3:Rd w S (.slice 3 (ts.map J.aQ)) [v3]:=r3;have r4:Rd w S (.slice 3 (as_.map J.aQ)) [v4]:=r4;rename_i x1 x2;clear x1 x2;obtain⟨g0,g1,rfl⟩:∃ g0 g1,c1=[g0,g1]:=by
  have:=Rd.length _ r1;match c1,this with
  | [g0,g1],_=>exact⟨_,_,rfl⟩
 obtain⟨p0,p1,p2,p3,p4⟩:=hp;have b3k:=a2c p3 e;generalize hPo:(λ (x:Ending) (w':World)=>∃ v fp,x=Ending.returned v/\bE (λ b=>b∈([]:List Nat)) w w'/\wG w' [(⟨Ty.st aS.expr,zk e ts as_⟩:TV),⟨Ty.bool,bW gg (cQ ts as_ e)⟩] v fp/\fp.Nodup/\∀ b∈fp,b∈([]:List Nat)\/(w.heap.size<=b/\b<w'.heap.size))=Po;go_enter Tryz.func64,Tryz.ntmps64;go_wp2;generalize hW:((w.alloc _).alloc _).alloc _=W;obtain⟨k1,h1,h2,h3,h4⟩:=a9s hW;clear hW;have b1:Below w.heap.size w W:=vK k1 (b4r _);refine (a6i hS b1 e ts as_ 200 ⟨p1,p2,p3,by omega,by omega⟩ (by omega) b o cs (b3X hb k1.size) (II b1 hc hb) r2 v3 v4 r3 r4 _ _ h3 (by omega) (by omega)).mono ?_;rintro _ w1 ⟨k',n',a',m',c',fp,t',rfl,k2,ho,hn,hf,hq⟩;have e1:=(k2.block _ (bD h1) (by omega)).trans h1;have e2:=(k2.block _ (bD h2) (by omega)).trans h2;have k3:bE (λ _=>False) w w1:=fm k1 k2 (λ _ _ q=>q) λ i hi q=>by omega
 clear h1 h2 h3 k1 k2 b1;go_wp2_with fail;obtain⟨k4,e4,s4⟩:=OV w1 (.cells #[.int .i64 k', .int .i64 n', .slice a' m' c'] 38);have e5:=(k4.block _ (bD e1) id).trans e1;have e6:=(k4.block _ (bD e2) id).trans e2;have e7:=(k4.block _ (bD hq) id).trans hq;have l4:=bD e4;have ho4:=ho.aR _ λ b hb=>k4.block b (hf b hb).2 id;have k5:bE (λ _=>False) w (w1.alloc (.cells #[.int .i64 k', .int .i64 n', .slice a' m' c'] 38)).drew:=(fm k3 (Z:=λ _=>False) k4 (λ _ _ q=>q) λ _ _ q=>q).drew;have f1:∀ b∈fp,w.heap.size<=b/\b<w1.heap.size/\b≠w.heap.size/\b≠w.heap.size+1/\b≠w.heap.size+1+1:=λ b hb=>by have:=hf b hb;omega
 have sz1:=k3.size;have l1:=bD e1;have l2:=bD e2;have l3:=bD hq;clear e1 e2 hq ho k3 hf;generalize hw1:w1.heap.size=q1 at *
 generalize w1.alloc (.cells #[.int .i64 k', .int .i64 n', .slice a' m' c'] 38)=w2 at *
 have e4d:w2.drew.heap[q1]?=some (.cells #[.int .i64 k', .int .i64 n', .slice a' m' c'] 38 (0,0)):=e4;have e5d:w2.drew.heap[w.heap.size]?=some (.cells #[g0,g1] 41 (0,0)):=e5;have e6d:w2.drew.heap[w.heap.size+1]?=some (.cells #[.int .i64 0, .int .i64 0, .slice none 0 0] 38 (0,0)):=e6;have e7d:w2.drew.heap[w.heap.size+1+1]?=some (.cells #[.int .i64 (eO ts as_ e 200).2] t' (0,0)):=e7;obtain⟨⟨z0,z1,z2⟩,_⟩:=RH e4d;obtain⟨⟨y0,y1,y2⟩,y3,y4,y5⟩:=RH e6d;have u0:w2.drew.cell? ⟨w.heap.size,0,none⟩=some g0:=by simp[World.cell?,e5d]
 have u1:w2.drew.cell? ⟨w.heap.size,1,none⟩=some g1:=by simp[World.cell?,e5d]
 have x0:w2.drew.cell? ⟨w.heap.size+1+1,0,none⟩=some (.int .i64 (eO ts as_ e 200).2):=by simp[World.cell?,e7d]
 have ro:Rd w2.drew (λ b=>b<w2.drew.heap.size) (eO ts as_ e 200).1.aQ [.int .i64 k', .int .i64 n', .slice a' m' c']:=Rd.drew (S:=λ b=>b<w2.heap.size) (ho4.rd _ λ b hb=>by have:=(f1 b hb).2.1;show b<w2.heap.size;omega);have b5:Below w.heap.size w w2.drew:=vK k5 (b4r _);by_cases hl:0<=(eO ts as_ e 200).2
 .have hd:decide ((0:Int)<=(eO ts as_ e 200).2)=true:=b4l hl;have hok:=SJ hS b5 gg g0 g1 r1 (eO ts as_ e 200).1 q1 0 _ (bD e4d) (Ka e4d) ro;go_region_with (first
   | (
     go_at_call 39
     refine hok.mono ?_
     rintro _ w3 ⟨rfl,k6⟩
     have e4e:=(k6.block _ (bD e4d) id).trans e4d
     have e6e:=(k6.block _ (bD e6d) id).trans e6d
     obtain⟨⟨v0,v1,v2⟩,_⟩:=RH e4e
     obtain⟨⟨t0,t1,t2⟩,t3,t4,t5⟩:=RH e6e))
  all_goals
   have k7:=fm (Z:=λ _=>False) k5 k6 (λ _ _ q=>q) λ _ _ q=>q
   obtain⟨x9,o9⟩:=Rg (.int .i64 k') (.int .i64 n') (.slice a' m' c') e6e
   obtain⟨k8,s8⟩:=TQ (.int .i64 k') (.int .i64 n') (.slice a' m' c') k7 e6e (by omega)
   obtain⟨⟨j0,j1,j2⟩,_⟩:=RH x9
   have ho5:=ho4.aR (w':=((w3.setCell ⟨w.heap.size+1,0,none⟩ (.int .i64 k')).setCell ⟨w.heap.size+1,1,none⟩ (.int .i64 n')).setCell ⟨w.heap.size+1,2,none⟩ (.slice a' m' c')) _ λ b hb=>(o9 b (f1 b hb).2.2.2.1).trans (k6.block b (by have:=(f1 b hb).2.1;show b<w2.heap.size;omega) id)
   generalize ((w3.setCell ⟨w.heap.size+1,0,none⟩ (.int .i64 k')).setCell ⟨w.heap.size+1,1,none⟩ (.int .i64 n')).setCell ⟨w.heap.size+1,2,none⟩ (.slice a' m' c')=w4 at *
   go_wp2
   refine C2 rfl rfl rfl x9 rfl rfl ?_
   rw[<-hPo]
   refine⟨_,fp,rfl,⟨k8.os,k8.tape,k8.output,k8.size,λ i hi _=>k8.block i hi id⟩,⟨[_,_],rfl,fp,[],(b4W fp).symm,⟨_,rfl,ho5⟩,[],[],rfl,?_,rfl⟩,hn,λ b hb => .inr ⟨(f1 b hb).1,by have:=(f1 b hb).2.1;have:=k6.size;have:w2.drew.heap.size=w2.heap.size:=rfl;omega⟩⟩
   exact⟨congrArg (λ x=>[Value.bool x]) (b2S _ hl rfl p0).symm,rfl⟩
 .have hd:decide ((0:Int)<=(eO ts as_ e 200).2)=false:=b3Q hl;obtain⟨⟨i0,i1,i2⟩,i3,i4,i5⟩:=RH e6;have k5':bE (λ _=>False) w w2:=⟨k5.os,k5.tape,k5.output,k5.size,k5.block⟩;go_region;all_goals
   have k7:=fm (Z:=λ _=>False) k5' (bE.refl _ _) (λ _ _ q=>q) λ _ _ q=>q
   obtain⟨x9,o9⟩:=Rg (.int .i64 k') (.int .i64 n') (.slice a' m' c') e6
   obtain⟨k8,s8⟩:=TQ (.int .i64 k') (.int .i64 n') (.slice a' m' c') k7 e6 (by omega)
   obtain⟨⟨j0,j1,j2⟩,_⟩:=RH x9
   have ho5:=ho4.aR (w':=((w2.setCell ⟨w.heap.size+1,0,none⟩ (.int .i64 k')).setCell ⟨w.heap.size+1,1,none⟩ (.int .i64 n')).setCell ⟨w.heap.size+1,2,none⟩ (.slice a' m' c')) _ λ b hb=>(o9 b (f1 b hb).2.2.2.1).trans rfl
   generalize ((w2.setCell ⟨w.heap.size+1,0,none⟩ (.int .i64 k')).setCell ⟨w.heap.size+1,1,none⟩ (.int .i64 n')).setCell ⟨w.heap.size+1,2,none⟩ (.slice a' m' c')=w4 at *
   go_wp2
   refine C2 (w:=w4.drew) rfl rfl rfl x9 rfl rfl ?_
   rw[<-hPo]
   refine⟨_,fp,rfl,⟨k8.os,k8.tape,k8.output,k8.size,λ i hi _=>k8.block i hi id⟩,⟨[_,_],rfl,fp,[],(b4W fp).symm,⟨_,rfl,ho5.aR (w':=w4.drew) _ λ _ _=>rfl⟩,[],[],rfl,?_,rfl⟩,hn,λ b hb => .inr ⟨(f1 b hb).1,by have:=(f1 b hb).2.1;have:w4.drew.heap.size=w4.heap.size:=rfl;omega⟩⟩
   exact⟨congrArg (λ x=>[Value.bool x]) (b2R (gg:=gg) (e:=e) (ts:=ts) (as_:=as_) (by omega)).symm,rfl⟩
def pb:aH:=⟨Bh,[.v (.st .sig), .r (.st .expr), .v (.slice (.st .expr)), .v (.slice (.st .expr))],λ (gg:aT) (e:J) (ts:List J) (as_:List J)=>⟨(some (Zi gg e ts as_),[⟨(.st .expr),zk e ts as_⟩,⟨.bool,bW gg (cQ ts as_ e)⟩])⟩⟩
def Bk:aH.bX pb :=
 ⟨au Uo rfl (by decide),λ gg e ts as_ h=>a6v gg e ts as_ h⟩
def PU:aH.Good pb:=Bk.plain
end
end Go.Proofs.YtmjfpcajohhbeaaGreatDoor

namespace Go.Proofs.YtmjfpcajohhbeaaGreatDoor
noncomputable section
end
end Go.Proofs.YtmjfpcajohhbeaaGreatDoor

set_option maxRecDepth 4000
set_option maxHeartbeats 4000000
namespace Go.Proofs.YtmjfpcajohhbeaaGreatDoor
noncomputable section
open Go.RowKit Go.Proofs
def GN.same{w w':World}{lo B:Nat}{x:J}{ks:List Int}{b o:Nat}{L:List Value}{t:TypeId}{fy:List Nat}(h:GN w lo B x ks b o L t fy)(e:w'.heap=w.heap):GN w' lo B x ks b o L t fy :=
 ⟨⟨by rw[e];exact h.nd.h,h.nd.l,h.nd.ow.aR _ λ _ _=>by rw[e],h.nd.nb,h.nd.nd⟩,h.flo,h.lb,λ w'' y c f hk=>h.put w'' y c f λ k h1=>by rw[<-e];exact hk k (by rw[e];exact h1)⟩
def a6b{w:World}{b o:Nat}{x:J}{L:List Value}{t:TypeId}{fy:List Nat}(h:Nd w b o x L t fy):ct w b o ((L.drop o).take 3):=λ j v hj=>by
 have hj3:j<3:=by
  have:=(b4B.1 hj).1;rw[b4e] at this;omega
 rw[b6v hj3,b5w] at hj;simp[World.cell?,h.h,hj]
def a7T{w:World}{lo B:Nat}{x:J}{ks:List Int}:a6D w x ks λ k b o=>∃ L t fy,GN w lo B x (ks.take k) b o L t fy:=by
 rintro k b o ⟨L,t,fy,h⟩ hk;obtain⟨a,m,cap,hc3⟩:=ow3 h.nd.ow;have hc:=a6b h.nd;rw[hc3] at hc;have h0:=hc 0 _ rfl;obtain⟨a',ZA,h2,hl⟩:=a3W h;refine⟨h0,a',ZA,h2,hl,λ j hkn hj YW=>?_⟩;obtain⟨bk,b3i,L',t',fy',h3,_,h4⟩:=a3X h (j:Int) ⟨by omega,by omega⟩;rw[h3] at h2;simp only[Option.some.injEq,Value.slice.injEq,true_and] at h2;refine⟨bk,0,h2.1.symm,L',t',fy',?_⟩;rw[cr 0 ks k hkn,hj];simpa using h4
def Om{w0 w:World}{S:Nat->Prop}(hS:yU w0 S)(hb:Below w0.heap.size w0 w)(x:J)(hx:av x<=1048576)(b o:Nat)(cs:List Value)(h1:b<w.heap.size)(h2:ct w b o cs)(r:Rd w0 S x.aQ cs) :
  Calls prog mT #[.pointer (some ⟨b,o,none⟩)] w λ e w'=>∃ (k' n':Int) (a':Option Addr) (m' c':Nat) (fp:List Nat),e = .returned (.agg #[.int .i64 k', .int .i64 n', .slice a' m' c'])/\bE (λ _=>False) w w'/\Ow w' x.aQ [.int .i64 k', .int .i64 n', .slice a' m' c'] fp/\fp.Nodup/\∀ q∈fp,w.heap.size<=q/\q<w'.heap.size:=by
 refine (gW.2 x hx w S [_] [] (a4w hS hb) ⟨[],[],rfl,⟨rfl,⟨b,o,cs,rfl,h1,h2,Yk hS hb r⟩⟩,rfl⟩ (.inl rfl) List.nodup_nil (by simp)).mono ?_;rintro e w' ⟨v,fp,rfl,l9,cN,hn,hf⟩;obtain⟨c,rfl,ho⟩:=(show ∃ cs,v = .agg cs.toArray/\Ow w' x.aQ cs fp from cN);obtain⟨a,m,cap,rfl⟩:=ow3 ho;exact⟨_,_,_,_,_,fp,rfl,by simpa using l9,ho,hn,λ q hq=>by simpa using hf q hq⟩
def a1R{w0 w:World}{S:Nat->Prop}(hS:yU w0 S)(hb:Below w0.heap.size w0 w)(x:J)(b o:Nat)(cs:List Value)(h1:b<w.heap.size)(h2:ct w b o cs)(r:Rd w0 S x.aQ cs) :
  Calls prog fP #[.pointer (some ⟨b,o,none⟩)] w λ e w'=>e = .returned (.bool (bh x))/\bE (λ _=>False) w w':=by
 refine (jv.2 x trivial w _ [_] (a4w hS hb) ⟨⟨b,o,cs,rfl,h1,h2,Yk hS hb r⟩,U⟩).mono ?_;rintro e w' ⟨v,S',res,rfl,rfl,l9,_,_,hr⟩;have hr:[v]=[.bool (bh x)]:=hr;simp only[b3O,b3T] at hr;subst hr;exact⟨rfl,l9⟩
def C6{P:Program}{ops:Array Oper}{rest:List Oper}{op:Oper}{a:Act}{w w':World}{Q:Exit->Act->World->Prop}{ty:TypeId}{x y:Operand}{p v:Value}(hgd:op.guard=none)(ho:op.op = .store ty x y)
  (hx:a.eval x=p) (hy:a.eval y=v) (hr:(Instr.storeAt ty p v).run P w = .ok () w') (h:wpList P ops Q rest (a.put op.dst undef) w'):wpList P ops Q (op::rest) a w :=
 wpList_plain hgd λ K hK=>by
  unfold Oper.wp execOp;simp only[ho,hx,hy,Sem.run_bind,Sem.run_pure,Result.andThen_ok,hr];exact hK _ _ h
def st3{w:World}{g o:Nat}{l cs:List Value}{t:TypeId}(hg:w.heap[g]?=some (.cells l.toArray t (0,0)))(h6:cs.length=3)(h1:∀ u∈cs,u.oneCell'=true)(EL:o+3<=l.length) :
  ∃ w',(Instr.storeAt 38 (.pointer (some ⟨g,o,none⟩)) (.agg cs.toArray)).run prog w = .ok () w'/\w'.heap[g]?=some (.cells (l.take o++cs++l.drop (o+3)).toArray t (0,0))/\bE (λ b=>b=g) w w'/\w'.heap.size=w.heap.size:=by
 have:=zj (c:=⟨prog,E0,w,λ _=>False,λ _=>False,λ _=>none,λ _=>False,λ _=>none⟩) hE0 (T:=38) (τ := .st .expr) rfl (o:=o) (x := .agg cs.toArray) hg (by simp only[Value.cells];exact h6) (by simpa [Value.cells] using h1) EL;refine⟨_,this,?_,⟨rfl,rfl,rfl,by simp,λ b _ hb=>setRow_other w g b _ hb⟩,by simp⟩;rw[setRow_heap w g _ _ t _ hg];rfl
def Z4{n:Int}(h:IntKind.i64.min<=n/\n<=IntKind.i64.max):O n:=h
def zC:List Value:=[.int .i64 0, .int .i64 0, .slice none 0 0]
def a0y(w:World)(S:Nat->Prop)(V:J)(C:Int)(e:Ending)(w':World):Prop :=
 ∃ x S' res,e=Ending.returned x/\res=[(⟨.st .expr,V⟩:TV),⟨.int .i64,C⟩]/\bE (λ _=>False) w w' /\
  (∀ b,b<w.heap.size->(S' b↔S b))/\(∀ b,S' b->b<w'.heap.size)/\Ih w' S' res x
def Rq{w w':World}{S:Nat->Prop}{V:J}{C c:Int}(hS:yU w S)(hk:bE (λ _=>False) w w')(h:V=J.mk (0:Int) (0:Int) []/\C=c)(hc:O c) :
  a0y w S V C (.returned (.tuple #[.agg #[.int .i64 0, .int .i64 0, .slice none 0 0], .int .i64 c])) w':=by
 refine⟨_,S,_,rfl,rfl,hk,λ _ _=>b5G,λ b hb=>b3X (hS.1 b hb) hk.size,[_,_],rfl,⟨zC,rfl,?_⟩,?_,U⟩
 .rw[h.1];have h0:IntKind.i64.min<=0/\(0:Int)<=IntKind.i64.max:=by decide
  have hs:∀ n,Rd w' S (.slice n []) [.slice none 0 0]:=λ n=>⟨none,0,rfl,by simp,by simp[maxLen],by simp, .inl rfl⟩;exact⟨_,_,rfl,⟨rfl,h0⟩,_,_,rfl,⟨rfl,h0⟩,_,_,rfl,hs _,rfl⟩
 .rw[h.2];exact⟨rfl,hc⟩
def a9r{w W:World}{o1 o2:Obj}(h:(w.alloc o1).alloc o2=W) :
  bE (λ _=>False) w W/\W.heap[w.heap.size]?=some o1/\W.heap[w.heap.size+1]?=some o2/\W.heap.size=w.heap.size+2:=by
 subst h;refine⟨⟨rfl,rfl,rfl,by simp;omega,λ b hb _=>?_⟩,?_,?_,by simp⟩
 .show ((w.heap.push o1).push o2)[b]?=_;rw[b4M,b4M,b3R (by simp only[b5t];omega),b3R (by omega)]
 .show ((w.heap.push o1).push o2)[w.heap.size]?=_;rw[b4M,b4M,b3R (by simp only[b5t];omega),b4n rfl]
 .show ((w.heap.push o1).push o2)[w.heap.size+1]?=_;rw[b4M,b4n (by simp only[b5t])]
structure RqP(gg:aT)(x y:J):Prop where
 s:bK gg=true
 x:av x<=1048576
 y:av y<=1048576
set_option maxRecDepth 100000 in
def a6m(gg:aT)(x:J)(ps:List Int)(y:J)(hp:RqP gg x y):bd prog kO [.val ⟨.st .sig,gg⟩, .ref ⟨.st .expr,x⟩, .val ⟨.slice (.int .i64),ps⟩, .ref ⟨.st .expr,y⟩] (·=[⟨.st .expr,Bm gg x ps y⟩,⟨.int .i64,p9 gg x ps y⟩]):=by
 intro w S cI hS ha;match cI,ha with
 | [v1,v2,v3,v4],ha =>
 obtain⟨⟨c1,rfl,r1⟩,⟨b,o,cs,rfl,hb,hc,r2⟩,r3,⟨by_,oy,cy,rfl,hby,hcy,r4⟩,_⟩:=ha;have r3:Rd w S (.slice 1 (ps.map (D.int .i64))) [v3]:=r3;obtain⟨g0,g1,rfl⟩:∃ g0 g1,c1=[g0,g1]:=by
  have:=Rd.length _ r1;match c1,this with
  | [g0,g1],_=>exact⟨_,_,rfl⟩
 show Calls prog kO _ w (a0y w S (Bm gg x ps y) (p9 gg x ps y));generalize hPo:a0y w S (Bm gg x ps y) (p9 gg x ps y)=Po;go_enter Tryz.func93,Tryz.ntmps93;go_wp2;generalize hW:(w.alloc _).alloc _=W;obtain⟨k1,h1,h2,h4⟩:=a9r hW;clear hW;have b1:Below w.heap.size w W:=vK k1 (b4r _);refine (Om hS b1 x hp.x b o cs (b3X hb k1.size) (II b1 hc hb) r2).mono ?_;rintro _ w1 ⟨k',n',a',m',c',fp,rfl,k2,ho,hn,hf⟩;go_wp2_with fail;obtain⟨k4,e4,s4⟩:=OV w1 (.cells #[.int .i64 k', .int .i64 n', .slice a' m' c'] 38);have e1:=(k4.block _ ((k2.block _ (bD h1) id).trans h1 |> bD) id).trans ((k2.block _ (bD h1) id).trans h1);have e2:=(k4.block _ ((k2.block _ (bD h2) id).trans h2 |> bD) id).trans ((k2.block _ (bD h2) id).trans h2);have k3:bE (λ _=>False) w (w1.alloc (.cells #[.int .i64 k', .int .i64 n', .slice a' m' c'] 38)):=fm (fm (Z:=λ _=>False) k1 k2 (λ _ _ q=>q) λ _ _ q=>q) k4 (λ _ _ q=>q) λ _ _ q=>q;have ho2:=ho.aR _ λ b hb=>k4.block b (hf b hb).2 id;have hs2:=k2.size;have hl0:W.heap.size<=w1.heap.size:=hs2;have pE:∀ q∈fp,W.heap.size<=q:=λ q hq=>(hf q hq).1;have hBn:w1.heap.size∉fp:=λ q=>by have:=(hf _ q).2;omega
 clear k2 k4 ho hf h1 h2;generalize hB:w1.heap.size=B at *
 generalize w1.alloc (.cells #[.int .i64 k', .int .i64 n', .slice a' m' c'] 38)=w2 at *
 have r3':Rd w2 S (.slice 1 (ps.map (D.int .i64))) [v3]:=Yk hS (vK k3 (b4r _)) r3;have l0:GN w2 W.heap.size B x (ps.take 0) B 0 [.int .i64 k', .int .i64 n', .slice a' m' c'] 38 fp:=by
  rw[b4I];exact b0V w2 W.heap.size B x _ 38 fp e4 ho2 hBn hn hl0 pE
 have hA:=a1H w2 x ps (λ k b o=>∃ L t fy,GN w2 W.heap.size B x (ps.take k) b o L t fy) B 0 (by exact⟨_,_,_,l0⟩) a7T v3 S r3';refine hA.mono ?_;rintro _ w4 ⟨⟨m,hm⟩,p,bl,rfl,kA,bA,oA,hkA,rfl,hLA,hEA,hBA,WW⟩;have hh:w4.heap=w2.heap:=by rw[hm];rfl
 have k5:bE (λ _=>False) w w4:=by rw[hm];exact⟨k3.os,k3.tape,k3.output,k3.size,k3.block⟩
 have e5:w4.heap[w.heap.size]?=some (.cells #[g0,g1] 41 (0,0)):=by rw[hh];exact e1
 have e6:w4.heap[w.heap.size+1]?=some (.cells #[.int .i64 0, .int .i64 0, .slice none 0 0] 38 (0,0)):=by rw[hh];exact e2
 have hB4:B<w4.heap.size:=by rw[hh,s4];omega
 obtain⟨⟨y0,y1,y2⟩,y3,y4,y5⟩:=RH e6;have b5:Below w.heap.size w w4:=vK k5 (b4r _);have hLs:∀ b o,(∃ L t fy,GN w2 W.heap.size B x (ps.take ps.length) b o L t fy)->∃ L t fy,GN w4 W.heap.size B x ps b o L t fy:=λ b o ⟨L,t,fy,h⟩=>⟨L,t,fy,by rw[b6i] at h;exact h.same hh⟩;clear hm hA;cases cU:er x ps
 .obtain⟨x9,o9⟩:=Rg (.int .i64 0) (.int .i64 0) (.slice none 0 0) e6;obtain⟨k8,s8⟩:=TQ (.int .i64 0) (.int .i64 0) (.slice none 0 0) k5 e6 (by omega);go_wp2;refine C2 (cs:=zC) rfl rfl rfl x9 rfl rfl ?_;rw[<-hPo];exact Rq hS k8 (a8i cU) (Z4 (by decide))
 have P9:=WW cU;subst P9;rw[(XW ps x cU).2] at hBA;subst hBA;have hLx:=hLA;obtain⟨L,t,fy,hL⟩:=hLs _ _ hLx;generalize bA=bn at *
 generalize oA=on at *
 clear hLs hLx hLA WW hh;have r4':=Yk hS b5 r4;have b2g:by_<w4.heap.size:=b3X hby k5.size;have b2j:=II b5 hcy hby;have hC:=a1R hS b5 y by_ oy cy b2g b2j r4;generalize hbl:p7 x ps=bl at *
 have hs1:=k1.size;cases bl
 .have hgo:Fa x ps=false\/bh y=true := .inl (by unfold Fa;rw[hbl,Bool.and_false]);have k6:bE (λ _=>False) w4 w4:=bE.refl _ _;have bb5:=b5;go_wp2_with fail;refine (Om hS bb5 y hp.y by_ oy cy (Nat.lt_of_lt_of_le hby bb5.size) (II bb5 hcy hby) r4).mono ?_;rintro _ w6 ⟨k'',n'',a'',m'',c'',fp2,rfl,k7,ho6,hn6,hf6⟩;have hs6:=k6.size;have hs7:=k7.size;have Ja:bE (λ _=>False) w4 w6:=fm k6 k7 (λ _ _ q=>q) λ _ _ q=>q;have YS:=bD hL.nd.h;have hL6:w6.heap[bn]?=some (.cells L.toArray t (0,0)):=(Ja.block bn YS id).trans hL.nd.h;obtain⟨w7,cv,e15,Xk,b2x⟩:=st3 (o:=on) (cs:=[.int .i64 k'', .int .i64 n'', .slice a'' m'' c'']) hL6 rfl (by simp[Value.oneCell']) hL.nd.l;have hlb:=hL.lb;have k8:bE (λ _=>False) w w6:=fm k5 Ja (λ _ _ q=>q) λ _ _ q=>q;have k17:bE (λ _=>False) w w7:=fm k8 Xk (λ _ _ q=>q) λ i h q=>by omega
  have hP:Pl w7 W.heap.size B (fS y x ps):=by
   refine hL.put w7 y _ fp2 (λ k h1 h2 h3=>(Xk.block k (b3X h1 Ja.size) h2).trans (Ja.block k h1 id)) e15 rfl (ho6.aR _ λ q hq=>?_) λ q hq=>?_
   .have:=hf6 q hq;exact Xk.block q this.2 (by omega)
   .have:=hf6 q hq;have:=b5.size;omega
  obtain⟨c8,t8,f8,q1,q2,q3⟩:=hP;obtain⟨a8,m8,IG,rfl⟩:=ow3 q2;have e16:=(Xk.block _ (b3X (bD e5) Ja.size) (by omega)).trans ((Ja.block _ (bD e5) id).trans e5);have e17:=(Xk.block _ (b3X (bD e6) Ja.size) (by omega)).trans ((Ja.block _ (bD e6) id).trans e6);have u0:w7.cell? ⟨w.heap.size,0,none⟩=some g0:=by simp[World.cell?,e16]
  have u1:w7.cell? ⟨w.heap.size,1,none⟩=some g1:=by simp[World.cell?,e16]
  have hok:=SJ hS (vK k17 (b4r _)) gg g0 g1 r1 (fS y x ps) B 0 _ (bD q1) (Ka q1) (Ow.rd _ q2 λ q hq=>Ow.lt _ q2 q hq);go_wp2_with (first|(refine C6 rfl rfl rfl rfl cv ?_)|(go_at_call 39;refine hok.mono ?_));rintro _ w8 ⟨rfl,Xl⟩;have M1:=(Xl.block _ (bD e17) id).trans e17;have e19:=(Xl.block _ (bD q1) id).trans q1;have k19:bE (λ _=>False) w w8:=fm k17 Xl (λ _ _ q=>q) λ _ _ q=>q;rw[QK hp.s];obtain⟨⟨i0,i1,i2⟩,i3,i4,i5⟩:=RH M1;obtain⟨⟨j0,j1,j2⟩,_⟩:=RH e19;cases hiA:bW gg (fS y x ps)
  .obtain⟨x9,o9⟩:=Rg (.int .i64 0) (.int .i64 0) (.slice none 0 0) M1;obtain⟨Xm,s20⟩:=TQ (.int .i64 0) (.int .i64 0) (.slice none 0 0) k19 M1 (by omega);go_wp2;refine C2 (cs:=zC) rfl rfl rfl x9 rfl rfl ?_;rw[<-hPo];exact Rq hS Xm (JV cU hgo false hiA) (Z4 (by decide))
  .obtain⟨x9,o9⟩:=Rg (.int .i64 (fS y x ps).aq) (.int .i64 (fS y x ps).aM) (.slice a8 m8 IG) M1;obtain⟨Xm,s20⟩:=TQ (.int .i64 (fS y x ps).aq) (.int .i64 (fS y x ps).aM) (.slice a8 m8 IG) k19 M1 (by omega);have ho9:=q2.aR (w':=((w8.setCell ⟨w.heap.size+1,0,none⟩ (.int .i64 (fS y x ps).aq)).setCell ⟨w.heap.size+1,1,none⟩ (.int .i64 (fS y x ps).aM)).setCell ⟨w.heap.size+1,2,none⟩ (.slice a8 m8 IG)) _ λ q hq=>(o9 q (by have:=q3 q hq;omega)).trans (Xl.block q (Ow.lt _ q2 q hq) id);have b2y:=Xl.size;have a7x:=λ q hq=>Ow.lt _ q2 q hq;go_wp2;generalize ((w8.setCell ⟨w.heap.size+1,0,none⟩ (.int .i64 (fS y x ps).aq)).setCell ⟨w.heap.size+1,1,none⟩ (.int .i64 (fS y x ps).aM)).setCell ⟨w.heap.size+1,2,none⟩ (.slice a8 m8 IG)=w9 at *
   refine C2 (cs:=[.int .i64 (fS y x ps).aq, .int .i64 (fS y x ps).aM, .slice a8 m8 IG]) rfl rfl rfl x9 rfl rfl ?_;rw[<-hPo];have hd:=JV (gg:=gg) cU hgo true hiA;refine⟨_,λ b=>S b\/(w.heap.size<=b/\b<w9.heap.size),_,rfl,rfl,Xm,λ b hb=>⟨λ h=>h.elim id λ h=>absurd h.1 (by omega), .inl⟩,λ b h=>h.elim (λ h=>b3X (hS.1 b h) Xm.size) λ h=>h.2,[_,_],rfl,⟨_,rfl,?_⟩,?_,U⟩
   .rw[hd.1];exact ho9.rd _ λ q hq => .inr ⟨by have:=q3 q hq;omega,by have:=a7x q hq;omega⟩
   .rw[hd.2];exact⟨rfl,Z4 (by decide)⟩
 .cases hcd:bh y
  .rw[hcd] at hC;go_wp2_with (go_at_call 108;refine hC.mono ?_);rintro _ w5 ⟨rfl,k6⟩;have M1:=(k6.block _ (bD e6) id).trans e6;have k19:bE (λ _=>False) w w5:=fm k5 k6 (λ _ _ q=>q) λ _ _ q=>q;obtain⟨⟨i0,i1,i2⟩,i3,i4,i5⟩:=RH M1;obtain⟨x9,o9⟩:=Rg (.int .i64 0) (.int .i64 0) (.slice none 0 0) M1;obtain⟨Xm,s20⟩:=TQ (.int .i64 0) (.int .i64 0) (.slice none 0 0) k19 M1 (by omega);go_wp2;refine C2 (cs:=zC) rfl rfl rfl x9 rfl rfl ?_;rw[<-hPo];exact Rq hS Xm (a4t cU (by unfold Fa;rw[cU,hbl];rfl) hcd) (Z4 (by decide))
  .rw[hcd] at hC;have hgo:Fa x ps=false\/bh y=true := .inr hcd;go_wp2_with (go_at_call 108;refine hC.mono ?_);rintro _ w5 ⟨rfl,k6⟩;have bb5:Below w.heap.size w w5:=vK (fm (Z:=λ _=>False) k5 k6 (λ _ _ q=>q) λ _ _ q=>q) (b4r _);go_wp2_with fail;refine (Om hS bb5 y hp.y by_ oy cy (b3X hby bb5.size) (II bb5 hcy hby) r4).mono ?_;rintro _ w6 ⟨k'',n'',a'',m'',c'',fp2,rfl,k7,ho6,hn6,hf6⟩;have hs6:=k6.size;have hs7:=k7.size;have Ja:bE (λ _=>False) w4 w6:=fm k6 k7 (λ _ _ q=>q) λ _ _ q=>q;have YS:=bD hL.nd.h;have hL6:w6.heap[bn]?=some (.cells L.toArray t (0,0)):=(Ja.block bn YS id).trans hL.nd.h;obtain⟨w7,cv,e15,Xk,b2x⟩:=st3 (o:=on) (cs:=[.int .i64 k'', .int .i64 n'', .slice a'' m'' c'']) hL6 rfl (by simp[Value.oneCell']) hL.nd.l;have hlb:=hL.lb;have k8:bE (λ _=>False) w w6:=fm k5 Ja (λ _ _ q=>q) λ _ _ q=>q;have k17:bE (λ _=>False) w w7:=fm k8 Xk (λ _ _ q=>q) λ i h q=>by omega
   have hP:Pl w7 W.heap.size B (fS y x ps):=by
    refine hL.put w7 y _ fp2 (λ k h1 h2 h3=>(Xk.block k (b3X h1 Ja.size) h2).trans (Ja.block k h1 id)) e15 rfl (ho6.aR _ λ q hq=>?_) λ q hq=>?_
    .have:=hf6 q hq;exact Xk.block q this.2 (by omega)
    .have:=hf6 q hq;have:=b5.size;omega
   obtain⟨c8,t8,f8,q1,q2,q3⟩:=hP;obtain⟨a8,m8,IG,rfl⟩:=ow3 q2;have e16:=(Xk.block _ (b3X (bD e5) Ja.size) (by omega)).trans ((Ja.block _ (bD e5) id).trans e5);have e17:=(Xk.block _ (b3X (bD e6) Ja.size) (by omega)).trans ((Ja.block _ (bD e6) id).trans e6);have u0:w7.cell? ⟨w.heap.size,0,none⟩=some g0:=by simp[World.cell?,e16]
   have u1:w7.cell? ⟨w.heap.size,1,none⟩=some g1:=by simp[World.cell?,e16]
   have hok:=SJ hS (vK k17 (b4r _)) gg g0 g1 r1 (fS y x ps) B 0 _ (bD q1) (Ka q1) (Ow.rd _ q2 λ q hq=>Ow.lt _ q2 q hq);go_wp2_with (first|(refine C6 rfl rfl rfl rfl cv ?_)|(go_at_call 39;refine hok.mono ?_));rintro _ w8 ⟨rfl,Xl⟩;have M1:=(Xl.block _ (bD e17) id).trans e17;have e19:=(Xl.block _ (bD q1) id).trans q1;have k19:bE (λ _=>False) w w8:=fm k17 Xl (λ _ _ q=>q) λ _ _ q=>q;rw[QK hp.s];obtain⟨⟨i0,i1,i2⟩,i3,i4,i5⟩:=RH M1;obtain⟨⟨j0,j1,j2⟩,_⟩:=RH e19;cases hiA:bW gg (fS y x ps)
   .obtain⟨x9,o9⟩:=Rg (.int .i64 0) (.int .i64 0) (.slice none 0 0) M1;obtain⟨Xm,s20⟩:=TQ (.int .i64 0) (.int .i64 0) (.slice none 0 0) k19 M1 (by omega);go_wp2;refine C2 (cs:=zC) rfl rfl rfl x9 rfl rfl ?_;rw[<-hPo];exact Rq hS Xm (JV cU hgo false hiA) (Z4 (by decide))
   .obtain⟨x9,o9⟩:=Rg (.int .i64 (fS y x ps).aq) (.int .i64 (fS y x ps).aM) (.slice a8 m8 IG) M1;obtain⟨Xm,s20⟩:=TQ (.int .i64 (fS y x ps).aq) (.int .i64 (fS y x ps).aM) (.slice a8 m8 IG) k19 M1 (by omega);have ho9:=q2.aR (w':=((w8.setCell ⟨w.heap.size+1,0,none⟩ (.int .i64 (fS y x ps).aq)).setCell ⟨w.heap.size+1,1,none⟩ (.int .i64 (fS y x ps).aM)).setCell ⟨w.heap.size+1,2,none⟩ (.slice a8 m8 IG)) _ λ q hq=>(o9 q (by have:=q3 q hq;omega)).trans (Xl.block q (Ow.lt _ q2 q hq) id);have b2y:=Xl.size;have a7x:=λ q hq=>Ow.lt _ q2 q hq;go_wp2;generalize ((w8.setCell ⟨w.heap.size+1,0,none⟩ (.int .i64 (fS y x ps).aq)).setCell ⟨w.heap.size+1,1,none⟩ (.int .i64 (fS y x ps).aM)).setCell ⟨w.heap.size+1,2,none⟩ (.slice a8 m8 IG)=w9 at *
    refine C2 (cs:=[.int .i64 (fS y x ps).aq, .int .i64 (fS y x ps).aM, .slice a8 m8 IG]) rfl rfl rfl x9 rfl rfl ?_;rw[<-hPo];have hd:=JV (gg:=gg) cU hgo true hiA;refine⟨_,λ b=>S b\/(w.heap.size<=b/\b<w9.heap.size),_,rfl,rfl,Xm,λ b hb=>⟨λ h=>h.elim id λ h=>absurd h.1 (by omega), .inl⟩,λ b h=>h.elim (λ h=>b3X (hS.1 b h) Xm.size) λ h=>h.2,[_,_],rfl,⟨_,rfl,?_⟩,?_,U⟩
    .rw[hd.1];exact ho9.rd _ λ q hq => .inr ⟨by have:=q3 q hq;omega,by have:=a7x q hq;omega⟩
    .rw[hd.2];exact⟨rfl,Z4 (by decide)⟩
def AX:aH:=⟨kO,[.v (.st .sig), .r (.st .expr), .v (.slice (.int .i64)), .r (.st .expr)],λ (gg:aT) (x:J) (ps:List Int) (y:J)=>⟨(some (RqP gg x y),[⟨(.st .expr),Bm gg x ps y⟩,⟨(.int .i64),p9 gg x ps y⟩])⟩⟩
def HJ:aH.Good AX :=
 ⟨au KA rfl (by decide),λ gg x ps y h=>a6m gg x ps y h⟩
end
end Go.Proofs.YtmjfpcajohhbeaaGreatDoor

set_option maxRecDepth 4000
set_option maxHeartbeats 4000000
namespace Go.Proofs.YtmjfpcajohhbeaaGreatDoor
noncomputable section
def Nq:aH.Good nC:=Lu.plain
def b1t{p:aj}{k u:Int}(h:0<=u)(h2:u<=23):dt p k u=Q8 gP (oD.getD u.toNat [])/\qH k u=true:=by
 have e:=a8B (p:=p) (k:=k) h;refine⟨?_,e.2⟩;have a:=a3o u.toNat (by omega);rw[e.1,a.2.2];unfold FA;rw[List.getD_eq_getElem?_getD,List.getElem?_map,List.getD_eq_getElem?_getD,List.getElem?_eq_getElem (show u.toNat<oD.length by rw[oE];omega)];rfl
def b0v{u:Int}(h:0<=u)(h2:u<=23):(oD.getD u.toNat []).length<=8000:=by
 have a:=(a3o u.toNat (by omega)).2.1;omega
def b0J:bK gP=true:=by decide
def xP:aH:=⟨ym,[.r (.st .proof), .v (.int .i64), .v (.int .i64)],λ (p:aj) (k:Int) (u:Int)=>⟨(some (u<=23 /\ -40<=u/\0<=k/\k<=(p.ai.length:Int)),[⟨(.st .equation),dt p k u⟩,⟨.bool,qH k u⟩])⟩⟩
def U4(p:aj)(k:Int)(u:Int):Nat->aE:=λ _ => .none
abbrev CF(p:aj)(k:Int)(u:Int):Prop:=(let v0:=p.ai.getD (Int.toNat ((-1:Int) - u)) (ag.mk zE zE (0:Int) (0:Int) []);(ak ((-1:Int) - u) p.ai.length/\(ak ((-1:Int) - u) p.ai.length/\(p.ai.length<=140737488355328 ->
 (p.ai.length<=140737488355328 ->
 ((ar.mk (aJ v0.left) (aJ v0.right))=(dt p k u)/\true=(qH k u)))))))
def Tc(hE:aC [nC,xQ,ia]):aH.Good xP:=by
 refine⟨au Ej rfl (by decide),?_⟩;show ∀ (p:aj) (k:Int) (u:Int),(u<=23 /\ -40<=u/\0<=k/\k<=(p.ai.length:Int))->bd prog ym [.ref ⟨(.st .proof),p⟩, .val ⟨(.int .i64),k⟩, .val ⟨(.int .i64),u⟩] (·=[⟨(.st .equation),dt p k u⟩,⟨.bool,qH k u⟩]);intro p k u hp;refine aU (wr:=[]) (cl:=[]) (ro:=[]) hE Ej MS (U4 p k u) (let v0:=(ar.mk zE zE)=(dt p k u)/\false=(qH k u);let v2:=(oD).getD (Int.toNat u) [];let v3:=(-1:Int) - u;let v1:=decide (((p.ai.length:Int))<=v3);((((decide ((0:Int)<=u))=true->((oD).length<=140737488355328->(ak u (oD).length/\(v2.length<=140737488355328->((bK (gP)=true/\v2.length<=8000)/\((jU (Q8 (gP) v2))=(dt p k u)/\true=(qH k u)))))))/\((decide ((0:Int)<=u))=false->(O v3/\(((decide (k<=v3))=false->(p.ai.length<=140737488355328->(O ((p.ai.length:Int))->((v1=true->v0)/\(v1=false->(CF p k u))))))/\((decide (k<=v3))=(!false)->((true=true->v0)/\(true=false->(CF p k u)))))))))) (by kernel_rfl) ?_;refine⟨λ _ _=>⟨?_,λ _=>⟨?_,?_,?_⟩⟩,λ _=>⟨?_,λ _ _ _=>⟨λ _=>⟨?_,?_⟩,λ _=>⟨?_,?_,λ _ _=>⟨?_,?_⟩⟩⟩,λ _=>⟨λ _=>⟨?_,?_⟩,λ _=>⟨?_,?_,λ _ _=>⟨?_,?_⟩⟩⟩⟩⟩;all_goals try and_intros
 all_goals try (first|with_reducible rfl|with_reducible assumption)
 all_goals try simp only[J.eta,ag.eta,ar.eta,aK,br,bG] at *
 all_goals first|with_reducible rfl|with_reducible assumption|exact True.intro|(simp only[b3M,b3L,b3K,b3I] at *;done)|((try simp only[b4i,J.eta,b3E,b3D,b3K,b3I,b3S,b4f,ak,O,aY,b3U,b3P,b4b,b3Y,b4e] at *);first|exact True.intro|omega|exact b0J|exact b0v (by omega) (by omega)|(have e:=oE;omega)|((first|have Q:=b1t (p:=p) (k:=k) (u:=u) (by omega) (by omega)|have Q:=a8C (p:=p) (k:=k) (u:=u) (by omega) (by omega)|have Q:=a8D (p:=p) (k:=k) (u:=u) (by omega) (by omega));first|exact Q.1|exact Q.2|exact Q.1.symm|exact Q.2.symm))
def Nt:aH.Good xP:=Tc ⟨Nq,Nu,oI,U⟩
end
end Go.Proofs.YtmjfpcajohhbeaaGreatDoor

set_option maxRecDepth 4000
set_option maxHeartbeats 4000000
namespace Go.Proofs.YtmjfpcajohhbeaaGreatDoor
noncomputable section
def a6z{p:aj}{k u:Int}(h:sB p)(hk:k<=(p.ai.length:Int))(hu:u<=23)(ho:qH k u=true):aL (dt p k u).left<=500/\aL (dt p k u).right<=500:=by
 unfold dt;by_cases h0:0<=u
 .rw[b4n h0];have hm:FA.getD u.toNat (ar.mk zE zE)∈FA:=by
   rw[b3V,b4j (by rw[Wg];omega)];exact b4Z _
  have kX:FA.all (λ q=>decide (aL q.left<=500)&&decide (aL q.right<=500))=true:=by kernel_rfl
  have:=b4C.1 kX _ hm;rw[b3J,b3E,b3E] at this;exact this
 .rw[b3R h0];simp only[qH,b5s,b3E] at ho;rw[b4n (by omega)];have e:=h.e (i := -1 - u) (by omega) (by omega);have h1:=(rk p.sig _).1 e.1;have h2:=(rk p.sig _).1 e.2.1;exact⟨by have:=h1.2.1;show aL (bJ p (-1 - u)).left<=500;omega,by have:=h2.2.1;show aL (bJ p (-1 - u)).right<=500;omega⟩
def BD.su{p:aj}{k:Int}{e:J}{s:ae}(h:BD p k e s)(hp:Ru p k e s):Zi p.sig (dt p k s.use).left s.az s.bf/\Zi p.sig (dt p k s.use).right s.az s.bf:=by
 have ht:=J5 hp.v hp.k1 hp.u.1.2 h.u;have hn:=a6z hp.v hp.k1 hp.u.1.2 h.u;have hf:=DW.of hp.u.2.2.2.2.1 hp.u.2.2.2.2.2;have hq:=EB h.t h.a;exact⟨⟨hp.v.sg,hq.1,ht.1,hf,hn.1⟩,⟨hp.v.sg,hq.2,ht.2,hf,hn.2⟩⟩
def BD.n3{p:aj}{k:Int}{e:J}{s:ae}(h:BD p k e s)(h2:bW p.sig (cQ s.az s.bf (dt p k s.use).left)=false\/bW p.sig (cQ s.az s.bf (dt p k s.use).right)=false):jO p k e s=J.mk (0:Int) (0:Int) []/\im p k e s=3:=by
 refine a1C ?_ (by decide);rw[h.c];unfold V4;rcases h2 with h2|h2<;>rw[h2]<;>simp
def BD.t1{p:aj}{k:Int}{e:J}{s:ae}(h:BD p k e s)(h1:bW p.sig (cQ s.az s.bf (dt p k s.use).left)=true)(h2:bW p.sig (cQ s.az s.bf (dt p k s.use).right)=true)(hb:s.back=true):DV p k e s (zk (dt p k s.use).right s.az s.bf) (zk (dt p k s.use).left s.az s.bf) :=
 ⟨h,by unfold V4;rw[h1,h2];rfl,by rw[Kt h2];unfold apX;rw[hb];rfl,by rw[Kt h1];unfold V5;rw[hb];rfl⟩
def BD.t0{p:aj}{k:Int}{e:J}{s:ae}(h:BD p k e s)(h1:bW p.sig (cQ s.az s.bf (dt p k s.use).left)=true)(h2:bW p.sig (cQ s.az s.bf (dt p k s.use).right)=true)(hb:s.back=false):DV p k e s (zk (dt p k s.use).left s.az s.bf) (zk (dt p k s.use).right s.az s.bf) :=
 ⟨h,by unfold V4;rw[h1,h2];rfl,by rw[Kt h1];unfold apX;rw[hb];rfl,by rw[Kt h2];unfold V5;rw[hb];rfl⟩
def DV.nd{p:aj}{k:Int}{e:J}{s:ae}{x y:J}(h:DV p k e s x y):HX e s.path=QC e s.path:=by
 unfold HX;rw[h.r.n,(XW _ _ h.r.n).1];rfl
def DV.d6{p:aj}{k:Int}{e:J}{s:ae}{x y:J}(h:DV p k e s x y)(h2:bC (QC e s.path) x=false):jO p k e s=J.mk (0:Int) (0:Int) []/\im p k e s=6:=h.c6 (by rw[h.nd];exact h2)
def DV.dgo{p:aj}{k:Int}{e:J}{s:ae}{x y:J}(h:DV p k e s x y)(h2:bC (QC e s.path) x=true):jO p k e s=Bm p.sig e s.path y/\im p k e s=p9 p.sig e s.path y:=h.go (by rw[h.nd];exact h2)
def DV.rq{p:aj}{k:Int}{e:J}{s:ae}{x y:J}(h:DV p k e s x y)(hp:Ru p k e s):RqP p.sig e y:=⟨hp.v.sg,rl _ _ hp.e,h.sz⟩
def tI:aH:=⟨uv,[.r (.st .proof), .v (.int .i64), .r (.st .expr), .r (.st .proofStep)],λ (p:aj) (k:Int) (e:J) (s:ae)=>⟨(some (Ru p k e s),[⟨(.st .expr),jO p k e s⟩,⟨(.int .i64),im p k e s⟩])⟩⟩
def Sr(p:aj)(k:Int)(e:J)(s:ae):Nat->aE:=λ _ => .none
abbrev AJ(p:aj)(k:Int)(e:J)(s:ae):Prop:=(let v0:=aJ (zk (aJ (dt p k s.use).right) s.az s.bf);let v1:=aJ (zk (aJ (dt p k s.use).left) s.az s.bf);let v2:=zE=(jO p k e s)/\(6:Int)=(im p k e s);let v3:=QC e s.path;((s.back=true ->
 (((!(bC v3 v0))=true ->
 v2)/\((!(bC v3 v0))=false ->
 (RqP p.sig e v1/\(s.path.length<=140737488355328 ->
 (O (p9 p.sig e s.path v1) ->
 ((aJ (Bm p.sig e s.path v1))=(jO p k e s)/\(p9 p.sig e s.path v1)=(im p k e s))))))))/\(s.back=false ->
 (((!(bC v3 v1))=true ->
 v2)/\((!(bC v3 v1))=false ->
 (RqP p.sig e v0/\(s.path.length<=140737488355328 ->
 (O (p9 p.sig e s.path v0) ->
 ((aJ (Bm p.sig e s.path v0))=(jO p k e s)/\(p9 p.sig e s.path v0)=(im p k e s))))))))))
abbrev AK(p:aj)(k:Int)(e:J)(s:ae):Prop:=(let v2:=zE=(jO p k e s)/\(3:Int)=(im p k e s);let v3:=dt p k s.use;let v0 := !(bW p.sig (cQ s.az s.bf (aJ v3.right)));let v1 := !(bW p.sig (cQ s.az s.bf (aJ v3.left)));(s.az.length<=140737488355328 ->
 (s.bf.length<=140737488355328 ->
 (p=p/\(p=p/\(p.sig=p.sig/\(p.sig=p.sig/\(((10:Nat)=10/\(0:Nat)=0)/\(s=s/\(s=s/\(s.az=s.az/\(s.az=s.az/\(s=s/\(s=s/\(s.bf=s.bf/\(s.bf=s.bf/\(Zi p.sig (aJ v3.left) s.az s.bf/\(s.az.length<=140737488355328 ->
 (s.bf.length<=140737488355328 ->
 (p=p/\(p=p/\(p.sig=p.sig/\(p.sig=p.sig/\(((10:Nat)=10/\(3:Nat)=3)/\(s=s/\(s=s/\(s.az=s.az/\(s.az=s.az/\(s=s/\(s=s/\(s.bf=s.bf/\(s.bf=s.bf/\(Zi p.sig (aJ v3.right) s.az s.bf/\((v1=false ->
 ((v0=true ->
 v2)/\(v0=false ->
 (AJ p k e s))))/\(v1=(!false) ->
 ((true=true ->
 v2)/\(true=false ->
 (AJ p k e s))))))))))))))))))))))))))))))))))))))
abbrev AL(p:aj)(k:Int)(e:J)(s:ae):Prop:=(((!(er e s.path))=true ->
 (zE=(jO p k e s)/\(2:Int)=(im p k e s)))/\((!(er e s.path))=false ->
 (AK p k e s)))
abbrev AM(p:aj)(k:Int)(e:J)(s:ae):Prop:=((true=true ->
 (zE=(jO p k e s)/\(2:Int)=(im p k e s)))/\(true=false ->
 (AK p k e s)))
def QS(hE:aC [xP,o7,pb,o6,AX]):aH.Good tI:=by
 refine⟨au Ca rfl (by decide),?_⟩;show ∀ (p:aj) (k:Int) (e:J) (s:ae),(Ru p k e s)->bd prog uv [.ref ⟨(.st .proof),p⟩, .val ⟨(.int .i64),k⟩, .ref ⟨(.st .expr),e⟩, .ref ⟨(.st .proofStep),s⟩] (·=[⟨(.st .expr),jO p k e s⟩,⟨(.int .i64),im p k e s⟩]);intro p k e s hp;refine aU (wr:=[]) (cl:=[]) (ro:=[]) hE Ca KQ (Sr p k e s) (let v1:=jU (dt p k s.use);let v0:=bM [v1.left,v1.right];let v2 := !(decide (((s.az.length:Int))=(v0.1)));let v3 := !(decide (((s.bf.length:Int))=(v0.2)));((O s.use->((s.use<=23 /\ -40<=s.use/\0<=k/\k<=(p.ai.length:Int))/\(((!(qH k s.use))=true->(zE=(jO p k e s)/\(2:Int)=(im p k e s)))/\((!(qH k s.use))=false->((bc 62 62 v1.left=true/\bc 62 62 v1.right=true)/\(O (v0.1)->(O (v0.2)->(s.path.length<=140737488355328->(s.az.length<=140737488355328->(O ((s.az.length:Int))->((v2=false->(s.bf.length<=140737488355328->(O ((s.bf.length:Int))->((v3=false->(AL p k e s))/\(v3=(!false)->(AM p k e s))))))/\(v2=(!false)->((true=false->(AL p k e s))/\(true=(!false)->(AM p k e s))))))))))))))))) (by kernel_rfl) ?_;refine λ _=>⟨?_,λ _=>⟨?_,?_⟩,λ _=>⟨?_,λ _ _ _ _ _=>⟨λ _ _ _=>⟨λ _=>⟨λ _=>⟨?_,?_⟩,λ _ _ _=>⟨rfl,rfl,rfl,rfl,⟨?_,?_⟩,rfl,rfl,rfl,rfl,rfl,rfl,rfl,rfl,?_,λ _ _=>⟨rfl,rfl,rfl,rfl,⟨?_,?_⟩,rfl,rfl,rfl,rfl,rfl,rfl,rfl,rfl,?_,λ _=>⟨λ _=>⟨?_,?_⟩,λ _=>⟨λ _=>⟨λ _=>⟨?_,?_⟩,λ _=>⟨?_,λ _ _=>⟨?_,?_⟩⟩⟩,λ _=>⟨λ _=>⟨?_,?_⟩,λ _=>⟨?_,λ _ _=>⟨?_,?_⟩⟩⟩⟩⟩,λ _=>⟨λ _=>⟨?_,?_⟩,λ _=>⟨λ _=>⟨λ _=>⟨?_,?_⟩,λ _=>⟨?_,λ _ _=>⟨?_,?_⟩⟩⟩,λ _=>⟨λ _=>⟨?_,?_⟩,λ _=>⟨?_,λ _ _=>⟨?_,?_⟩⟩⟩⟩⟩⟩⟩⟩,λ _=>⟨λ _=>⟨?_,?_⟩,λ _ _ _=>⟨rfl,rfl,rfl,rfl,⟨?_,?_⟩,rfl,rfl,rfl,rfl,rfl,rfl,rfl,rfl,?_,λ _ _=>⟨rfl,rfl,rfl,rfl,⟨?_,?_⟩,rfl,rfl,rfl,rfl,rfl,rfl,rfl,rfl,?_,λ _=>⟨λ _=>⟨?_,?_⟩,λ _=>⟨λ _=>⟨λ _=>⟨?_,?_⟩,λ _=>⟨?_,λ _ _=>⟨?_,?_⟩⟩⟩,λ _=>⟨λ _=>⟨?_,?_⟩,λ _=>⟨?_,λ _ _=>⟨?_,?_⟩⟩⟩⟩⟩,λ _=>⟨λ _=>⟨?_,?_⟩,λ _=>⟨λ _=>⟨λ _=>⟨?_,?_⟩,λ _=>⟨?_,λ _ _=>⟨?_,?_⟩⟩⟩,λ _=>⟨λ _=>⟨?_,?_⟩,λ _=>⟨?_,λ _ _=>⟨?_,?_⟩⟩⟩⟩⟩⟩⟩⟩⟩,λ _=>⟨λ _=>⟨λ _=>⟨?_,?_⟩,λ _ _ _=>⟨rfl,rfl,rfl,rfl,⟨?_,?_⟩,rfl,rfl,rfl,rfl,rfl,rfl,rfl,rfl,?_,λ _ _=>⟨rfl,rfl,rfl,rfl,⟨?_,?_⟩,rfl,rfl,rfl,rfl,rfl,rfl,rfl,rfl,?_,λ _=>⟨λ _=>⟨?_,?_⟩,λ _=>⟨λ _=>⟨λ _=>⟨?_,?_⟩,λ _=>⟨?_,λ _ _=>⟨?_,?_⟩⟩⟩,λ _=>⟨λ _=>⟨?_,?_⟩,λ _=>⟨?_,λ _ _=>⟨?_,?_⟩⟩⟩⟩⟩,λ _=>⟨λ _=>⟨?_,?_⟩,λ _=>⟨λ _=>⟨λ _=>⟨?_,?_⟩,λ _=>⟨?_,λ _ _=>⟨?_,?_⟩⟩⟩,λ _=>⟨λ _=>⟨?_,?_⟩,λ _=>⟨?_,λ _ _=>⟨?_,?_⟩⟩⟩⟩⟩⟩⟩⟩,λ _=>⟨λ _=>⟨?_,?_⟩,λ _ _ _=>⟨rfl,rfl,rfl,rfl,⟨?_,?_⟩,rfl,rfl,rfl,rfl,rfl,rfl,rfl,rfl,?_,λ _ _=>⟨rfl,rfl,rfl,rfl,⟨?_,?_⟩,rfl,rfl,rfl,rfl,rfl,rfl,rfl,rfl,?_,λ _=>⟨λ _=>⟨?_,?_⟩,λ _=>⟨λ _=>⟨λ _=>⟨?_,?_⟩,λ _=>⟨?_,λ _ _=>⟨?_,?_⟩⟩⟩,λ _=>⟨λ _=>⟨?_,?_⟩,λ _=>⟨?_,λ _ _=>⟨?_,?_⟩⟩⟩⟩⟩,λ _=>⟨λ _=>⟨?_,?_⟩,λ _=>⟨λ _=>⟨λ _=>⟨?_,?_⟩,λ _=>⟨?_,λ _ _=>⟨?_,?_⟩⟩⟩,λ _=>⟨λ _=>⟨?_,?_⟩,λ _=>⟨?_,λ _ _=>⟨?_,?_⟩⟩⟩⟩⟩⟩⟩⟩⟩⟩⟩⟩;all_goals try and_intros
 all_goals try (first|with_reducible rfl|with_reducible assumption)
 all_goals try simp only[J.eta,ag.eta,ar.eta,aK,br,bG] at *
 all_goals first|with_reducible rfl|with_reducible assumption|exact True.intro|(simp only[b3M,b3L,b3K,b3I] at *;done)|((try simp only[b4i,J.eta,b3E,b3D,b3K,b3I,b3S,b4f,ak,O,aY,b3U,b3P,b4b,b3Y,b4e] at *);first|exact True.intro|omega|exact hp.u.1.1|exact hp.u.1.2|exact hp.k0|exact hp.k1|(have:=hp.u;omega)|exact (J5 hp.v hp.k1 hp.u.1.2 (by with_reducible assumption)).1|exact (J5 hp.v hp.k1 hp.u.1.2 (by with_reducible assumption)).2|((first|have Q:=a4G (p:=p) (k:=k) (e:=e) (s:=s) (.inl (by with_reducible assumption))|have Q:=a4G (p:=p) (k:=k) (e:=e) (s:=s) (.inr (by with_reducible assumption))|have Q:=a4H (p:=p) (k:=k) (e:=e) (s:=s) (a6P (by omega))|have Q:=a4H (p:=p) (k:=k) (e:=e) (s:=s) (a6Q (by omega)));first|exact Q.1|exact Q.2|exact Q.1.symm|exact Q.2.symm)|(have A:BD p k e s:=⟨(by with_reducible assumption),(by with_reducible assumption),by omega,by omega⟩;first|exact (A.su hp).1|exact (A.su hp).2|((first|have Q:=(A.n3 (.inl (by with_reducible assumption)))|have Q:=(A.n3 (.inr (by with_reducible assumption))));first|exact Q.1|exact Q.2|exact Q.1.symm|exact Q.2.symm)|(have B:=A.t1 (by with_reducible assumption) (by with_reducible assumption) (by with_reducible assumption);first|exact B.rq hp|((first|have Q:=(B.d6 (by with_reducible assumption))|have Q:=(B.dgo (by with_reducible assumption)));first|exact Q.1|exact Q.2|exact Q.1.symm|exact Q.2.symm))|(have B:=A.t0 (by with_reducible assumption) (by with_reducible assumption) (by with_reducible assumption);first|exact B.rq hp|((first|have Q:=(B.d6 (by with_reducible assumption))|have Q:=(B.dgo (by with_reducible assumption)));first|exact Q.1|exact Q.2|exact Q.1.symm|exact Q.2.symm))))
def K7:aH.Good tI:=QS ⟨Nt,Aw,PU,pC,HJ,U⟩
end
end Go.Proofs.YtmjfpcajohhbeaaGreatDoor

set_option maxRecDepth 4000
set_option maxHeartbeats 4000000
namespace Go.Proofs.YtmjfpcajohhbeaaGreatDoor
noncomputable section
def stX(f:ag):J:=(f.left.M.getD 0 zE).M.getD 1 zE
def stQ(f:ag):J:=(f.left.M.getD 0 zE).M.getD 0 zE
def Zh(f:ag):J:=f.left.M.getD 1 zE
def OI(f:ag):Bool:=decide (f.left.aq=6)&&(decide ((f.left.M.getD 0 zE).aq=6)&&decide (((f.left.M.getD 0 zE).M.getD 1 zE).aq=7))
def wA(c f:ag):Bool:=OI f&&(if c.bp=3 then bC ((stX f).M.getD 0 zE) (Zh f)&&(bC f.right (Zh f)&&(bC c.right (Zh f)&&bC c.left (J.mk 6 0 [J.mk 7 0 [stQ f,J.mk 8 0 [(stX f).M.getD 1 zE]],Zh f])))
 else bC ((stX f).M.getD 1 zE) (Zh f)&&(bC f.right (Zh f)&&(bC c.right (Zh f)&&bC c.left (J.mk 6 0 [J.mk 7 0 [J.mk 8 0 [(stX f).M.getD 0 zE],stQ f],Zh f]))))
def Yx{c f:ag}(h:OI f=false):wA c f=false:=by unfold wA;rw[h];rfl
def b2P{c f:ag}(h:OI f=true)(h3:c.bp=3):wA c f=(bC (((f.left.M.getD 0 zE).M.getD 1 zE).M.getD 0 zE) (f.left.M.getD 1 zE)&&(bC f.right (f.left.M.getD 1 zE)&&(bC c.right (f.left.M.getD 1 zE)&&bC c.left (J.mk 6 0 [J.mk 7 0 [(f.left.M.getD 0 zE).M.getD 0 zE,J.mk 8 0 [((f.left.M.getD 0 zE).M.getD 1 zE).M.getD 1 zE]],f.left.M.getD 1 zE])))):=by
 unfold wA;rw[h,if_pos h3];rfl
def b2O{c f:ag}(h:OI f=true)(h3:¬ c.bp=3):wA c f=(bC (((f.left.M.getD 0 zE).M.getD 1 zE).M.getD 1 zE) (f.left.M.getD 1 zE)&&(bC f.right (f.left.M.getD 1 zE)&&(bC c.right (f.left.M.getD 1 zE)&&bC c.left (J.mk 6 0 [J.mk 7 0 [J.mk 8 0 [((f.left.M.getD 0 zE).M.getD 1 zE).M.getD 0 zE],(f.left.M.getD 0 zE).M.getD 0 zE],f.left.M.getD 1 zE])))):=by
 unfold wA;rw[h,if_neg h3];rfl
def a8p{f:ag}(h:¬ f.left.aq=6):OI f=false:=by unfold OI;rw[decide_eq_false h];rfl
def a8q{f:ag}(h:¬ (f.left.M.getD 0 zE).aq=6):OI f=false:=by unfold OI;rw[decide_eq_false h];simp
def a8r{f:ag}(h:¬ ((f.left.M.getD 0 zE).M.getD 1 zE).aq=7):OI f=false:=by unfold OI;rw[decide_eq_false h];simp
def a8s{f:ag}(h1:f.left.aq=6)(h2:(f.left.M.getD 0 zE).aq=6)(h3:((f.left.M.getD 0 zE).M.getD 1 zE).aq=7):OI f=true:=by unfold OI;rw[decide_eq_true h1,decide_eq_true h2,decide_eq_true h3];rfl
structure InR(c f:ag):Prop where
 q:InQ c f
 r:c.bp=2\/c.bp=3
 s1:av f.left<=1048576
def b1o{c f:ag}(h:c.bp=2\/c.bp=3):wA c f=vU c f:=by
 by_cases hm:qa (ar.mk f.left f.right)=true
 .have e:=Rf hm;unfold qa at hm;simp only[Bool.and_eq_true,decide_eq_true_eq] at hm;obtain⟨⟨m1,m2⟩,m3⟩:=hm;have hr:f.left.M.getD 1 zE=f.right:=iA.1 m3;unfold vU wA OI stX stQ Zh;rw[e.1,e.2.1,show qa (ar.mk f.left f.right)=true by unfold qa;simp only[Bool.and_eq_true,decide_eq_true_eq];exact⟨⟨m1,m2⟩,m3⟩,decide_eq_true m1,decide_eq_true m2,hr];have hrr:bC f.right f.right=true:=iA.2 rfl;unfold a5d inW;rcases h with h|h
  .rw[b4n h,b4n h,b3R (show ¬ c.bp=3 by omega),hrr];simp only[b4T];cases decide (((f.left.M.getD 0 zE).M.getD 1 zE).aq=7)<;>simp only[b4T,b4Y];cases bC (((f.left.M.getD 0 zE).M.getD 1 zE).M.getD 1 zE) f.right<;>simp only[b4T,b4Y];rw[Bool.and_comm]
  .rw[b3R (show ¬ c.bp=2 by omega),b3R (show ¬ c.bp=2 by omega),b4n h,hrr];simp only[b4T];cases decide (((f.left.M.getD 0 zE).M.getD 1 zE).aq=7)<;>simp only[b4T,b4Y];cases bC (((f.left.M.getD 0 zE).M.getD 1 zE).M.getD 0 zE) f.right<;>simp only[b4T,b4Y];rw[Bool.and_comm]
 .have hm':qa (ar.mk f.left f.right)=false:=Bool.eq_false_iff.2 hm;have hi:vU c f=false:=by unfold vU;rw[hm'];rfl
  rw[hi];by_cases hh:OI f=true
  .have hn:bC f.right (Zh f)=false:=by
    refine Bool.eq_false_iff.2 λ q=>hm ?_;have q:=iA.1 q;unfold OI at hh;simp only[Bool.and_eq_true,decide_eq_true_eq] at hh;unfold qa;simp only[Bool.and_eq_true,decide_eq_true_eq];exact⟨⟨hh.1,hh.2.1⟩,iA.2 q.symm⟩
   unfold wA;rw[hh,hn];simp
  .rw[Yx (Bool.eq_false_iff.2 hh)]
def b2Q{f:ag}(h:bc 62 62 f.left=true)(hk:f.left.aq=6):f.left.M.length=2/\((f.left.M.getD 0 zE).aq=6->(f.left.M.getD 0 zE).M.length=2/\(((f.left.M.getD 0 zE).M.getD 1 zE).aq=7->((f.left.M.getD 0 zE).M.getD 1 zE).M.length=2)):=by
 have a:=Yw (q:=fQ f) h hk;refine⟨a.1,λ h2=>⟨(a.2.2 h2).1,λ h3=>Kw (a.2.2 h2).2 (.inr h3)⟩⟩
def Ku{x:J}(h:av x<=1048576)(i:Nat):av (x.M.getD i zE)<=1048576:=by
 rcases b4J i x.M.length with g|g
 .have:=eJ av zE x.M i g;rw[j8] at h;omega
 .rw[b3V,b5H g];exact b4w rfl
def xL:aH:=⟨yf,[.v (.int .i64), .v (.st .expr), .v (.st .expr)],λ (k:Int) (a:J) (b:J)=>⟨(none,[⟨(.st .expr),J.mk k 0 [a,b]⟩])⟩⟩
def UZ(k:Int)(a:J)(b:J):Nat->aE:=λ _ => .none
def S7(hE:aC []):aH.Good xL:=by
 refine⟨au Ed rfl (by decide),?_⟩;show ∀ (k:Int) (a:J) (b:J),True->bd prog yf [.val ⟨(.int .i64),k⟩, .val ⟨(.st .expr),a⟩, .val ⟨(.st .expr),b⟩] (·=[⟨(.st .expr),J.mk k 0 [a,b]⟩]);intro k a b _;refine aU (wr:=[]) (cl:=[]) (ro:=[4,5]) hE Ed MM (UZ k a b) ((J.mk k (0:Int) ([a,b]))=(J.mk k 0 [a,b])) (by kernel_rfl) ?_;refine ?_;all_goals try and_intros
 all_goals first|rfl|trivial|omega|(simp only[b3E,b3D,ak,O,bQ,cw,bI,aY] at *;omega)|(simp[ak,O] at *;omega)|grind
def No:aH.Good xL:=S7 trivial
def xN:aH:=⟨yj,[.r (.st .claim), .r (.st .claim)],λ (f:ag) (c:ag)=>⟨(some (InR c f),[⟨.bool,wA c f⟩])⟩⟩
def U2(f:ag)(c:ag):Nat->aE:=λ _ => .none
abbrev ru(f:ag)(c:ag):Prop:=(let v0:=f.left.M.getD 0 zE;let v2:=f.left.M.getD 1 zE;let v3:=v0.M.getD 0 zE;let v4:=(v0.M.getD 1 zE).M.getD 1 zE;let v1:=J.mk (8:Int) (0:Int) ([v4]);(av v4<=1048576/\(av v3<=1048576/\(O c.bp ->
 (((decide (c.bp=(3:Int)))=true ->
 (av v3<=1048576/\(av v2<=1048576/\(bC c.left (aJ (J.mk (6:Int) 0 [(aJ (J.mk (7:Int) 0 [v3,v1])),v2])))=(wA c f))))/\((decide (c.bp=(3:Int)))=false ->
 (av v2<=1048576/\(bC c.left (aJ (J.mk (6:Int) 0 [(aJ (J.mk (7:Int) 0 [v1,v3])),v2])))=(wA c f))))))))
abbrev Cz(f:ag)(c:ag):Prop:=(let v0 := !(bC c.right (f.left.M.getD 1 zE));((v0=true ->
 false=(wA c f))/\(v0=false ->
 (ru f c))))
abbrev rv(f:ag)(c:ag):Prop:=(let v0:=f.left.M.getD 0 zE;let v2:=f.left.M.getD 1 zE;let v3:=v0.M.getD 0 zE;let v4:=(v0.M.getD 1 zE).M.getD 0 zE;let v1:=J.mk (8:Int) (0:Int) ([v4]);(av v4<=1048576/\(av v3<=1048576/\(O c.bp ->
 (((decide (c.bp=(3:Int)))=true ->
 (av v3<=1048576/\(av v2<=1048576/\(bC c.left (aJ (J.mk (6:Int) 0 [(aJ (J.mk (7:Int) 0 [v3,v1])),v2])))=(wA c f))))/\((decide (c.bp=(3:Int)))=false ->
 (av v2<=1048576/\(bC c.left (aJ (J.mk (6:Int) 0 [(aJ (J.mk (7:Int) 0 [v1,v3])),v2])))=(wA c f))))))))
abbrev CA(f:ag)(c:ag):Prop:=(let v0 := !(bC c.right (f.left.M.getD 1 zE));((v0=true ->
 false=(wA c f))/\(v0=false ->
 (rv f c))))
abbrev ry(f:ag)(c:ag):Prop:=(let v1:=f.left.M.getD 1 zE;let v2:=f.left.M.getD 0 zE;let v0:=v2.M.getD 1 zE;let v3 := !(bC f.right v1);let v4 := !(bC (v0.M.getD 0 zE) v1);let v5 := !(bC (v0.M.getD 1 zE) v1);(f.left.M.length<=140737488355328 ->
 (ak (0:Int) f.left.M.length/\(v2.M.length<=140737488355328 ->
 (ak (0:Int) v2.M.length/\(f.left.M.length<=140737488355328 ->
 (ak (0:Int) f.left.M.length/\(v2.M.length<=140737488355328 ->
 (ak (1:Int) v2.M.length/\(v0.M.length<=140737488355328 ->
 (ak (0:Int) v0.M.length/\(f.left.M.length<=140737488355328 ->
 (ak (0:Int) f.left.M.length/\(v2.M.length<=140737488355328 ->
 (ak (1:Int) v2.M.length/\(v0.M.length<=140737488355328 ->
 (ak (1:Int) v0.M.length/\(f.left.M.length<=140737488355328 ->
 (ak (1:Int) f.left.M.length/\(O c.bp ->
 (((decide (c.bp=(3:Int)))=true ->
 ((v4=false ->
 ((v3=false ->
 (Cz f c))/\(v3=(!false) ->
 ((true=true ->
 false=(wA c f))/\(true=false ->
 (ru f c))))))/\(v4=(!false) ->
 ((true=false ->
 (Cz f c))/\(true=(!false) ->
 ((true=true ->
 false=(wA c f))/\(true=false ->
 (ru f c))))))))/\((decide (c.bp=(3:Int)))=false ->
 ((v5=false ->
 ((v3=false ->
 (CA f c))/\(v3=(!false) ->
 ((true=true ->
 false=(wA c f))/\(true=false ->
 (rv f c))))))/\(v5=(!false) ->
 ((true=false ->
 (CA f c))/\(true=(!false) ->
 ((true=true ->
 false=(wA c f))/\(true=false ->
 (rv f c)))))))))))))))))))))))))))))
abbrev CB(f:ag)(c:ag):Prop:=(let v0:=f.left.M.getD 0 zE;let v1 := !(decide ((v0.M.getD 1 zE).aq=(7:Int)));(f.left.M.length<=140737488355328 ->
 (ak (0:Int) f.left.M.length/\(v0.M.length<=140737488355328 ->
 (ak (1:Int) v0.M.length/\(O (v0.M.getD 1 zE).aq ->
 ((v1=true ->
 false=(wA c f))/\(v1=false ->
 (ry f c)))))))))
def Ta(hE:aC [o6,gb,xL]):aH.Good xN:=by
 refine⟨au Eh rfl (by decide),?_⟩;show ∀ (f:ag) (c:ag),(InR c f)->bd prog yj [.ref ⟨(.st .claim),f⟩, .ref ⟨(.st .claim),c⟩] (·=[⟨.bool,wA c f⟩]);intro f c hp;refine aU (wr:=[]) (cl:=[]) (ro:=[112]) hE Eh MQ (U2 f c) (let v0 := !(decide ((f.left.M.getD 0 zE).aq=(6:Int)));let v1 := !(decide (f.left.aq=(6:Int)));((O f.left.aq->((v1=false->(f.left.M.length<=140737488355328->(ak (0:Int) f.left.M.length/\(O (f.left.M.getD 0 zE).aq->((v0=false->(CB f c))/\(v0=(!false)->((true=true->false=(wA c f))/\(true=false->(ry f c)))))))))/\(v1=(!false)->((true=false->(CB f c))/\(true=(!false)->((true=true->false=(wA c f))/\(true=false->(ry f c)))))))))) (by kernel_rfl) ?_;refine λ _=>⟨λ _ _=>⟨?_,λ _=>⟨λ _ _=>⟨?_,λ _=>⟨?_,λ _=>⟨λ _=>?_,λ _ _=>⟨?_,λ _=>⟨?_,λ _=>⟨?_,λ _=>⟨?_,λ _=>⟨?_,λ _=>⟨?_,λ _=>⟨?_,λ _=>⟨?_,λ _=>⟨?_,λ _=>⟨λ _=>⟨λ _=>⟨λ _=>⟨λ _=>?_,λ _=>⟨?_,?_,λ _=>⟨λ _=>⟨?_,?_,?_⟩,λ _=>⟨?_,?_⟩⟩⟩⟩,λ _=>⟨λ _=>?_,λ _=>⟨?_,?_,λ _=>⟨λ _=>⟨?_,?_,?_⟩,λ _=>⟨?_,?_⟩⟩⟩⟩⟩,λ _=>⟨λ _=>⟨λ _=>?_,λ _=>⟨?_,?_,λ _=>⟨λ _=>⟨?_,?_,?_⟩,λ _=>⟨?_,?_⟩⟩⟩⟩,λ _=>⟨λ _=>?_,λ _=>⟨?_,?_,λ _=>⟨λ _=>⟨?_,?_,?_⟩,λ _=>⟨?_,?_⟩⟩⟩⟩⟩⟩,λ _=>⟨λ _=>⟨λ _=>⟨λ _=>?_,λ _=>⟨?_,?_,λ _=>⟨λ _=>⟨?_,?_,?_⟩,λ _=>⟨?_,?_⟩⟩⟩⟩,λ _=>⟨λ _=>?_,λ _=>⟨?_,?_,λ _=>⟨λ _=>⟨?_,?_,?_⟩,λ _=>⟨?_,?_⟩⟩⟩⟩⟩,λ _=>⟨λ _=>⟨λ _=>?_,λ _=>⟨?_,?_,λ _=>⟨λ _=>⟨?_,?_,?_⟩,λ _=>⟨?_,?_⟩⟩⟩⟩,λ _=>⟨λ _=>?_,λ _=>⟨?_,?_,λ _=>⟨λ _=>⟨?_,?_,?_⟩,λ _=>⟨?_,?_⟩⟩⟩⟩⟩⟩⟩⟩⟩⟩⟩⟩⟩⟩⟩⟩⟩⟩⟩,λ _=>⟨λ _=>?_,λ _ _=>⟨?_,λ _=>⟨?_,λ _=>⟨?_,λ _=>⟨?_,λ _=>⟨?_,λ _=>⟨?_,λ _=>⟨?_,λ _=>⟨?_,λ _=>⟨?_,λ _=>⟨λ _=>⟨λ _=>⟨λ _=>⟨λ _=>?_,λ _=>⟨?_,?_,λ _=>⟨λ _=>⟨?_,?_,?_⟩,λ _=>⟨?_,?_⟩⟩⟩⟩,λ _=>⟨λ _=>?_,λ _=>⟨?_,?_,λ _=>⟨λ _=>⟨?_,?_,?_⟩,λ _=>⟨?_,?_⟩⟩⟩⟩⟩,λ _=>⟨λ _=>⟨λ _=>?_,λ _=>⟨?_,?_,λ _=>⟨λ _=>⟨?_,?_,?_⟩,λ _=>⟨?_,?_⟩⟩⟩⟩,λ _=>⟨λ _=>?_,λ _=>⟨?_,?_,λ _=>⟨λ _=>⟨?_,?_,?_⟩,λ _=>⟨?_,?_⟩⟩⟩⟩⟩⟩,λ _=>⟨λ _=>⟨λ _=>⟨λ _=>?_,λ _=>⟨?_,?_,λ _=>⟨λ _=>⟨?_,?_,?_⟩,λ _=>⟨?_,?_⟩⟩⟩⟩,λ _=>⟨λ _=>?_,λ _=>⟨?_,?_,λ _=>⟨λ _=>⟨?_,?_,?_⟩,λ _=>⟨?_,?_⟩⟩⟩⟩⟩,λ _=>⟨λ _=>⟨λ _=>?_,λ _=>⟨?_,?_,λ _=>⟨λ _=>⟨?_,?_,?_⟩,λ _=>⟨?_,?_⟩⟩⟩⟩,λ _=>⟨λ _=>?_,λ _=>⟨?_,?_,λ _=>⟨λ _=>⟨?_,?_,?_⟩,λ _=>⟨?_,?_⟩⟩⟩⟩⟩⟩⟩⟩⟩⟩⟩⟩⟩⟩⟩⟩⟩⟩⟩,λ _=>⟨λ _ _=>⟨?_,λ _=>⟨?_,λ _=>⟨λ _=>?_,λ _ _=>⟨?_,λ _=>⟨?_,λ _=>⟨?_,λ _=>⟨?_,λ _=>⟨?_,λ _=>⟨?_,λ _=>⟨?_,λ _=>⟨?_,λ _=>⟨?_,λ _=>⟨λ _=>⟨λ _=>⟨λ _=>⟨λ _=>?_,λ _=>⟨?_,?_,λ _=>⟨λ _=>⟨?_,?_,?_⟩,λ _=>⟨?_,?_⟩⟩⟩⟩,λ _=>⟨λ _=>?_,λ _=>⟨?_,?_,λ _=>⟨λ _=>⟨?_,?_,?_⟩,λ _=>⟨?_,?_⟩⟩⟩⟩⟩,λ _=>⟨λ _=>⟨λ _=>?_,λ _=>⟨?_,?_,λ _=>⟨λ _=>⟨?_,?_,?_⟩,λ _=>⟨?_,?_⟩⟩⟩⟩,λ _=>⟨λ _=>?_,λ _=>⟨?_,?_,λ _=>⟨λ _=>⟨?_,?_,?_⟩,λ _=>⟨?_,?_⟩⟩⟩⟩⟩⟩,λ _=>⟨λ _=>⟨λ _=>⟨λ _=>?_,λ _=>⟨?_,?_,λ _=>⟨λ _=>⟨?_,?_,?_⟩,λ _=>⟨?_,?_⟩⟩⟩⟩,λ _=>⟨λ _=>?_,λ _=>⟨?_,?_,λ _=>⟨λ _=>⟨?_,?_,?_⟩,λ _=>⟨?_,?_⟩⟩⟩⟩⟩,λ _=>⟨λ _=>⟨λ _=>?_,λ _=>⟨?_,?_,λ _=>⟨λ _=>⟨?_,?_,?_⟩,λ _=>⟨?_,?_⟩⟩⟩⟩,λ _=>⟨λ _=>?_,λ _=>⟨?_,?_,λ _=>⟨λ _=>⟨?_,?_,?_⟩,λ _=>⟨?_,?_⟩⟩⟩⟩⟩⟩⟩⟩⟩⟩⟩⟩⟩⟩⟩⟩⟩⟩⟩,λ _=>⟨λ _=>?_,λ _ _=>⟨?_,λ _=>⟨?_,λ _=>⟨?_,λ _=>⟨?_,λ _=>⟨?_,λ _=>⟨?_,λ _=>⟨?_,λ _=>⟨?_,λ _=>⟨?_,λ _=>⟨λ _=>⟨λ _=>⟨λ _=>⟨λ _=>?_,λ _=>⟨?_,?_,λ _=>⟨λ _=>⟨?_,?_,?_⟩,λ _=>⟨?_,?_⟩⟩⟩⟩,λ _=>⟨λ _=>?_,λ _=>⟨?_,?_,λ _=>⟨λ _=>⟨?_,?_,?_⟩,λ _=>⟨?_,?_⟩⟩⟩⟩⟩,λ _=>⟨λ _=>⟨λ _=>?_,λ _=>⟨?_,?_,λ _=>⟨λ _=>⟨?_,?_,?_⟩,λ _=>⟨?_,?_⟩⟩⟩⟩,λ _=>⟨λ _=>?_,λ _=>⟨?_,?_,λ _=>⟨λ _=>⟨?_,?_,?_⟩,λ _=>⟨?_,?_⟩⟩⟩⟩⟩⟩,λ _=>⟨λ _=>⟨λ _=>⟨λ _=>?_,λ _=>⟨?_,?_,λ _=>⟨λ _=>⟨?_,?_,?_⟩,λ _=>⟨?_,?_⟩⟩⟩⟩,λ _=>⟨λ _=>?_,λ _=>⟨?_,?_,λ _=>⟨λ _=>⟨?_,?_,?_⟩,λ _=>⟨?_,?_⟩⟩⟩⟩⟩,λ _=>⟨λ _=>⟨λ _=>?_,λ _=>⟨?_,?_,λ _=>⟨λ _=>⟨?_,?_,?_⟩,λ _=>⟨?_,?_⟩⟩⟩⟩,λ _=>⟨λ _=>?_,λ _=>⟨?_,?_,λ _=>⟨λ _=>⟨?_,?_,?_⟩,λ _=>⟨?_,?_⟩⟩⟩⟩⟩⟩⟩⟩⟩⟩⟩⟩⟩⟩⟩⟩⟩⟩⟩;all_goals try and_intros
 all_goals try (first|with_reducible rfl|with_reducible assumption)
 all_goals try simp only[J.eta,ag.eta,ar.eta,aK,br,bG] at *
 all_goals first|with_reducible rfl|with_reducible assumption|exact True.intro|(simp only[b3M,b3L,b3K,b3I] at *;done)|((try simp only[b4i,J.eta,b3E,b3D,b3K,b3I,b3S,b4f,ak,O,aY,b3U,b3P,b4b,b3Y,b4e] at *);first|exact True.intro|omega|exact Yx (c:=c) (a8p (by with_reducible assumption))|exact (Yx (c:=c) (a8p (by with_reducible assumption))).symm|exact Yx (c:=c) (a8q (by with_reducible assumption))|exact (Yx (c:=c) (a8q (by with_reducible assumption))).symm|exact Yx (c:=c) (a8r (by with_reducible assumption))|exact (Yx (c:=c) (a8r (by with_reducible assumption))).symm|(have h:=b2Q hp.q.f1 (by with_reducible assumption);have h2:=h.1;first|omega|(have h3:=h.2 (by with_reducible assumption);have h5:=h3.1;first|omega|(have h4:=h3.2 (by with_reducible assumption);omega)))|exact Ku (Ku (Ku hp.s1 _) _) _|exact Ku (Ku hp.s1 _) _|exact Ku hp.s1 _|(rw[b2P (a8s (by with_reducible assumption) (by with_reducible assumption) (by with_reducible assumption)) (by with_reducible assumption)];simp only[*,b5o,b4T,b5c,b4Y];done)|(rw[b2O (a8s (by with_reducible assumption) (by with_reducible assumption) (by with_reducible assumption)) (by with_reducible assumption)];simp only[*,b5o,b4T,b5c,b4Y];done))
def Nr:aH.Good xN:=Ta ⟨pC,Cn,No,U⟩
end
end Go.Proofs.YtmjfpcajohhbeaaGreatDoor

set_option maxRecDepth 4000
set_option maxHeartbeats 4000000
namespace Go.Proofs.YtmjfpcajohhbeaaGreatDoor
noncomputable section
def Hq.ir{p:aj}{k:Int}(h:Hq p k)(h1:¬ (bJ p k).bp=1)(h2:(bJ p k).ref<k):InR (bJ p k) (bJ p (bJ p k).ref):=by
 have a:=h.i h2;have b:=h.b.2.2.1;exact⟨a.1,by omega,rl _ _ (h.v.e (i:=(bJ p k).ref) a.2.1 a.2.2).1⟩
def Hq.st{p:aj}{k:Int}(h:Hq p k)(h1:¬ (bJ p k).bp=1)(h2:(bJ p k).ref<k):wA (bJ p k) (bJ p (bJ p k).ref)=vU (bJ p k) (bJ p (bJ p k).ref):=b1o (h.ir h1 h2).r
def tL:aH:=⟨uy,[.r (.st .proof), .v (.int .i64)],λ (p:aj) (k:Int)=>⟨(some (Hq p k),[⟨.bool,jf p k⟩])⟩⟩
def Sv(p:aj)(k:Int):Nat->aE:=(λ zb=>if Nat.beq zb 0 then .mk (Nat) (λ j=>D0 p k j) (λ j=>(bJ p k).steps.length - j) [] [10,11,12,13,14,15,16,17,18,19,20,40,41,42,43] (λ j=>[(7, .aI ⟨(.int .i64),((j:Int):Int)⟩)]) [] (λ j=>[(6, .box [.aI ⟨(.int .i64),((ma p k j).aq:Int)⟩, .aI ⟨(.int .i64),((ma p k j).aM:Int)⟩, .aI ⟨(.slice (.st .expr)),((ma p k j).M:List J)⟩])]) [] [] (λ j=>λ _ => .none) else .none)
def QV(hE:aC [xN,tI,o6,gb]):aH.Good tL:=by
 refine⟨au Cd rfl (by decide),?_⟩;show ∀ (p:aj) (k:Int),(Hq p k)->bd prog uy [.ref ⟨(.st .proof),p⟩, .val ⟨(.int .i64),k⟩] (·=[⟨.bool,jf p k⟩]);intro p k hp;refine aU (wr:=[]) (cl:=[]) (ro:=[]) hE Cd KU (Sv p k) (let v6:=(0:Int);let v1:=ae.mk v6 false [] [] [];let v2:=ag.mk zE zE v6 v6 [];let v0:=p.ai.getD (Int.toNat k) v2;let v3:=(v0.steps.length:Int);let v4:=p.ai.getD (Int.toNat v0.ref) v2;let v5 := !(decide (v0.bp=(1:Int)));((p.ai.length<=140737488355328->(ak k p.ai.length/\(O v0.bp->((v5=true->(((decide (v0.ref<k))=true->(ak v0.ref p.ai.length/\(O v0.ref->(p.ai.length<=140737488355328->(O v0.ref->(InR v0 v4/\(wA v0 v4)=(jf p k)))))))/\((decide (v0.ref<k))=(!true)->(O v0.ref->false=(jf p k)))))/\(v5=false->(av v0.left<=1048576/\((∃ j1:Nat,(D0 p k j1/\((p=p/\(k=k/\(v0=v0/\(True/\(v6=(j1:Int)/\True)))))/\((v0.left.aq=((ma p k j1).aq)/\(v0.left.aM=((ma p k j1).aM)/\(v0.left.M=((ma p k j1).M)/\True)))/\True))))/\(∀ j1:Nat,let v7:=J.mk ((ma p k j1).aq) ((ma p k j1).aM) ((ma p k j1).M);let v8:=v0.steps.getD j1 v1;let v9 := !(decide ((im p k v7 v8)=v6));(D0 p k j1->(v0.steps.length<=140737488355328->(O v3->(((decide ((j1:Int)<v3))=true->(v0.steps.length<=140737488355328->(ak (j1:Int) v0.steps.length/\(Ru p k v7 v8/\(O (im p k v7 v8)->((v9=true->false=(jf p k))/\(v9=false->(O ((j1:Int)+(1:Int))/\(∃ j2:Nat,(D0 p k j2/\((bJ p k).steps.length - j2<(bJ p k).steps.length - j1/\((p=p/\(k=k/\(v0=v0/\(True/\(((j1:Int)+(1:Int))=(j2:Int)/\True)))))/\(((jO p k v7 v8).aq=((ma p k j2).aq)/\((jO p k v7 v8).aM=((ma p k j2).aM)/\((jO p k v7 v8).M=((ma p k j2).M)/\True)))/\True)))))))))))))/\((decide ((j1:Int)<v3))=false->(bC v7 v0.right)=(jf p k)))))))))))))))) (by kernel_rfl) ?_;refine λ _=>⟨?_,λ _=>⟨λ _=>⟨λ _=>⟨?_,λ _ _ _=>⟨?_,?_⟩⟩,λ _ _=>?_⟩,λ _=>⟨?_,⟨0,?_,⟨rfl,rfl,rfl,U,?_,U⟩,⟨?_,?_,?_,U⟩,U⟩,λ j1 _ _ _=>⟨λ _ _=>⟨?_,?_,λ _=>⟨λ _=>?_,λ _=>⟨?_,j1+1,?_,?_,⟨rfl,rfl,rfl,U,?_,U⟩,⟨?_,?_,?_,U⟩,U⟩⟩⟩,λ _=>?_⟩⟩⟩⟩;all_goals try and_intros
 all_goals first|with_reducible rfl|with_reducible assumption|exact True.intro|(simp only[b3M,b3L,b3K,b3I] at *;done)|((try simp only[b4i,J.eta,b3E,b3D,b3K,b3I,b3S,b4f,ak,O,aY,b3U,b3P,b4b,b3Y,b4e] at *);(try simp only[Pr] at *);first|with_reducible exact True.intro|omega|(rw[b0i];done)|exact rl _ _ hp.b.1|exact hp.k0|exact hp.k1|(have:=hp.k1;have:=hp.k0;omega)|exact hp.ir (by omega) (by omega)|(have:=(hp.i (by omega)).2;omega)|exact hp.z (by with_reducible assumption)|exact hp.z (by omega)|(rw[JZ (by omega),b4l (by omega),b4T,hp.st (by omega) (by omega)];done)|(rw[JZ (by omega),b3Q (by omega),b4Y];done)|(have h:D0 p k j1:=(by with_reducible assumption);first|exact h.ap (by omega)|exact h.no (by omega) (by with_reducible assumption)|exact (h.no (by omega) (by with_reducible assumption)).symm|exact h.end (by omega)|exact (h.end (by omega)).symm|exact h.next (by omega) (by with_reducible assumption)|(rw[a5s];done)|exact congrArg _ (a5s _ _ _).symm|(have:=h.jl;omega)))
def La:aH.Good tL:=QV ⟨Nr,K7,pC,Cn,U⟩
def tJ:aH:=⟨uw,[.r (.st .proof)],λ (p:aj)=>⟨(some (sB p),[⟨(.int .i64),(zR p:Int)⟩])⟩⟩
def Ss(p:aj):Nat->aE:=(λ zb=>if Nat.beq zb 0 then .mk (Nat) (λ k=>zw p k) (λ k=>p.ai.length - k) [] [] (λ k=>[(3, .aI ⟨(.int .i64),((k:Int):Int)⟩)]) [] (λ k=>[]) [] [] (λ k=>λ _ => .none) else .none)
def QT(hE:aC [tL]):aH.Good tJ:=by
 refine⟨au Cb rfl (by decide),?_⟩;show ∀ (p:aj),(sB p)->bd prog uw [.ref ⟨(.st .proof),p⟩] (·=[⟨(.int .i64),(zR p:Int)⟩]);intro p hp;refine aU (wr:=[]) (cl:=[]) (ro:=[]) hE Cb KR (Ss p) (let v0:=(p.ai.length:Int);(((∃ k1:Nat,(zw p k1/\((p=p/\((0:Int)=(k1:Int)/\True))/\True)))/\(∀ k1:Nat,let v1:=(k1:Int);(zw p k1->(p.ai.length<=140737488355328->(O v0->(((decide (v1<v0))=true->(Hq p v1/\(((!(jf p v1))=true->v1=(zR p:Int))/\((!(jf p v1))=false->(O (v1+(1:Int))/\(∃ k2:Nat,(zw p k2/\(p.ai.length - k2<p.ai.length - k1/\((p=p/\((v1+(1:Int))=(k2:Int)/\True))/\True)))))))))/\((decide (v1<v0))=false->(p.ai.length<=140737488355328->(O v0->v0=(zR p:Int)))))))))))) (by kernel_rfl) ?_;refine⟨⟨0,?_,⟨rfl,?_,U⟩,U⟩,λ k1 _ _ _=>⟨λ _=>⟨?_,λ _=>?_,λ _=>⟨?_,k1+1,?_,?_,⟨rfl,?_,U⟩,U⟩⟩,λ _ _ _=>?_⟩⟩;all_goals try and_intros
 all_goals first|with_reducible rfl|with_reducible assumption|exact True.intro|(simp only[b3M,b3L,b3K,b3I] at *;done)|((try simp only[b4i,J.eta,b3E,b3D,b3K,b3I,b3S,b4f,ak,O,aY,b3U,b3P,b4b,b3Y,b4e] at *);first|exact True.intro|omega|exact zw.zero (by with_reducible assumption)|(have h:zw p k1:=(by with_reducible assumption);first|exact h.sh (by omega)|exact h.no (by omega) (by with_reducible assumption)|exact (h.no (by omega) (by with_reducible assumption)).symm|exact h.end (by omega)|exact (h.end (by omega)).symm|exact h.next (by omega) (by with_reducible assumption)|(have:=h.kl;omega)))
def K8:aH.Good tJ:=QT ⟨La,U⟩
end
end Go.Proofs.YtmjfpcajohhbeaaGreatDoor

namespace Go.Proofs.YtmjfpcajohhbeaaGreatDoor
noncomputable section
end
end Go.Proofs.YtmjfpcajohhbeaaGreatDoor

set_option maxRecDepth 4000
set_option maxHeartbeats 4000000
namespace Go.Proofs.YtmjfpcajohhbeaaGreatDoor
noncomputable section
open Go.RowKit Go.Proofs
set_option maxRecDepth 100000 in
def a1M(i0:TypeInfo)(z:Value)(bytes:Nat)(hi:prog.info? 2=some i0)(hz0:i0.zero=some z)(Y1:i0.size=1)(hz2:i0.bytes=bytes)(Xg:z.cells.size=1)
  (a:Addr) (n c:Nat) (news:List Value) (w:World) (hl:news.length=n * 1) (hn:n<=maxLen) (P3:n * bytes<=140737488355328)
  (hc:∀ j u,news[j]?=some u->w.cell? (a.add j)=some u) (h1:∀ u∈news,u.oneCell'=true) :
  Calls prog en #[.slice (some a) n c] w λ e w'=>∃ v',e = .returned v'/\w'.ownsRow w.heap.size 2 1 v' n news/\Below w.heap.size w w':=by
 have t22:prog.underlying 30=some (.slice 2):=by kernel_rfl
 have q22:∀ (w:World) (a:Option Addr) (n c n' c':Nat),(binOp .eql 30 (.slice a n c) (.slice none n' c')).run prog w = .ok (.bool a.isNone) w:=λ w a n c n' c'=>b6D w _ _ a n c n' c' t22;have u22:∀ w,Sem.run prog (underlying 30) w = .ok (TypeDesc.slice 2) w:=b4F t22;have z23:∀ w,(Go.sizeOf 2).run prog w = .ok 1 w:=λ w=>by simp[Go.sizeOf,typeInfo,hi,Y1,Result.andThen]
 have A:Aside (∀ j u,news[j]?=some u->w.cell? (a.add j)=some u):=hc;clear hc;go_enter Tryz.func135,Tryz.ntmps135;go_wp2_with (at_builtin;refine wpList_append_own _ rfl _ _ 30 rfl w.heap.size 2 i0 z 1 bytes t22 hi hz0 Y1 hz2 Xg (by decide) _ _ _ rfl (b6U w #[] 0 (b4r _) (b4O _) (by simp)) a n c news rfl ?qc1 ?qc2 ?qc3 ?qc4 ?qc5 ?qc6 ?_);case qc1=>exact hl
 case qc2 =>
  intro j u hj;exact b7w _ (A.out j u hj)
 case qc3=>exact h1
 case qc4=>rw[b5n];exact hn
 case qc5=>rw[b5n];exact P3
 case qc6=>simp
 intro v' w1 oM ND vR;go_wp2;go_ret;refine⟨v',rfl,by simpa using oM,?_⟩;exact ((Below.refl _ w).alloc (Nat.le_refl _) _).grown ND (by simp) (by intro k hk;simp[Value.ownBlock] at hk;omega)
def a3x(n c:Nat)(w:World):Calls prog en #[.slice none n c] w λ e w'=>e = .returned (.slice none 0 0)/\w'=w:=by
 have t22:prog.underlying 30=some (.slice 2):=by kernel_rfl
 have q22:∀ (w:World) (a:Option Addr) (n c n' c':Nat),(binOp .eql 30 (.slice a n c) (.slice none n' c')).run prog w = .ok (.bool a.isNone) w:=λ w a n c n' c'=>b6D w _ _ a n c n' c' t22;go_enter Tryz.func135,Tryz.ntmps135;go_wp2;go_ret;exact⟨rfl,rfl⟩
def a3y(xs:List Int)(hx:xs.length<=1048576):cY prog en [.val ⟨.slice (.int .i64),xs⟩] [⟨.slice (.int .i64),xs⟩]:=by
 intro w S cI fa hS ha _ _ _;match cI,ha with
 | [v],⟨f1,f2,e0,⟨e1,h1⟩,e2⟩ =>
  have e2:f2=[]:=e2;subst e1 e2;have e0:fa=[]:=e0;subst e0;have h1:Rd w S (.slice 1 (xs.map (Ty.int .i64).aQ)) [v]:=h1;obtain⟨a,c,e,h2,h3,h4,h5⟩:=id h1;simp only[b3O,b3T] at e;rw[show (List.map (Ty.int .i64).aQ xs).length=xs.length from b3Y _] at e h2;subst e;have Qa:∀ d∈xs.map (Ty.int .i64).aQ,d.light=true:=λ d hd=>by obtain⟨y,_,rfl⟩:=b3N.1 hd;rfl
  have done:∀ (v:Value) (w':World) (l:List Value),w'.ownsRow w.heap.size 2 1 v xs.length l->Below w.heap.size w w'->dT w S (xs.map (Ty.int .i64).aQ) l->∃ x fp,Ending.returned v = .returned x/\bE (λ b=>b∈([]:List Nat)) w w'/\wG w' [⟨.slice (.int .i64),xs⟩] x fp/\fp.Nodup/\∀ b∈fp,b∈([]:List Nat)\/(w.heap.size<=b/\b<w'.heap.size):=λ v w' l ho hb hr=>by
   have hk:bE (λ b=>b∈([]:List Nat)) w w':=⟨hb.os,hb.tape,hb.output,hb.size,λ k hk _=>hb.block k hk⟩;rcases ho.2 with ⟨rfl,hn⟩|⟨g,cap,cur,rfl,hg,hh,W3,YX,YY,hn4⟩
   .have hn:xs=[]:=b4L hn;subst hn;exact⟨_,[],rfl,hk,⟨none,0,rfl,b4r _,by simp[maxLen],by simp, .inl ⟨rfl,⟨rfl,rfl⟩,rfl⟩⟩,b4Q,by simp⟩
   .have hl:cur.toList=l++cur.toList.drop (xs.length * 1):=by rw[<-hn4,b4S]
    refine⟨_,[g],rfl,hk,⟨some ⟨g,0,none⟩,cap,by rw[List.length_map],by rw[List.length_map];exact W3,YX,(by show (xs.map (Ty.int .i64).aQ).length<=140737488355328;rw[List.length_map];omega), .inr ⟨g,[],cur.toList,2,rfl,rfl,by simpa using hh,(by show cur.toList.length=cap * 1;simpa using YY),?_⟩⟩,by simp,λ b q=>?_⟩
    .rw[hl];exact bR.eo _ Qa (S:=λ _=>True) (hr.aR (λ _ _=>trivial) λ b q=>hb.block b (hS.1 b q))
    .simp only[b4m] at q;subst q;exact .inr ⟨hg,(b4P.1 hh).1⟩
  have hi:∃ i0 z bytes,prog.info? 2=some i0/\i0.zero=some z/\i0.size=1/\i0.bytes=bytes/\z.cells.size=1/\bytes<=100:=by
   have q:(match prog.info? 2 with
    | some i=>match i.zero with
     | some z=>decide (i.size=1)&&(decide (z.cells.size=1)&&decide (i.bytes<=100))
     | none=>false
    | none=>false)=true:=by kernel_rfl
   split at q
   .rename_i i hi;split at q
    .rename_i z hz;simp only[b3J,b3E] at q;exact⟨i,z,_,hi,hz,q.1,rfl,q.2.1,q.2.2⟩
    .cases q
   .cases q
  obtain⟨i0,z,bytes,k1,k2,k3,k4,k5,k6⟩:=hi;have P3:xs.length * bytes<=140737488355328:=b5v (b6M hx k6) (by decide);have key:∀ (ad:Addr) (l:List Value),a=some ad->dT w S (xs.map (Ty.int .i64).aQ) l->(∀ j u,l[j]?=some u->w.cell? (ad.add j)=some u) ->
    Calls prog en #[.slice a xs.length c] w λ e w'=>∃ x fp,e = .returned x/\bE (λ b=>b∈([]:List Nat)) w w'/\wG w' [⟨.slice (.int .i64),xs⟩] x fp/\fp.Nodup/\∀ b∈fp,b∈([]:List Nat)\/(w.heap.size<=b/\b<w'.heap.size):=λ ad l e hr hc=>by
   subst e;have hl:=dT.length _ hr (n:=1) λ d hd=>by
    obtain⟨y,_,rfl⟩:=b3N.1 hd;rfl
   rw[b3Y] at hl;refine (a1M i0 z bytes k1 k2 k3 k4 k5 ad xs.length c l w hl (b5v h2 h3) P3 hc (dT.nI (τ := .int .i64) hr)).mono ?_;rintro e w' ⟨v',rfl,ho,hb⟩;exact done v' w' l ho hb hr
  rcases h5 with h5|⟨b,o,rfl,hb,h5⟩
  .have hn:xs=[]:=b5V.1 h5;cases a with
   | none =>
    subst hn;refine (a3x _ c w).mono ?_;rintro e w' ⟨rfl,rfl⟩;exact done _ _ [] (World.ownsRow_nil w' _ _ _) (b7d _ _) rfl
   | some ad=>exact key ad [] rfl (by subst hn;rfl) (λ j u hj=>by simp at hj)
  .obtain⟨l,hl,hc⟩:=du.cells _ _ _ h5;exact key ⟨b,o,none⟩ l rfl hl λ j u hj=>by rw[b5S];exact hc j u hj
def rS:aH:=⟨en,[.v (.slice (.int .i64))],λ (xs:List Int)=>⟨(some (xs.length<=1048576),[⟨(.slice (.int .i64)),xs⟩])⟩⟩
def BP:aH.bX rS :=
 ⟨au Fy rfl (by decide),λ xs h=>a3y xs h⟩
end
end Go.Proofs.YtmjfpcajohhbeaaGreatDoor

set_option maxRecDepth 4000
set_option maxHeartbeats 4000000
namespace Go.Proofs.YtmjfpcajohhbeaaGreatDoor
noncomputable section
def kF:aH:=⟨rY,[.v (.slice (.st .expr))],λ (xs:List J)=>⟨(some (xs.length+aF av xs<=1048576),[⟨(.slice (.st .expr)),xs⟩])⟩⟩
def NX(xs:List J):Nat->aE:=(λ zb=>if Nat.beq zb 0 then .mk (Nat) (λ i=>i<=xs.length) (λ i=>xs.length - i) [] [0,2,6,7,8] (λ i=>[(11, .aI ⟨(.int .i64),((i:Int):Int)⟩),(3, .aw 900)]) [] (λ i=>[(900, .aw (.st .expr) (xs.take i:List J))]) [] [] (λ i=>λ _ => .none) else .none)
def LG(hE:aC [])(hO:cO [iF])(hM:cT [])(hS:cR []):aH.bX kF:=by
 refine⟨au zD rfl (by decide),?_⟩;show ∀ (xs:List J),(xs.length+aF av xs<=1048576)->cY prog rY [.val ⟨(.slice (.st .expr)),xs⟩] [⟨(.slice (.st .expr)),xs⟩];intro xs hp;refine cj (own:=[17,18,19,8]) (wr:=[]) (cl:=[]) (ro:=[]) hE hO hM hS zD Ix (NX xs) (let v0:=(xs.length:Int);((O v0->(bI (0:Int) v0 40/\(O v0->((∃ i1:Nat,(i1<=xs.length/\((True/\(xs=xs/\(v0=v0/\((0:Int)=(i1:Int)/\True))))/\((List.replicate 0 zE)=(xs.take i1)/\True))))/\(∀ i1:Nat,let v1:=aJ (xs.getD i1 zE);(i1<=xs.length->(((decide ((i1:Int)<v0))=true->(ak (i1:Int) xs.length/\(av v1<=1048576/\(aY ((xs.take i1).length+([v1]).length) 40/\(O ((i1:Int)+(1:Int))/\(∃ i2:Nat,(i2<=xs.length/\(xs.length - i2<xs.length - i1/\((True/\(xs=xs/\(v0=v0/\(((i1:Int)+(1:Int))=(i2:Int)/\True))))/\(((xs.take i1)++([v1]))=(xs.take i2)/\True))))))))))/\((decide ((i1:Int)<v0))=false->(xs.take i1)=xs)))))))))) (by kernel_rfl) ?_;have f1:=λ i (h:i<xs.length)=>eJ av zE xs i h;have f2:xs.take 0=[]:=b4I;refine λ _=>⟨?_,λ _=>⟨⟨0,?_,⟨U,rfl,rfl,?_,U⟩,?_,U⟩,λ i1 _=>⟨λ _=>⟨?_,?_,?_,?_,i1+1,?_,?_,⟨U,rfl,rfl,?_,U⟩,?_,U⟩,λ _=>?_⟩⟩⟩;all_goals try and_intros
 all_goals try (first|with_reducible rfl|with_reducible assumption)
 all_goals try simp only[J.eta,ag.eta,ar.eta,aK,br,bG] at *
 all_goals first|with_reducible rfl|with_reducible assumption|exact True.intro|(simp only[b3M,b3L,b3K,b3I] at *;done)|((try simp only[b4i,J.eta,b3E,b3D,b3K,b3I,b3S,b4f,ak,O,aY,b3U,b3P,b4b,b3Y,b4e] at *);first|exact True.intro|omega |  (rw[f2];done)|(rw[f2];rfl)|(rw[cr zE xs i1 (by omega)];done)|exact (cr zE xs i1 (by omega)).symm|(rw[b4a (by omega)];done)|exact (b4a (by omega)).symm|(have:=f1 i1 (by omega);omega)|(simp only[bI];omega)|(have:=b4e (l:=xs) (i:=i1);omega))
def sO:aH.bX kF:=LG trivial ⟨iN,U⟩ trivial trivial
def rO:aH:=⟨uh,[.v (.st .proofStep)],λ (s:ae)=>⟨(some (aZ s<=1048576),[⟨(.st .proofStep),s⟩])⟩⟩
def Qt(s:ae):Nat->aE:=λ _ => .none
def Od(hE:aC [])(hO:cO [rS,kF])(hM:cT [])(hS:cR []):aH.bX rO:=by
 refine⟨au B1 rfl (by decide),?_⟩;show ∀ (s:ae),(aZ s<=1048576)->cY prog uh [.val ⟨(.st .proofStep),s⟩] [⟨(.st .proofStep),s⟩];intro s hp;refine cj (own:=[9,12,15]) (wr:=[]) (cl:=[]) (ro:=[1]) hE hO hM hS B1 KF (Qt s) ((O s.use->(s.path.length<=140737488355328->(s.az.length<=140737488355328->(s.bf.length<=140737488355328->(s.use=s.use/\(s.use=s.use/\(s.back=s.back/\(s.back=s.back/\(s.path=s.path/\(s.path=s.path/\(s.az=s.az/\(s.az=s.az/\(s.bf=s.bf/\(s.bf=s.bf/\(s.path.length<=1048576/\(s.use=s.use/\(s.use=s.use/\(s.back=s.back/\(s.back=s.back/\(s.az=s.az/\(s.az=s.az/\(s.bf=s.bf/\(s.bf=s.bf/\(s.az.length+aF av s.az<=1048576/\(s.use=s.use/\(s.use=s.use/\(s.back=s.back/\(s.back=s.back/\(s.bf=s.bf/\(s.bf=s.bf/\(s.bf.length+aF av s.bf<=1048576/\(s.use=s.use/\(s.use=s.use/\(s.back=s.back/\(s.back=s.back/\s=s)))))))))))))))))))))))))))))))))))) (by kernel_rfl) ?_;rw[fG] at hp;refine λ _ _ _ _=>⟨rfl,rfl,rfl,rfl,rfl,rfl,rfl,rfl,rfl,rfl,?_,rfl,rfl,rfl,rfl,rfl,rfl,rfl,rfl,?_,rfl,rfl,rfl,rfl,rfl,rfl,?_,rfl,rfl,rfl,rfl,rfl⟩;all_goals try and_intros
 all_goals first|with_reducible rfl|with_reducible assumption|exact True.intro|omega|(simp only[b4i,J.eta,b3E,b3D,b3K,b3I,b3S,b4f,ak,O,aY,b3U,b3P,b4b,b3Y,b4e] at *;omega)
def JC:aH.bX rO:=Od trivial ⟨BP,sO,U⟩ trivial trivial
def pN:aH:=⟨rX,[.v (.st .claim)],λ (c:ag)=>⟨(some (bL c<=1048576),[⟨(.st .claim),c⟩])⟩⟩
def NW(c:ag):Nat->aE:=(λ zb=>if Nat.beq zb 0 then .mk (Nat) (λ i=>i<=c.steps.length) (λ i=>c.steps.length - i) [] [0,1,6,7,8,9,10,11,12,13,14,15,16,17] (λ i=>[(20, .aI ⟨(.int .i64),((i:Int):Int)⟩)]) [2] (λ i=>[(3, .box [.aI ⟨(.int .i64),(c.left.aq:Int)⟩, .aI ⟨(.int .i64),(c.left.aM:Int)⟩, .aw 900, .aI ⟨(.int .i64),(c.right.aq:Int)⟩, .aI ⟨(.int .i64),(c.right.aM:Int)⟩, .aw 1200, .aI ⟨(.int .i64),(c.bp:Int)⟩, .aI ⟨(.int .i64),(c.ref:Int)⟩, .aw 3000]),(900, .aw (.st .expr) (c.left.M:List J)),(1200, .aw (.st .expr) (c.right.M:List J)),(3000, .aw (.st .proofStep) (c.steps.take i:List ae))]) [] [] (λ i=>λ _ => .none) else .none)
abbrev wi(c:ag):Prop:=(c.left.aq=c.left.aq/\(c.left.aM=c.left.aM/\(True/\(c.right.aq=c.right.aq/\(c.right.aM=c.right.aM/\(True/\(c.bp=c.bp/\(c.ref=c.ref/\(True/\True)))))))))
abbrev wj :Prop:=(let v0:=(0:Int);((v0=v0/\(v0=v0/\(True/\(v0=v0/\(v0=v0/\(True/\(v0=v0/\(v0=v0/\(True/\True)))))))))/\True))
def LF(hE:aC [])(hO:cO [iF,rO])(hM:cT [])(hS:cR []):aH.bX pN:=by
 refine⟨au zB rfl (by decide),?_⟩;show ∀ (c:ag),(bL c<=1048576)->cY prog rX [.val ⟨(.st .claim),c⟩] [⟨(.st .claim),c⟩];intro c hp;refine cj (own:=[8,11,27,28,29]) (wr:=[]) (cl:=[]) (ro:=[1]) hE hO hM hS zB Iw (NW c) (let v0:=ae.mk (0:Int) false [] [] [];let v1:=(c.steps.length:Int);let v2:=(3:Nat)=3/\(8:Nat)=8;((O c.bp->(O c.ref->(c.left=c.left/\(c.left=c.left/\(c.right=c.right/\(c.right=c.right/\(c.bp=c.bp/\(c.bp=c.bp/\(c.ref=c.ref/\(c.ref=c.ref/\(av c.left<=1048576/\(c.right=c.right/\(c.right=c.right/\(c.bp=c.bp/\(c.bp=c.bp/\(c.ref=c.ref/\(c.ref=c.ref/\(av c.right<=1048576/\(c.bp=c.bp/\(c.bp=c.bp/\(c.ref=c.ref/\(c.ref=c.ref/\(c.steps.length<=140737488355328->(O v1->((∃ i1:Nat,(i1<=c.steps.length/\((True/\(True/\(c.steps=c.steps/\(v1=v1/\((0:Int)=(i1:Int)/\True)))))/\((wi c)/\(c.left.M=c.left.M/\(c.right.M=c.right.M/\((c.steps.take i1)=[]/\wj)))))))/\(∀ i1:Nat,let v3:=c.steps.getD i1 v0;let v4:=c.steps.take i1;(i1<=c.steps.length->(((decide ((i1:Int)<v1))=true->(ak (i1:Int) c.steps.length/\(v2/\((3000:Nat)=3000/\((v3.use=v3.use/\(v3.back=v3.back/\(v3.path=v3.path/\(v3.az=v3.az/\(v3.bf=v3.bf/\True)))))/\(aZ v3<=1048576/\(v2/\((3000:Nat)=3000/\(v2/\((3000:Nat)=3000/\(aY (v4.length+([v3]).length) 88/\(O ((i1:Int)+(1:Int))/\(∃ i2:Nat,(i2<=c.steps.length/\(c.steps.length - i2<c.steps.length - i1/\((True/\(True/\(c.steps=c.steps/\(v1=v1/\(((i1:Int)+(1:Int))=(i2:Int)/\True)))))/\((wi c)/\(c.left.M=c.left.M/\(c.right.M=c.right.M/\((v4++([v3]))=(c.steps.take i2)/\wj))))))))))))))))))))/\((decide ((i1:Int)<v1))=false->(ag.mk (J.mk c.left.aq c.left.aM c.left.M) (J.mk c.right.aq c.right.aM c.right.M) c.bp c.ref v4)=c))))))))))))))))))))))))))))))) (by kernel_rfl) ?_;rw[kR] at hp;have f1:=λ i (h:i<c.steps.length)=>eJ aZ (ae.mk (0:Int) false [] [] []) c.steps i h;have f2:c.steps.take 0=[]:=b4I;refine λ _ _=>⟨rfl,rfl,rfl,rfl,rfl,rfl,rfl,rfl,?_,rfl,rfl,rfl,rfl,rfl,rfl,?_,rfl,rfl,rfl,rfl,λ _ _=>⟨⟨0,?_,⟨U,U,rfl,rfl,?_,U⟩,⟨rfl,rfl,U,rfl,rfl,U,rfl,rfl,U,U⟩,rfl,rfl,?_,⟨rfl,rfl,U,rfl,rfl,U,rfl,rfl,U,U⟩,U⟩,λ i1 _=>⟨λ _=>⟨?_,⟨?_,?_⟩,?_,⟨rfl,rfl,rfl,rfl,rfl,?_⟩,?_,⟨?_,?_⟩,?_,⟨?_,?_⟩,?_,?_,?_,i1+1,?_,?_,⟨U,U,rfl,rfl,?_,U⟩,⟨rfl,rfl,U,rfl,rfl,U,rfl,rfl,U,U⟩,rfl,rfl,?_,⟨rfl,rfl,U,rfl,rfl,U,rfl,rfl,U,U⟩,U⟩,λ _=>?_⟩⟩⟩;all_goals try and_intros
 all_goals first|with_reducible rfl|with_reducible assumption|exact True.intro|(simp only[b3M,b3L,b3K,b3I] at *;done)|((try simp only[b4i,J.eta,b3E,b3D,b3K,b3I,b3S,b4f,ak,O,aY,b3U,b3P,b4b,b3Y,b4e] at *);first|exact True.intro|omega |  (rw[f2];done)|(rw[f2];rfl)|(rw[cr (ae.mk (0:Int) false [] [] []) c.steps i1 (by omega)];done)|exact (cr (ae.mk (0:Int) false [] [] []) c.steps i1 (by omega)).symm|(rw[b4a (by omega)];done)|exact (b4a (by omega)).symm|(have:=f1 i1 (by omega);omega)|(simp only[bI];omega)|(have:=b4e (l:=c.steps) (i:=i1);omega))
def HZ:aH.bX pN:=LF trivial ⟨iN,JC,U⟩ trivial trivial
def pO:aH:=⟨rZ,[.v (.st .proof)],λ (p:aj)=>⟨(some (cB p<=1048576),[⟨(.st .proof),p⟩])⟩⟩
def NY(p:aj):Nat->aE:=(λ zb=>if Nat.beq zb 0 then .mk (Nat) (λ i=>i<=p.ai.length) (λ i=>p.ai.length - i) [] [0,1,6,7,8,9] (λ i=>[(12, .aI ⟨(.int .i64),((i:Int):Int)⟩)]) [2] (λ i=>[(3, .box [.aI ⟨(.int .i64),(p.sig.az:Int)⟩, .aI ⟨(.int .i64),(p.sig.bo:Int)⟩, .aw 2200]),(2200, .aw (.st .claim) (p.ai.take i:List ag))]) [] [] (λ i=>λ _ => .none) else .none)
def LH(hE:aC [])(hO:cO [pN])(hM:cT [])(hS:cR []):aH.bX pO:=by
 refine⟨au zF rfl (by decide),?_⟩;show ∀ (p:aj),(cB p<=1048576)->cY prog rZ [.val ⟨(.st .proof),p⟩] [⟨(.st .proof),p⟩];intro p hp;refine cj (own:=[19,20,21]) (wr:=[]) (cl:=[]) (ro:=[1]) hE hO hM hS zF Iy (NY p) (let v1:=(p.ai.length:Int);let v2:=p.sig.az=p.sig.az/\(p.sig.bo=p.sig.bo/\(True/\True));let v4:=(3:Nat)=3/\(2:Nat)=2;let v5:=(0:Int);let v0:=ag.mk zE zE v5 v5 [];let v3:=(v5=v5/\(v5=v5/\(True/\True)))/\True;((p.ai.length<=140737488355328->(O v1->((∃ i1:Nat,(i1<=p.ai.length/\((True/\(True/\(p.ai=p.ai/\(v1=v1/\(v5=(i1:Int)/\True)))))/\(v2/\((p.ai.take i1)=[]/\v3)))))/\(∀ i1:Nat,let v6:=p.ai.getD i1 v0;let v7:=p.ai.take i1;(i1<=p.ai.length->(((decide ((i1:Int)<v1))=true->(ak (i1:Int) p.ai.length/\(v4/\((2200:Nat)=2200/\((v6.left.aq=v6.left.aq/\(v6.left.aM=v6.left.aM/\(v6.left.M=v6.left.M/\(v6.right.aq=v6.right.aq/\(v6.right.aM=v6.right.aM/\(v6.right.M=v6.right.M/\(v6.bp=v6.bp/\(v6.ref=v6.ref/\(v6.steps=v6.steps/\True)))))))))/\(bL (oG v6)<=1048576/\(v4/\((2200:Nat)=2200/\(v4/\((2200:Nat)=2200/\(aY (v7.length+([(oG v6)]).length) 120/\(O ((i1:Int)+(1:Int))/\(∃ i2:Nat,(i2<=p.ai.length/\(p.ai.length - i2<p.ai.length - i1/\((True/\(True/\(p.ai=p.ai/\(v1=v1/\(((i1:Int)+(1:Int))=(i2:Int)/\True)))))/\(v2/\((v7++([(oG v6)]))=(p.ai.take i2)/\v3))))))))))))))))))/\((decide ((i1:Int)<v1))=false->(aj.mk (aT.mk p.sig.az p.sig.bo) v7)=p))))))))) (by kernel_rfl) ?_;rw[iQ] at hp;have f1:=λ i (h:i<p.ai.length)=>eJ bL (ag.mk zE zE (0:Int) (0:Int) []) p.ai i h;have f2:p.ai.take 0=[]:=b4I;refine λ _ _=>⟨⟨0,?_,⟨U,U,rfl,rfl,?_,U⟩,⟨rfl,rfl,U,U⟩,?_,⟨rfl,rfl,U,U⟩,U⟩,λ i1 _=>⟨λ _=>⟨?_,⟨?_,?_⟩,?_,⟨rfl,rfl,rfl,rfl,rfl,rfl,rfl,rfl,rfl,?_⟩,?_,⟨?_,?_⟩,?_,⟨?_,?_⟩,?_,?_,?_,i1+1,?_,?_,⟨U,U,rfl,rfl,?_,U⟩,⟨rfl,rfl,U,U⟩,?_,⟨rfl,rfl,U,U⟩,U⟩,λ _=>?_⟩⟩;all_goals try and_intros
 all_goals try (first|with_reducible rfl|with_reducible assumption)
 all_goals try simp only[J.eta,ag.eta,ar.eta,aK,br,bG] at *
 all_goals first|with_reducible rfl|with_reducible assumption|exact True.intro|(simp only[b3M,b3L,b3K,b3I] at *;done)|((try simp only[b4i,J.eta,b3E,b3D,b3K,b3I,b3S,b4f,ak,O,aY,b3U,b3P,b4b,b3Y,b4e] at *);first|exact True.intro|omega |  (rw[f2];done)|(rw[f2];rfl)|(rw[cr (ag.mk zE zE (0:Int) (0:Int) []) p.ai i1 (by omega)];done)|exact (cr (ag.mk zE zE (0:Int) (0:Int) []) p.ai i1 (by omega)).symm|(rw[b4a (by omega)];done)|exact (b4a (by omega)).symm|(have:=f1 i1 (by omega);omega)|(simp only[bI];omega)|(have:=b4e (l:=p.ai) (i:=i1);omega))
def H0:aH.bX pO:=LH trivial ⟨HZ,U⟩ trivial trivial
end
end Go.Proofs.YtmjfpcajohhbeaaGreatDoor

set_option maxRecDepth 4000
set_option maxHeartbeats 4000000
namespace Go.Proofs.YtmjfpcajohhbeaaGreatDoor
noncomputable section
open Go.RowKit Go.Proofs
set_option maxRecDepth 100000 in
def a4n(i0:TypeInfo)(z:Value)(bytes:Nat)(hi:prog.info? 2=some i0)(hz0:i0.zero=some z)(Y1:i0.size=1)(hz2:i0.bytes=bytes)(Xg:z.cells.size=1)
  (a:Addr) (n c:Nat) (news:List Value) (w:World) (hl:news.length=n * 1) (hn:n<=maxLen) (P3:n * bytes<=140737488355328)
  (hc:∀ j u,news[j]?=some u->w.cell? (a.add j)=some u) (h1:∀ u∈news,u.oneCell'=true) :
  Calls prog jJ #[.slice (some a) n c] w λ e w'=>∃ v',e = .returned v'/\w'.ownsRow w.heap.size 2 1 v' n news/\Below w.heap.size w w':=by
 have t22:prog.underlying 30=some (.slice 2):=by kernel_rfl
 have q22:∀ (w:World) (a:Option Addr) (n c n' c':Nat),(binOp .eql 30 (.slice a n c) (.slice none n' c')).run prog w = .ok (.bool a.isNone) w:=λ w a n c n' c'=>b6D w _ _ a n c n' c' t22;have u22:∀ w,Sem.run prog (underlying 30) w = .ok (TypeDesc.slice 2) w:=b4F t22;have z23:∀ w,(Go.sizeOf 2).run prog w = .ok 1 w:=λ w=>by simp[Go.sizeOf,typeInfo,hi,Y1,Result.andThen]
 have A:Aside (∀ j u,news[j]?=some u->w.cell? (a.add j)=some u):=hc;clear hc;go_enter Tryz.func133,Tryz.ntmps133;go_wp2_with (at_builtin;refine wpList_append_own _ rfl _ _ 30 rfl w.heap.size 2 i0 z 1 bytes t22 hi hz0 Y1 hz2 Xg (by decide) _ _ _ rfl (b6U w #[] 0 (b4r _) (b4O _) (by simp)) a n c news rfl ?qc1 ?qc2 ?qc3 ?qc4 ?qc5 ?qc6 ?_);case qc1=>exact hl
 case qc2 =>
  intro j u hj;exact b7w _ (A.out j u hj)
 case qc3=>exact h1
 case qc4=>rw[b5n];exact hn
 case qc5=>rw[b5n];exact P3
 case qc6=>simp
 intro v' w1 oM ND vR;go_wp2;go_ret;refine⟨v',rfl,by simpa using oM,?_⟩;exact ((Below.refl _ w).alloc (Nat.le_refl _) _).grown ND (by simp) (by intro k hk;simp[Value.ownBlock] at hk;omega)
def a6f(c:Nat)(w:World):Calls prog jJ #[.slice none 0 c] w λ e w'=>∃ v',e = .returned v'/\w'.ownsRow w.heap.size 2 1 v' 0 []/\Below w.heap.size w w':=by
 have t22:prog.underlying 30=some (.slice 2):=by kernel_rfl
 have u22:∀ w,Sem.run prog (underlying 30) w = .ok (TypeDesc.slice 2) w:=b4F t22;go_enter Tryz.func133,Tryz.ntmps133;go_wp2;go_ret;exact⟨_,rfl,b6U w #[] 0 (b4r _) (b4O _) (by simp),(b7d _ w).alloc (b4r _) _⟩
def a6g(xs:List Int)(hx:xs.length<=1048576):cY prog jJ [.val ⟨.slice (.int .i64),xs⟩] [⟨.slice (.int .i64),xs⟩]:=by
 intro w S cI fa hS ha _ _ _;match cI,ha with
 | [v],⟨f1,f2,e0,⟨e1,h1⟩,e2⟩ =>
  have e2:f2=[]:=e2;subst e1 e2;have e0:fa=[]:=e0;subst e0;have h1:Rd w S (.slice 1 (xs.map (Ty.int .i64).aQ)) [v]:=h1;obtain⟨a,c,e,h2,h3,h4,h5⟩:=id h1;simp only[b3O,b3T] at e;rw[show (List.map (Ty.int .i64).aQ xs).length=xs.length from b3Y _] at e h2;subst e;have Qa:∀ d∈xs.map (Ty.int .i64).aQ,d.light=true:=λ d hd=>by obtain⟨y,_,rfl⟩:=b3N.1 hd;rfl
  have done:∀ (v:Value) (w':World) (l:List Value),w'.ownsRow w.heap.size 2 1 v xs.length l->Below w.heap.size w w'->dT w S (xs.map (Ty.int .i64).aQ) l->∃ x fp,Ending.returned v = .returned x/\bE (λ b=>b∈([]:List Nat)) w w'/\wG w' [⟨.slice (.int .i64),xs⟩] x fp/\fp.Nodup/\∀ b∈fp,b∈([]:List Nat)\/(w.heap.size<=b/\b<w'.heap.size):=λ v w' l ho hb hr=>by
   have hk:bE (λ b=>b∈([]:List Nat)) w w':=⟨hb.os,hb.tape,hb.output,hb.size,λ k hk _=>hb.block k hk⟩;rcases ho.2 with ⟨rfl,hn⟩|⟨g,cap,cur,rfl,hg,hh,W3,YX,YY,hn4⟩
   .have hn:xs=[]:=b4L hn;subst hn;exact⟨_,[],rfl,hk,⟨none,0,rfl,b4r _,by simp[maxLen],by simp, .inl ⟨rfl,⟨rfl,rfl⟩,rfl⟩⟩,b4Q,by simp⟩
   .have hl:cur.toList=l++cur.toList.drop (xs.length * 1):=by rw[<-hn4,b4S]
    refine⟨_,[g],rfl,hk,⟨some ⟨g,0,none⟩,cap,by rw[List.length_map],by rw[List.length_map];exact W3,YX,(by show (xs.map (Ty.int .i64).aQ).length<=140737488355328;rw[List.length_map];omega), .inr ⟨g,[],cur.toList,2,rfl,rfl,by simpa using hh,(by show cur.toList.length=cap * 1;simpa using YY),?_⟩⟩,by simp,λ b q=>?_⟩
    .rw[hl];exact bR.eo _ Qa (S:=λ _=>True) (hr.aR (λ _ _=>trivial) λ b q=>hb.block b (hS.1 b q))
    .simp only[b4m] at q;subst q;exact .inr ⟨hg,(b4P.1 hh).1⟩
  have hi:∃ i0 z bytes,prog.info? 2=some i0/\i0.zero=some z/\i0.size=1/\i0.bytes=bytes/\z.cells.size=1/\bytes<=100:=by
   have q:(match prog.info? 2 with
    | some i=>match i.zero with
     | some z=>decide (i.size=1)&&(decide (z.cells.size=1)&&decide (i.bytes<=100))
     | none=>false
    | none=>false)=true:=by kernel_rfl
   split at q
   .rename_i i hi;split at q
    .rename_i z hz;simp only[b3J,b3E] at q;exact⟨i,z,_,hi,hz,q.1,rfl,q.2.1,q.2.2⟩
    .cases q
   .cases q
  obtain⟨i0,z,bytes,k1,k2,k3,k4,k5,k6⟩:=hi;have P3:xs.length * bytes<=140737488355328:=b5v (b6M hx k6) (by decide);have key:∀ (ad:Addr) (l:List Value),a=some ad->dT w S (xs.map (Ty.int .i64).aQ) l->(∀ j u,l[j]?=some u->w.cell? (ad.add j)=some u) ->
    Calls prog jJ #[.slice a xs.length c] w λ e w'=>∃ x fp,e = .returned x/\bE (λ b=>b∈([]:List Nat)) w w'/\wG w' [⟨.slice (.int .i64),xs⟩] x fp/\fp.Nodup/\∀ b∈fp,b∈([]:List Nat)\/(w.heap.size<=b/\b<w'.heap.size):=λ ad l e hr hc=>by
   subst e;have hl:=dT.length _ hr (n:=1) λ d hd=>by
    obtain⟨y,_,rfl⟩:=b3N.1 hd;rfl
   rw[b3Y] at hl;refine (a4n i0 z bytes k1 k2 k3 k4 k5 ad xs.length c l w hl (b5v h2 h3) P3 hc (dT.nI (τ := .int .i64) hr)).mono ?_;rintro e w' ⟨v',rfl,ho,hb⟩;exact done v' w' l ho hb hr
  rcases h5 with h5|⟨b,o,rfl,hb,h5⟩
  .have hn:xs=[]:=b5V.1 h5;cases a with
   | none =>
    subst hn;refine (a6f c w).mono ?_;rintro e w' ⟨v',rfl,ho,hb⟩;exact done v' w' [] ho hb rfl
   | some ad=>exact key ad [] rfl (by subst hn;rfl) (λ j u hj=>by simp at hj)
  .obtain⟨l,hl,hc⟩:=du.cells _ _ _ h5;exact key ⟨b,o,none⟩ l rfl hl λ j u hj=>by rw[b5S];exact hc j u hj
def Hk:aH:=⟨jJ,[.v (.slice (.int .i64))],λ (xs:List Int)=>⟨(some (xs.length<=1048576),[⟨(.slice (.int .i64)),xs⟩])⟩⟩
def N6:aH.bX Hk :=
 ⟨au Un rfl (by decide),λ xs h=>a6g xs h⟩
def jj:aH:=⟨pZ,[.v (.slice (.st .expr))],λ (xs:List J)=>⟨(some (xs.length+aF av xs<=1048576),[⟨(.slice (.st .expr)),xs⟩])⟩⟩
def Lp(xs:List J):Nat->aE:=(λ zb=>if Nat.beq zb 0 then .mk (Nat) (λ i=>i<=xs.length) (λ i=>xs.length - i) [] [2,5] (λ i=>[(4, .aI ⟨(.int .i64),((i:Int):Int)⟩),(3, .aw 900)]) [] (λ i=>[(900, .aw (.st .expr) (xs.take i:List J))]) [] [] (λ i=>λ _ => .none) else .none)
def JO(hE:aC [])(hO:cO [gb])(hM:cT [])(hS:cR []):aH.bX jj:=by
 refine⟨au yB rfl (by decide),?_⟩;show ∀ (xs:List J),(xs.length+aF av xs<=1048576)->cY prog pZ [.val ⟨(.slice (.st .expr)),xs⟩] [⟨(.slice (.st .expr)),xs⟩];intro xs hp;refine cj (own:=[5,16,17,18]) (wr:=[]) (cl:=[]) (ro:=[]) hE hO hM hS yB HA (Lp xs) (let v0:=(xs.length:Int);(((∃ i1:Nat,(i1<=xs.length/\((xs=xs/\(True/\((0:Int)=(i1:Int)/\True)))/\([]=(xs.take i1)/\True))))/\(∀ i1:Nat,(i1<=xs.length->(O v0->(((decide ((i1:Int)<v0))=true->(ak (i1:Int) xs.length/\(av (xs.getD i1 zE)<=1048576/\(aY ((xs.take i1).length+([(aJ (xs.getD i1 zE))]).length) 40/\(O ((i1:Int)+(1:Int))/\(∃ i2:Nat,(i2<=xs.length/\(xs.length - i2<xs.length - i1/\((xs=xs/\(True/\(((i1:Int)+(1:Int))=(i2:Int)/\True)))/\(((xs.take i1)++([(aJ (xs.getD i1 zE))]))=(xs.take i2)/\True))))))))))/\((decide ((i1:Int)<v0))=false->(xs.take i1)=xs)))))))) (by kernel_rfl) ?_;have f1:=λ i (h:i<xs.length)=>eJ av zE xs i h;have f2:xs.take 0=[]:=b4I;refine⟨⟨0,?_,⟨rfl,U,?_,U⟩,?_,U⟩,λ i1 _ _=>⟨λ _=>⟨?_,?_,?_,?_,i1+1,?_,?_,⟨rfl,U,?_,U⟩,?_,U⟩,λ _=>?_⟩⟩;all_goals try and_intros
 all_goals try (first|with_reducible rfl|with_reducible assumption)
 all_goals try simp only[J.eta,ag.eta,ar.eta,aK,br,bG] at *
 all_goals first|with_reducible rfl|with_reducible assumption|exact True.intro|(simp only[b3M,b3L,b3K,b3I] at *;done)|((try simp only[b4i,J.eta,b3E,b3D,b3K,b3I,b3S,b4f,ak,O,aY,b3U,b3P,b4b,b3Y,b4e] at *);first|exact True.intro|omega |  (rw[f2];done)|(rw[f2];rfl)|(rw[cr zE xs i1 (by omega)];done)|exact (cr zE xs i1 (by omega)).symm|(rw[b4a (by omega)];done)|exact (b4a (by omega)).symm|(have:=f1 i1 (by omega);omega)|(simp only[bI];omega)|(have:=b4e (l:=xs) (i:=i1);omega))
def sq:aH.bX jj:=JO trivial ⟨gW,U⟩ trivial trivial
def oj:aH:=⟨p6,[.r (.st .proofStep)],λ (s:ae)=>⟨(some (aZ s<=1048576),[⟨(.st .proofStep),s⟩])⟩⟩
def Lq(s:ae):Nat->aE:=λ _ => .none
def JP(hE:aC [])(hO:cO [Hk,jj])(hM:cT [])(hS:cR []):aH.bX oj:=by
 refine⟨au yC rfl (by decide),?_⟩;show ∀ (s:ae),(aZ s<=1048576)->cY prog p6 [.ref ⟨(.st .proofStep),s⟩] [⟨(.st .proofStep),s⟩];intro s hp;refine cj (own:=[15,20,25]) (wr:=[]) (cl:=[]) (ro:=[]) hE hO hM hS yC HB (Lq s) ((O s.use->(s.path.length<=140737488355328->(s.az.length<=140737488355328->(s.bf.length<=140737488355328->(s=s/\(s=s/\(s.use=s.use/\(s.use=s.use/\(s=s/\(s=s/\(s.back=s.back/\(s.back=s.back/\(s=s/\(s=s/\(s.path=s.path/\(s.path=s.path/\(s=s/\(s=s/\(s.az=s.az/\(s.az=s.az/\(s=s/\(s=s/\(s.bf=s.bf/\(s.bf=s.bf/\(s.path.length<=1048576/\(s=s/\(s=s/\(s.use=s.use/\(s.use=s.use/\(s=s/\(s=s/\(s.back=s.back/\(s.back=s.back/\(s=s/\(s=s/\(s.az=s.az/\(s.az=s.az/\(s=s/\(s=s/\(s.bf=s.bf/\(s.bf=s.bf/\(s.az.length+aF av s.az<=1048576/\(s=s/\(s=s/\(s.use=s.use/\(s.use=s.use/\(s=s/\(s=s/\(s.back=s.back/\(s.back=s.back/\(s=s/\(s=s/\(s.bf=s.bf/\(s.bf=s.bf/\(s.bf.length+aF av s.bf<=1048576/\(s=s/\(s=s/\(s.use=s.use/\(s.use=s.use/\(s=s/\(s=s/\(s.back=s.back/\(s.back=s.back/\s=s)))))))))))))))))))))))))))))))))))))))))))))))))))))))))))))))) (by kernel_rfl) ?_;rw[fG] at hp;refine λ _ _ _ _=>⟨rfl,rfl,rfl,rfl,rfl,rfl,rfl,rfl,rfl,rfl,rfl,rfl,rfl,rfl,rfl,rfl,rfl,rfl,rfl,rfl,?_,rfl,rfl,rfl,rfl,rfl,rfl,rfl,rfl,rfl,rfl,rfl,rfl,rfl,rfl,rfl,rfl,?_,rfl,rfl,rfl,rfl,rfl,rfl,rfl,rfl,rfl,rfl,rfl,rfl,?_,rfl,rfl,rfl,rfl,rfl,rfl,rfl,rfl,rfl⟩;all_goals try and_intros
 all_goals first|with_reducible rfl|with_reducible assumption|exact True.intro|omega|(simp only[b4i,J.eta,b3E,b3D,b3K,b3I,b3S,b4f,ak,O,aY,b3U,b3P,b4b,b3Y,b4e] at *;omega)
def Gy:aH.bX oj:=JP trivial ⟨N6,sq,U⟩ trivial trivial
def xW:aH:=⟨Bg,[.r (.st .proof)],λ (p:aj)=>⟨(some (cB p<=1048576),[⟨(.st .proof),p⟩])⟩⟩
def Ve(p:aj):Nat->aE:=(λ zb=>if Nat.beq zb 0 then .mk (Nat) (λ i=>i<=p.ai.length) (λ i=>p.ai.length - i) [] [8,9,10,11,12] (λ i=>[(4, .aI ⟨(.int .i64),((i:Int):Int)⟩)]) [2] (λ i=>[(3, .box [.aI ⟨(.int .i64),(p.sig.az:Int)⟩, .aI ⟨(.int .i64),(p.sig.bo:Int)⟩, .aw 2200]),(2200, .aw (.st .claim) (p.ai.take i:List ag))]) [] [] (λ i=>(λ zb=>if Nat.beq zb 2 then .mk (Nat) (λ j=>j<=(p.ai.getD i (ag.mk zE zE (0:Int) (0:Int) [])).steps.length/\i<p.ai.length) (λ j=>(p.ai.getD i (ag.mk zE zE (0:Int) (0:Int) [])).steps.length - j) [] [13,14,15,16,17,18,19,22,23,24,25,26,27,28,29,30,31,32,33,34,35,36,37,38,39,40,41,42,43,44] (λ j=>[(7, .aI ⟨(.int .i64),((j:Int):Int)⟩)]) [2,3,2200] (λ j=>[(6, .box [.aI ⟨(.int .i64),((p.ai.getD i (ag.mk zE zE (0:Int) (0:Int) [])).left.aq:Int)⟩, .aI ⟨(.int .i64),((p.ai.getD i (ag.mk zE zE (0:Int) (0:Int) [])).left.aM:Int)⟩, .aw 900, .aI ⟨(.int .i64),((p.ai.getD i (ag.mk zE zE (0:Int) (0:Int) [])).right.aq:Int)⟩, .aI ⟨(.int .i64),((p.ai.getD i (ag.mk zE zE (0:Int) (0:Int) [])).right.aM:Int)⟩, .aw 1200, .aI ⟨(.int .i64),((p.ai.getD i (ag.mk zE zE (0:Int) (0:Int) [])).bp:Int)⟩, .aI ⟨(.int .i64),((p.ai.getD i (ag.mk zE zE (0:Int) (0:Int) [])).ref:Int)⟩, .aw 3000]),(900, .aw (.st .expr) ((p.ai.getD i (ag.mk zE zE (0:Int) (0:Int) [])).left.M:List J)),(1200, .aw (.st .expr) ((p.ai.getD i (ag.mk zE zE (0:Int) (0:Int) [])).right.M:List J)),(3000, .aw (.st .proofStep) ((p.ai.getD i (ag.mk zE zE (0:Int) (0:Int) [])).steps.take j:List ae))]) [] [] (λ j=>λ _ => .none) else .none)) else .none)
abbrev CL(p:aj)(i1:Nat):Prop:=((p.sig.az=p.sig.az/\(p.sig.bo=p.sig.bo/\(True/\True)))/\((p.ai.take i1)=(p.ai.take i1)/\(((0:Int)=(0:Int)/\((0:Int)=(0:Int)/\(True/\True)))/\True)))
def Tj(hE:aC [])(hO:cO [gb,oj])(hM:cT [])(hS:cR []):aH.bX xW:=by
 refine⟨au G8 rfl (by decide),?_⟩;show ∀ (p:aj),(cB p<=1048576)->cY prog Bg [.ref ⟨(.st .proof),p⟩] [⟨(.st .proof),p⟩];intro p hp;refine cj (own:=[31,35,62,63,64,69,70]) (wr:=[]) (cl:=[]) (ro:=[]) hE hO hM hS G8 Pj (Ve p) (let v4:=(6:Nat)=6/\(8:Nat)=8;let v5:=(0:Int);let v0:=ag.mk zE zE v5 v5 [];let v1:=ae.mk v5 false [] [] [];let v6:=(p.ai.length:Int);let v7:=True/\True;let v2:=p.sig.az=p.sig.az/\(p.sig.bo=p.sig.bo/\v7);let v3:=(v5=v5/\(v5=v5/\v7))/\True;(((∃ i1:Nat,(i1<=p.ai.length/\((p=p/\(True/\(True/\(v5=(i1:Int)/\True))))/\(v2/\((p.ai.take i1)=[]/\v3)))))/\(∀ i1:Nat,let v8:=p.ai.getD i1 v0;let v9:=(i1:Int);let vc:=(v8.steps.length:Int);let vd:=v8.right.aq;let ve:=v8.right.M;let vf:=v8.left.aq;let vg:=v8.right.aM;let va:=J.mk vd vg ve;let vh:=v8.left.M;let vi:=p.ai.take i1;let vj:=v8.left.aM;let vb:=J.mk vf vj vh;(i1<=p.ai.length->(p.ai.length<=140737488355328->(O v6->(((decide (v9<v6))=true->(p.ai.length<=140737488355328->(ak v9 p.ai.length/\(O v8.bp->(O v8.ref->(v8=v8/\(v8=v8/\(v8.left=v8.left/\(v8=v8/\(v8=v8/\(v8.right=v8.right/\(v8=v8/\(v8=v8/\(v8.bp=v8.bp/\(v8.bp=v8.bp/\(v8=v8/\(v8=v8/\(v8.ref=v8.ref/\(v8.ref=v8.ref/\(av v8.left<=1048576/\(v8=v8/\(v8=v8/\(v8.right=v8.right/\(v8=v8/\(v8=v8/\(v8.bp=v8.bp/\(v8.bp=v8.bp/\(v8=v8/\(v8=v8/\(v8.ref=v8.ref/\(v8.ref=v8.ref/\(av v8.right<=1048576/\(v8=v8/\(v8=v8/\(v8.bp=v8.bp/\(v8.bp=v8.bp/\(v8=v8/\(v8=v8/\(v8.ref=v8.ref/\(v8.ref=v8.ref/\((∃ j2:Nat,((j2<=v8.steps.length/\i1<p.ai.length)/\((p=p/\(True/\(True/\(v9=v9/\(v8=v8/\(True/\(v5=(j2:Int)/\True)))))))/\((v8.left.aq=vf/\(v8.left.aM=vj/\(True/\(v8.right.aq=vd/\(v8.right.aM=vg/\(True/\(v8.bp=(v8.bp)/\(v8.ref=(v8.ref)/\v7))))))))/\(v8.left.M=vh/\(v8.right.M=ve/\((v8.steps.take j2)=[]/\(CL p i1))))))))/\(∀ j2:Nat,let vk:=v8.steps.getD j2 v1;let vm:=(j2:Int);let vn:=v8.steps.take j2;let vl:=[(ag.mk vb va (v8.bp) (v8.ref) vn)];((j2<=v8.steps.length/\i1<p.ai.length)->(v8.steps.length<=140737488355328->(O vc->(((decide (vm<vc))=true->(v8.steps.length<=140737488355328->(O vm->(ak vm v8.steps.length/\(v4/\((3000:Nat)=3000/\(v8=v8/\(v8=v8/\(v8.steps=v8.steps/\(v8.steps=v8.steps/\(vm=vm/\(ak vm v8.steps.length/\(vk=vk/\(aZ vk<=1048576/\(v4/\((3000:Nat)=3000/\(v4/\((3000:Nat)=3000/\(aY (vn.length+([vk]).length) 88/\(O (vm+(1:Int))/\(∃ j3:Nat,((j3<=v8.steps.length/\i1<p.ai.length)/\(v8.steps.length - j3<v8.steps.length - j2/\((p=p/\(True/\(True/\(v9=v9/\(v8=v8/\(True/\((vm+(1:Int))=(j3:Int)/\True)))))))/\((vf=vf/\(vj=vj/\(True/\(vd=vd/\(vg=vg/\(True/\((v8.bp)=(v8.bp)/\((v8.ref)=(v8.ref)/\v7))))))))/\(vh=vh/\(ve=ve/\((vn++([vk]))=(v8.steps.take j3)/\(CL p i1)))))))))))))))))))))))))))))/\((decide (vm<vc))=false->(aY (vi.length+vl.length) 120/\(O (v9+(1:Int))/\(∃ i3:Nat,(i3<=p.ai.length/\(p.ai.length - i3<p.ai.length - i1/\((p=p/\(True/\(True/\((v9+(1:Int))=(i3:Int)/\True))))/\(v2/\((vi++vl)=(p.ai.take i3)/\v3)))))))))))))))))))))))))))))))))))))))))))))))))))))))/\((decide (v9<v6))=false->(aj.mk (aT.mk p.sig.az p.sig.bo) vi)=p))))))))) (by kernel_rfl) ?_;rw[iQ] at hp;have f1:=λ i (h:i<p.ai.length)=>eJ bL (ag.mk zE zE (0:Int) (0:Int) []) p.ai i h;have f2:p.ai.take 0=[]:=b4I;have f3:=λ i (h:i<p.ai.length)=>kR (p.ai.getD i (ag.mk zE zE (0:Int) (0:Int) []));have f4:=λ i j (h:j<(p.ai.getD i (ag.mk zE zE (0:Int) (0:Int) [])).steps.length)=>eJ aZ (ae.mk (0:Int) false [] [] []) (p.ai.getD i (ag.mk zE zE (0:Int) (0:Int) [])).steps j h;refine⟨⟨0,?_,⟨rfl,U,U,?_,U⟩,⟨rfl,rfl,U,U⟩,?_,⟨rfl,rfl,U,U⟩,U⟩,λ i1 _ _ _=>⟨λ _ _=>⟨?_,λ _ _=>⟨rfl,rfl,rfl,rfl,rfl,rfl,rfl,rfl,rfl,rfl,rfl,rfl,rfl,rfl,?_,rfl,rfl,rfl,rfl,rfl,rfl,rfl,rfl,rfl,rfl,rfl,?_,rfl,rfl,rfl,rfl,rfl,rfl,rfl,rfl,⟨0,?_,⟨rfl,U,U,rfl,rfl,U,?_,U⟩,⟨?_,?_,U,?_,?_,U,?_,?_,U,U⟩,?_,?_,?_,⟨rfl,rfl,U,U⟩,rfl,⟨rfl,rfl,U,U⟩,U⟩,λ j2 _ _ _=>⟨λ _ _ _=>⟨?_,⟨?_,?_⟩,?_,rfl,rfl,rfl,rfl,rfl,?_,rfl,?_,⟨?_,?_⟩,?_,⟨?_,?_⟩,?_,?_,?_,j2+1,?_,?_,⟨rfl,U,U,rfl,rfl,U,?_,U⟩,⟨rfl,rfl,U,rfl,rfl,U,rfl,rfl,U,U⟩,rfl,rfl,?_,⟨rfl,rfl,U,U⟩,rfl,⟨rfl,rfl,U,U⟩,U⟩,λ _=>⟨?_,?_,i1+1,?_,?_,⟨rfl,U,U,?_,U⟩,⟨rfl,rfl,U,U⟩,?_,⟨rfl,rfl,U,U⟩,U⟩⟩⟩⟩,λ _=>?_⟩⟩;all_goals try and_intros
 all_goals first|with_reducible rfl|with_reducible assumption|exact True.intro|(simp only[b3M,b3L,b3K,b3I] at *;done)|((try simp only[b4i,J.eta,b3E,b3D,b3K,b3I,b3S,b4f,ak,O,aY,b3U,b3P,b4b,b3Y,b4e] at *);first|exact True.intro|omega|(have g:=f4 i1 j2 (by omega);have g1:=f3 i1 (by omega);have g2:=f1 i1 (by omega);omega)|(have g1:=f3 i1 (by omega);have g2:=f1 i1 (by omega);omega)|(rw[cr (ae.mk (0:Int) false [] [] []) _ j2 (by omega)];done)|exact (cr (ae.mk (0:Int) false [] [] []) _ j2 (by omega)).symm|exact b4I|(rw[cr (ag.mk zE zE (0:Int) (0:Int) []) p.ai i1 (by omega),b4a (l:=(p.ai.getD i1 (ag.mk zE zE (0:Int) (0:Int) [])).steps) (by omega)];done)|(have:=b4e (l:=(p.ai.getD i1 (ag.mk zE zE (0:Int) (0:Int) [])).steps) (i:=j2);omega)|(rw[f2];done)|(rw[f2];rfl)|(rw[cr (ag.mk zE zE (0:Int) (0:Int) []) p.ai i1 (by omega)];done)|exact (cr (ag.mk zE zE (0:Int) (0:Int) []) p.ai i1 (by omega)).symm|(rw[b4a (by omega)];done)|exact (b4a (by omega)).symm|(have:=f1 i1 (by omega);omega)|(simp only[bI];omega)|(have:=b4e (l:=p.ai) (i:=i1);omega))
def N8:aH.bX xW:=Tj trivial ⟨gW,Gy,U⟩ trivial trivial
end
end Go.Proofs.YtmjfpcajohhbeaaGreatDoor

set_option maxRecDepth 4000
set_option maxHeartbeats 4000000
namespace Go.Proofs.YtmjfpcajohhbeaaGreatDoor
noncomputable section
def Vw(p:aj):Bool:=decide ((p.ai.length:Int)<=(zR p:Int))
def BL(p:aj):Int:=bif ec p then (bif Vw p then 0 else 8) else 1
def FJ(l:List aj):Int:=bif bg ec l then (bif bg Vw l then 0 else 8) else 1
def a9I{l:List aj}(h:bg ec l=false):FJ l=1:=by unfold FJ;rw[h];rfl
def b1M{l:List aj}(h:bg ec l=true)(h2:bg Vw l=false):FJ l=8:=by unfold FJ;rw[h,h2];rfl
def b1L{l:List aj}(h:bg ec l=true)(h2:bg Vw l=true):FJ l=0:=by unfold FJ;rw[h,h2];rfl
def a9K{p:aj}(h:ec p=false):BL p=1:=by unfold BL;rw[h];rfl
def a9L{p:aj}(h:ec p=true)(h2:(zR p:Int)<(p.ai.length:Int)):BL p=8:=by unfold BL Vw;rw[h,decide_eq_false (by omega)];rfl
def a9J{p:aj}(h:ec p=true)(h2:¬ (zR p:Int)<(p.ai.length:Int)):BL p=0:=by unfold BL Vw;rw[h,decide_eq_true (by omega)];rfl
def a4M(p:aj):FJ [p]=BL p:=by unfold FJ BL;simp only[bg,Bool.and_true]
def b1m{p:aj}(h2:(zR p:Int)<(p.ai.length:Int)):Vw p=false:=by unfold Vw;exact decide_eq_false (by omega)
def b1l{p:aj}(h2:¬ (zR p:Int)<(p.ai.length:Int)):Vw p=true:=by unfold Vw;exact decide_eq_true (by omega)
structure Mq(l:List aj)(k:Nat):Prop where
 v:bg ec l=true
 t:me Vw l k
def Mq.pv{l:List aj}{k:Nat}(h:Mq l k)(hk:k<l.length):sB (l.getD k (aj.mk (aT.mk (0:Int) (0:Int)) [])):=⟨Mu ec (aj.mk (aT.mk (0:Int) (0:Int)) []) l k h.v hk⟩
def Mq.bad{l:List aj}{k:Nat}(h:Mq l k)(hk:k<l.length)(h2:(zR (l.getD k (aj.mk (aT.mk (0:Int) (0:Int)) [])):Int)<((l.getD k (aj.mk (aT.mk (0:Int) (0:Int)) [])).ai.length:Int)):FJ l=8:=b1M h.v (h.t.bad (aj.mk (aT.mk (0:Int) (0:Int)) []) hk (b1m h2))
def Mq.next{l:List aj}{k:Nat}(h:Mq l k)(hk:k<l.length)(h2:¬ (zR (l.getD k (aj.mk (aT.mk (0:Int) (0:Int)) [])):Int)<((l.getD k (aj.mk (aT.mk (0:Int) (0:Int)) [])).ai.length:Int)):Mq l (k+1):=⟨h.v,h.t.next (aj.mk (aT.mk (0:Int) (0:Int)) []) hk (b1l h2)⟩
def Mq.end{l:List aj}{k:Nat}(h:Mq l k)(hk:l.length<=k):FJ l=0:=b1L h.v (h.t.done hk)
def tA:aH:=⟨ug,[.v (.slice (.st .proof))],λ (l:List aj)=>⟨(none,[⟨(.int .i64),FJ l⟩])⟩⟩
def Si(l:List aj):Nat->aE:=(λ zb=>if Nat.beq zb 0 then .mk (Nat) (λ k=>me ec l k) (λ k=>l.length - k) [] [] (λ k=>[(9, .aI ⟨(.int .i64),((k:Int):Int)⟩)]) [] (λ k=>[]) [] [] (λ k=>λ _ => .none) else if Nat.beq zb 2 then .mk (Nat) (λ k=>Mq l k) (λ k=>l.length - k) [] [0,7,8,9,10] (λ k=>[(19, .aI ⟨(.int .i64),((k:Int):Int)⟩)]) [] (λ k=>[]) [] [] (λ k=>λ _ => .none) else .none)
def QI(hE:aC [kz,xv]):aH.Good tA:=by
 refine⟨au B0 rfl (by decide),?_⟩;show ∀ (l:List aj),True->bd prog ug [.val ⟨(.slice (.st .proof)),l⟩] (·=[⟨(.int .i64),FJ l⟩]);intro l _;refine aU (wr:=[]) (cl:=[]) (ro:=[]) hE B0 KD (Si l) (let v0:=aj.mk (aT.mk (0:Int) (0:Int)) [];let v1:=(l.length:Int);((O v1->((∃ k1:Nat,(me ec l k1/\((l=l/\(l=l/\(v1=v1/\((0:Int)=(k1:Int)/\True))))/\True)))/\(∀ k1:Nat,(me ec l k1->(((decide ((k1:Int)<v1))=true->(ak (k1:Int) l.length/\(((!(ec (l.getD k1 v0)))=true->(1:Int)=(FJ l))/\((!(ec (l.getD k1 v0)))=false->(O ((k1:Int)+(1:Int))/\(∃ k2:Nat,(me ec l k2/\(l.length - k2<l.length - k1/\((l=l/\(l=l/\(v1=v1/\(((k1:Int)+(1:Int))=(k2:Int)/\True))))/\True)))))))))/\((decide ((k1:Int)<v1))=false->(O v1->((∃ k2:Nat,(Mq l k2/\((l=l/\(v1=v1/\((0:Int)=(k2:Int)/\True)))/\True)))/\(∀ k2:Nat,let v3:=l.getD k2 v0;let v2:=decide (((zR v3:Int))<((v3.ai.length:Int)));(Mq l k2->(((decide ((k2:Int)<v1))=true->(ak (k2:Int) l.length/\(sB v3/\(O ((zR v3:Int))->(v3.ai.length<=140737488355328->(O ((v3.ai.length:Int))->((v2=true->(8:Int)=(FJ l))/\(v2=false->(O ((k2:Int)+(1:Int))/\(∃ k3:Nat,(Mq l k3/\(l.length - k3<l.length - k2/\((l=l/\(v1=v1/\(((k2:Int)+(1:Int))=(k3:Int)/\True)))/\True)))))))))))))/\((decide ((k2:Int)<v1))=false->(0:Int)=(FJ l))))))))))))))) (by kernel_rfl) ?_;refine λ _=>⟨⟨0,?_,⟨rfl,rfl,rfl,?_,U⟩,U⟩,λ k1 _=>⟨λ _=>⟨?_,λ _=>?_,λ _=>⟨?_,k1+1,?_,?_,⟨rfl,rfl,rfl,?_,U⟩,U⟩⟩,λ _ _=>⟨⟨0,?_,⟨rfl,rfl,?_,U⟩,U⟩,λ k2 _=>⟨λ _=>⟨?_,?_,λ _ _ _=>⟨λ _=>?_,λ _=>⟨?_,k2+1,?_,?_,⟨rfl,rfl,?_,U⟩,U⟩⟩⟩,λ _=>?_⟩⟩⟩⟩;all_goals try and_intros
 all_goals first|with_reducible rfl|with_reducible assumption|exact True.intro|(simp only[b3M,b3L,b3K,b3I] at *;done)|((try simp only[b4i,J.eta,b3E,b3D,b3K,b3I,b3S,b4f,ak,O,aY,b3U,b3P,b4b,b3Y,b4e] at *);first|with_reducible exact True.intro|omega|exact me.zero _ _|(have h:me ec l k1:=(by with_reducible assumption);first|exact a9I (h.bad _ (by omega) (by with_reducible assumption))|exact (a9I (h.bad _ (by omega) (by with_reducible assumption))).symm|exact⟨h.done (by omega),me.zero _ _⟩|exact h.next _ (by omega) (by with_reducible assumption)|(have:=h.le;omega))|(have h:Mq l k1:=(by with_reducible assumption);first|exact h.pv (by omega)|exact h.bad (by omega) (by omega)|exact (h.bad (by omega) (by omega)).symm|exact h.end (by omega)|exact (h.end (by omega)).symm|exact h.next (by omega) (by omega)|(have:=h.t.le;omega))|(have h:Mq l k2:=(by with_reducible assumption);first|exact h.pv (by omega)|exact h.bad (by omega) (by omega)|exact (h.bad (by omega) (by omega)).symm|exact h.end (by omega)|exact (h.end (by omega)).symm|exact h.next (by omega) (by omega)|(have:=h.t.le;omega)))
def KX:aH.Good tA:=QI ⟨sL,M7,U⟩
def xM:aH:=⟨yg,[.r (.st .proof)],λ (p:aj)=>⟨(none,[⟨(.int .i64),BL p⟩])⟩⟩
def U0(p:aj):Nat->aE:=λ _ => .none
def S8(hE:aC [uN,tJ]):aH.Good xM:=by
 refine⟨au Ee rfl (by decide),?_⟩;show ∀ (p:aj),True->bd prog yg [.ref ⟨(.st .proof),p⟩] (·=[⟨(.int .i64),BL p⟩]);intro p _;refine aU (wr:=[]) (cl:=[]) (ro:=[]) hE Ee MN (U0 p) (let v0:=decide (((zR p:Int))<((p.ai.length:Int)));((((!(ec p))=true->(1:Int)=(BL p))/\((!(ec p))=false->(sB p/\(O ((zR p:Int))->(p.ai.length<=140737488355328->(O ((p.ai.length:Int))->((v0=true->(8:Int)=(BL p))/\(v0=false->(0:Int)=(BL p))))))))))) (by kernel_rfl) ?_;refine⟨λ _=>?_,λ _=>⟨?_,λ _ _ _=>⟨λ _=>?_,λ _=>?_⟩⟩⟩;all_goals try and_intros
 all_goals first|with_reducible rfl|with_reducible assumption|exact True.intro|(simp only[b3M,b3L,b3K,b3I] at *;done)|((try simp only[b4i,J.eta,b3E,b3D,b3K,b3I,b3S,b4f,ak,O,aY,b3U,b3P,b4b,b3Y,b4e] at *);first|exact True.intro|exact⟨(by with_reducible assumption)⟩|exact a9K (by with_reducible assumption)|exact (a9K (by with_reducible assumption)).symm|exact a9L (by with_reducible assumption) (by omega)|exact (a9L (by with_reducible assumption) (by omega)).symm|exact a9J (by with_reducible assumption) (by omega)|exact (a9J (by with_reducible assumption) (by omega)).symm|omega)
def Np:aH.Good xM:=S8 ⟨EI,K8,U⟩
def pK:aH:=⟨pY,[.r (.st .claim)],λ (c:ag)=>⟨(none,[⟨(.st .equation),ar.mk c.left c.right⟩])⟩⟩
def NR(c:ag):Nat->aE:=λ _ => .none
def LA(hE:aC []):aH.Good pK:=by
 refine⟨au yA rfl (by decide),?_⟩;show ∀ (c:ag),True->bd prog pY [.ref ⟨(.st .claim),c⟩] (·=[⟨(.st .equation),ar.mk c.left c.right⟩]);intro c _;refine aU (wr:=[]) (cl:=[]) (ro:=[]) hE yA Hz (NR c) ((ar.mk (aJ c.left) (aJ c.right))=(ar.mk c.left c.right)) (by kernel_rfl) ?_;refine ?_;all_goals try and_intros
 all_goals try (first|with_reducible rfl|with_reducible assumption)
 all_goals try simp only[J.eta,ag.eta,ar.eta,aK,br,bG] at *
 all_goals first|rfl|trivial|omega|(simp only[b3E,b3D,ak,O,bQ,cw,bI,aY] at *;omega)|(simp[ak,O] at *;omega)|grind
def HI:aH.Good pK:=LA trivial
end
end Go.Proofs.YtmjfpcajohhbeaaGreatDoor

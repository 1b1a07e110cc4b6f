/- VmUse, VmOpen, VmRow, VmLib, VmSz, VmTo, VmEq, VmOwnFam, VmOwnFam2, VmOwnFam4, VmHeld, VmHeldpf, VmExpr, VmExpr2, VmShaped, VmTruth, VmValid, VmPfe, VmBld, VmBld2, VmShelf, VmShelf2, VmBw, VmSplit, VmWord. -/
import Derived.Test.YtmjfpcajohhbeaaGreatDoorVmNew
import Derived.Test.YtmjfpcajohhbeaaGreatDoorRows
import Derived.WalkKit
import Derived.ProofKit
import Derived.OpenShut
import Derived.JoinedCond
import Derived.Carry
import Derived.ChangeSame
import Derived.Shelf.Vars
import Derived.Shelf.Strings.Builder1
import Derived.Shelf.Strconv.Itoa0
import Derived.Shelf.Strconv.Itoa1
import Derived.Shelf.LaysM
import Derived.Shelf.Strconv.Itoa2
import Derived.Shelf.Strconv.Itoa3
import Derived.Shelf.Strings.Search1
import Derived.Shelf.Strings.Search2
import Derived.Shelf.Strings.Cut
import Derived.Shelf.Strings.Shaped
import Derived.Shelf.Strings.Prefix
import Derived.Test.YtmjfpcajohhbeaaGreatDoorProg
import Derived.Lib.Builder
import Derived.Lib.AppendStr
import Derived.Lib.UnsafeStr
import Derived.Lib.Walk
import Derived.Lib.Strings
import Derived.Lib.Slices
import Derived.Lib.MakeNoZero
import Derived.Laws.Externs
import Derived.Laws.IdiomCopy
import Derived.BigCall
import Derived.OwnWalk
set_option linter.all false
namespace Go.Proofs.YtmjfpcajohhbeaaGreatDoor
def b6h:=@Bool.and_eq_true_iff
def b5x:=@List.replicate_succ
def b4q:=@Nat.not_lt_zero
def b4m:=@Nat.lt_succ_self
def b3Q:=@Bool.not_eq_false'
def b7p:=@decide_not
def b6z:=@List.set_set
def b7x:=@Int.lt_or_le
def b7d:=@Go.Oper.upon_value
def b6W:=@Go.RowKit.Below.refl
def b6i:=@Go.Lib.cell_of_heap
def b5K:=@Bool.and_eq_false_iff
abbrev cb{α:Type}[SizeOf α](x:α):Nat:=SizeOf.sizeOf x
def b9{α:Type}[SizeOf α](d:α):∀ (xs:List α) (i:Nat),i<xs.length->cb (xs.getD i d)<cb xs
 | [],i,h=>by simp at h
 | x::xs,0,h=>by simp[cb];omega
 | x::xs,i+1,h=>by
  have:=b9 d xs i (by simpa using h);simp[cb] at this ⊢;omega
def dj(e:J):cb e.M<cb e:=by
 cases e;simp[cb];omega
inductive PK where
 | v (τ:Ty)
 | r (τ:Ty)
 | f
 | c (ps:List Ty) (r:Ty)
 | o (τ:Ty)
 | b (k:Nat)
@[reducible] def KT:List PK->Type 1
 | []=>ULift (Vc×List TV)
 | .v τ::l=>τ.den->KT l
 | .r τ::l=>τ.den->KT l
 | .f::l=>FuncId->KT l
 | .c ps r::l=>FN ps r->KT l
 | .o τ::l=>τ.den->KT l
 | .b _::l=>KT l
def df:(l:List PK)->KT l->List Arg->Option (Vc×List TV)
 | [],x,[]=>some x.down
 | .v τ::l,g, .val a::zs=>match a.Z9 τ with
  | some x=>df l (g x) zs
  | none=>none
 | .r τ::l,g, .ref a::zs=>match a.Z9 τ with
  | some x=>df l (g x) zs
  | none=>none
 | .f::l,g, .fn a::zs=>df l (g a) zs
 | .c ps r::l,g, .c9 a::zs=>match a.Z9 ps r with
  | some x=>df l (g x) zs
  | none=>none
 | .o τ::l,g, .own a::zs=>match a.Z9 τ with
  | some x=>df l (g x) zs
  | none=>none
 | _,_,_=>none
def KOk(P:Program)(f:FuncId):(l:List PK)->KT l->List Arg->Prop
 | [],x,acc=>x.down.1.ok->gp P f acc (·=x.down.2)
 | .v τ::l,g,acc=>∀ x,KOk P f l (g x) (acc++[.val ⟨τ,x⟩])
 | .r τ::l,g,acc=>∀ x,KOk P f l (g x) (acc++[.ref ⟨τ,x⟩])
 | .f::l,g,acc=>∀ x,KOk P f l (g x) (acc++[.fn x])
 | .c ps r::l,g,acc=>∀ x,KOk P f l (g x) (acc++[.c9 ⟨ps,r,x⟩])
 | .o τ::l,g,acc=>∀ x,KOk P f l (g x) (acc++[.own ⟨τ,x⟩])
 | .b _::_,_,_=>True
def sw{P:Program}{f:FuncId}:∀ (l:List PK) (g:KT l) (acc zs:List Arg) (pre:Vc) (res:List TV),KOk P f l g acc->df l g zs=some (pre,res)->pre.ok->gp P f (acc++zs) (·=res)
 | [],g,acc,zs,pre,res,h,e,hp=>by
  cases zs with
  | nil =>
   simp only[df,b3t] at e;have h':g.down.1.ok->gp P f acc (·=g.down.2):=h;rw[e] at h';rw[b4N];exact h' hp
  | cons a zs=>simp[df] at e
 | .v τ::l,g,acc,zs,pre,res,h,e,hp=>by
  cases zs with
  | nil=>simp[df] at e
  | cons a zs =>
   cases a with
   | val a =>
    rw[df] at e;split at e
    .rename_i x hx;have:=sw l (g x) (acc++[.val ⟨τ,x⟩]) zs pre res (h x) e hp;rw[TV.aW hx];simpa using this
    .cases e
   | ref a=>simp[df] at e
   | c9 a=>simp[df] at e
   | own a=>simp[df] at e
   | fn a=>simp[df] at e
   | box a=>simp[df] at e
 | .r τ::l,g,acc,zs,pre,res,h,e,hp=>by
  cases zs with
  | nil=>simp[df] at e
  | cons a zs =>
   cases a with
   | ref a =>
    rw[df] at e;split at e
    .rename_i x hx;have:=sw l (g x) (acc++[.ref ⟨τ,x⟩]) zs pre res (h x) e hp;rw[TV.aW hx];simpa using this
    .cases e
   | val a=>simp[df] at e
   | c9 a=>simp[df] at e
   | own a=>simp[df] at e
   | fn a=>simp[df] at e
   | box a=>simp[df] at e
 | .f::l,g,acc,zs,pre,res,h,e,hp=>by
  cases zs with
  | nil=>simp[df] at e
  | cons a zs =>
   cases a with
   | fn a =>
    rw[df] at e;have:=sw l (g a) (acc++[.fn a]) zs pre res (h a) e hp;simpa using this
   | val a=>simp[df] at e
   | c9 a=>simp[df] at e
   | own a=>simp[df] at e
   | ref a=>simp[df] at e
   | box a=>simp[df] at e
 | .c ps r::l,g,acc,zs,pre,res,h,e,hp=>by
  cases zs with
  | nil=>simp[df] at e
  | cons a zs =>
   cases a with
   | c9 a =>
    rw[df] at e;split at e
    .rename_i x hx;have:=sw l (g x) (acc++[.c9 ⟨ps,r,x⟩]) zs pre res (h x) e hp;rw[FV.aW hx];simpa using this
    .cases e
   | val a=>simp[df] at e
   | ref a=>simp[df] at e
   | fn a=>simp[df] at e
   | own a=>simp[df] at e
   | box a=>simp[df] at e
 | .o τ::l,g,acc,zs,pre,res,h,e,hp=>by
  cases zs with
  | nil=>simp[df] at e
  | cons a zs =>
   cases a with
   | own a =>
    rw[df] at e;split at e
    .rename_i x hx;have:=sw l (g x) (acc++[.own ⟨τ,x⟩]) zs pre res (h x) e hp;rw[TV.aW hx];simpa using this
    .cases e
   | val a=>simp[df] at e
   | ref a=>simp[df] at e
   | fn a=>simp[df] at e
   | c9 a=>simp[df] at e
   | box a=>simp[df] at e
 | .b k::l,g,acc,zs,pre,res,h,e,hp=>by
  cases zs<;>simp[df] at e
structure aL where
 n:Nat
 l:List PK
 g:KT l
def aL.Good(c:aL):Prop:=jG prog c.n/\KOk prog c.n c.l c.g []
def pO:List aL->Nat->List Arg->Option (Vc×List TV)
 | [],_,_=>none
 | c::r,f,zs=>match Nat.beq c.n f with
  | true=>df c.l c.g zs
  | false=>pO r f zs
def PK.own:PK->Bool
 | .o _=>true
 | _=>false
def a5a:List aL->Nat->List Bool
 | [],_=>[]
 | c::r,f=>match Nat.beq c.n f with
  | true=>match c.l.any PK.own with
   | true=>c.l.map PK.own
   | false=>[]
  | false=>a5a r f
def Mw(l:List aL)(wr:List Nat:=[])(cl:List (Nat×qL):=[])(ro:List Nat:=[]):Env:=Env.mk FB UM (pO l) wr [] (λ _ _=>none) (λ _=>none) (ah cl) ro (λ _=>[]) (λ _=>none) (λ _ _ _=>none) Qb Bq EL
def bD:List aL->Prop
 | []=>True
 | c::r=>c.Good/\bD r
def Q8:∀ (l:List aL),bD l->∀ f args pre res,pO l f args=some (pre,res)->pre.ok->jG prog f/\gp prog f args (·=res)
 | [],_,f,args,pre,res,e,_=>by cases e
 | c::r,h,f,args,pre,res,e,hp=>by
  rw[pO] at e;split at e
  .rename_i hb;have hb:=b3x hb;subst hb;exact⟨h.1.1,sw c.l c.g [] args pre res h.1.2 e hp⟩
  .exact Q8 r h.2 f args pre res e hp
def IZ{α:Type}:∀ (l:List (Nat×α)) (n:Nat) (v:α),ah l n=some v->(n,v)∈l
 | [],n,v,h=>by cases h
 | (k,u)::r,n,v,h=>by
  rw[ah] at h;split at h
  .rename_i hb;cases h;rw[b3x hb];exact b5U ..
  .exact b5c _ (IZ r n v h)
def Ra{l:List aL}{wr:List Nat}{cl:List (Nat×qL)}{ro:List Nat}(h:bD l):bE prog (Mw l wr cl ro) where
 ty T τ b e ht:=by
  have h1:=b4r.mp (b6h.1 (Kc (pO l) wr [] (λ _ _=>none) (λ _=>none) (ah cl) ro (λ _=>[]) (λ _=>none) (λ _ _ _=>none) Bq)).1 _ (IZ _ _ _ ht);exact h1
 mty T κ ε ht:=by
  have h1:=b4r.mp (b6h.1 (Kc (pO l) wr [] (λ _ _=>none) (λ _=>none) (ah cl) ro (λ _=>[]) (λ _=>none) (λ _ _ _=>none) Bq)).2 _ (IZ _ _ _ ht);exact h1
 pty _ _ _:=trivial
 Q7:=Q8 l h
 Qh _ _ _ _ h:=by cases h
 mark _ _ h:=by cases h
 WX:=WY
 cmp T h:=List.all_eq_true.mp Vo T (by have h1:EL.contains T=true:=h;simpa using h1)
 Zu _ _ _ _ _ _ _ h:=by cases h
def ar {f:FuncId} {fn:Func} (h:prog.funcs[f]?=some fn) (hb:fn.body.isNone=false:=by rfl) (hn:(fn.name == "runtime.NumGoroutine")=false:=by decide):jG prog f:=⟨fn,h,hb,hn⟩
def o4:∀ {l m:List TV},xn l m->l=m
 | [],[],_=>rfl
 | [v],[u],h=>by rw[kv h]
 | v::v'::vs,[u],h=>by
  have:=o4 (l:=v'::vs) (m:=[]) h.2;cases this
 | [v],u::u'::us,h=>by
  have:=o4 (l:=[]) (m:=u'::us) h.2;cases this
 | v::v'::vs,u::u'::us,h=>by rw[kv h.1,o4 (l:=v'::vs) (m:=u'::us) h.2]
 | [],u::us,h=>by cases h
 | v::vs,[],h=>by
  cases vs<;>cases h
def gp.mono{P:Program}{f:FuncId}{args:List Arg}{p q:List TV->Prop}(h:gp P f args p)(hpq:∀ r,p r->q r):gp P f args q:=by
 intro w S cA hS ha;refine (h w S cA hS ha).mono λ e w'=>?_;rintro⟨x,S',res,h1,h2,h3⟩;exact⟨x,S',res,h1,hpq _ h2,h3⟩
def a3E{f:FuncId}{fn:Func}{dI:Code}{l:List aL}{wr:List Nat}{cl:List (Nat×qL)}{ro:List Nat}(hl:bD l)(hf:prog.funcs[f]?=some fn)(hb:fn.body=some dI)(Λ:Nat->az){args:List Arg}{res:List TV}
  (h:s5 (Mw l wr cl ro) dI Λ 0 (yd (Mw l wr cl ro) fn λ r=>xn r res) (dP fn args)):gp prog f args (·=res) :=
 (YV (Ra hl) tQ hf hb Λ h).mono λ _=>o4
def xk(P:Program)(f:FuncId):(l:List PK)->KT l->List Arg->Prop
 | [],x,acc=>x.down.1.ok->rm P f acc x.down.2
 | .v τ::l,g,acc=>∀ x,xk P f l (g x) (acc++[.val ⟨τ,x⟩])
 | .r τ::l,g,acc=>∀ x,xk P f l (g x) (acc++[.ref ⟨τ,x⟩])
 | .f::l,g,acc=>∀ x,xk P f l (g x) (acc++[.fn x])
 | .c ps r::l,g,acc=>∀ x,xk P f l (g x) (acc++[.c9 ⟨ps,r,x⟩])
 | .o τ::l,g,acc=>∀ x,xk P f l (g x) (acc++[.own ⟨τ,x⟩])
 | .b _::_,_,_=>True
def px{P:Program}{f:FuncId}:∀ (l:List PK) (g:KT l) (acc zs:List Arg) (pre:Vc) (res:List TV),xk P f l g acc->df l g zs=some (pre,res)->pre.ok->rm P f (acc++zs) res
 | [],g,acc,zs,pre,res,h,e,hp=>by
  cases zs with
  | nil =>
   simp only[df,b3t] at e;have h':g.down.1.ok->rm P f acc g.down.2:=h;rw[e] at h';rw[b4N];exact h' hp
  | cons a zs=>simp[df] at e
 | .v τ::l,g,acc,zs,pre,res,h,e,hp=>by
  cases zs with
  | nil=>simp[df] at e
  | cons a zs =>
   cases a with
   | val a =>
    rw[df] at e;split at e
    .rename_i x hx;have:=px l (g x) (acc++[.val ⟨τ,x⟩]) zs pre res (h x) e hp;rw[TV.aW hx];simpa using this
    .cases e
   | ref a=>simp[df] at e
   | c9 a=>simp[df] at e
   | own a=>simp[df] at e
   | fn a=>simp[df] at e
   | box a=>simp[df] at e
 | .r τ::l,g,acc,zs,pre,res,h,e,hp=>by
  cases zs with
  | nil=>simp[df] at e
  | cons a zs =>
   cases a with
   | ref a =>
    rw[df] at e;split at e
    .rename_i x hx;have:=px l (g x) (acc++[.ref ⟨τ,x⟩]) zs pre res (h x) e hp;rw[TV.aW hx];simpa using this
    .cases e
   | val a=>simp[df] at e
   | c9 a=>simp[df] at e
   | own a=>simp[df] at e
   | fn a=>simp[df] at e
   | box a=>simp[df] at e
 | .f::l,g,acc,zs,pre,res,h,e,hp=>by
  cases zs with
  | nil=>simp[df] at e
  | cons a zs =>
   cases a with
   | fn a =>
    rw[df] at e;have:=px l (g a) (acc++[.fn a]) zs pre res (h a) e hp;simpa using this
   | val a=>simp[df] at e
   | c9 a=>simp[df] at e
   | own a=>simp[df] at e
   | ref a=>simp[df] at e
   | box a=>simp[df] at e
 | .c ps r::l,g,acc,zs,pre,res,h,e,hp=>by
  cases zs with
  | nil=>simp[df] at e
  | cons a zs =>
   cases a with
   | c9 a =>
    rw[df] at e;split at e
    .rename_i x hx;have:=px l (g x) (acc++[.c9 ⟨ps,r,x⟩]) zs pre res (h x) e hp;rw[FV.aW hx];simpa using this
    .cases e
   | val a=>simp[df] at e
   | ref a=>simp[df] at e
   | fn a=>simp[df] at e
   | own a=>simp[df] at e
   | box a=>simp[df] at e
 | .o τ::l,g,acc,zs,pre,res,h,e,hp=>by
  cases zs with
  | nil=>simp[df] at e
  | cons a zs =>
   cases a with
   | own a =>
    rw[df] at e;split at e
    .rename_i x hx;have:=px l (g x) (acc++[.own ⟨τ,x⟩]) zs pre res (h x) e hp;rw[TV.aW hx];simpa using this
    .cases e
   | val a=>simp[df] at e
   | ref a=>simp[df] at e
   | fn a=>simp[df] at e
   | c9 a=>simp[df] at e
   | box a=>simp[df] at e
 | .b k::l,g,acc,zs,pre,res,h,e,hp=>by
  cases zs<;>simp[df] at e
def aL.cS(c:aL):Prop:=jG prog c.n/\xk prog c.n c.l c.g []
def Cr.oT{w:World}{S:Nat->Prop}{v:TV}{x:Value}{fp:List Nat}(h:Cr w v x fp)(hb:∀ b∈fp,S b):dZ w S v x:=by
 obtain⟨τ,y⟩:=v;cases τ with
 | st s =>
  obtain⟨cs,h1,h2⟩:=h;exact⟨cs,h1,h2.rd _ hb⟩
 | _=>exact Ow.rd _ h hb
def Od.oT{w:World}{S:Nat->Prop}:∀ {vs:List TV} {xs:List Value} {fp:List Nat},Od w vs xs fp->(∀ b∈fp,S b)->aT (dZ w S) vs xs
 | [],[],_,_,_=>trivial
 | v::vs,x::xs,fp,h,hb=>by
  obtain⟨f1,f2,rfl,h1,h2⟩:=h;exact⟨h1.oT λ b cz=>hb b (b5E _ cz),Od.oT h2 λ b cz=>hb b (List.mem_append_right _ cz)⟩
 | [],_::_,_,h,_=>h.elim
 | _::_,[],_,h,_=>h.elim
def rm.plain{P:Program}{f:FuncId}{args:List Arg}{res:List TV}(h:rm P f args res):gp P f args (·=res):=by
 intro w S cA hS ha;refine (h w S cA [] hS (tX.W8 ha) (.inl rfl) b4I (λ b hb=>by cases hb)).mono ?_;rintro e w' ⟨x,fp,rfl,hk,hr,_,lY⟩;have hn:∀ b∈fp,w.heap.size<=b/\b<w'.heap.size:=λ b hb=>(lY b hb).elim (λ q=>by cases q) id;refine⟨x,λ b=>S b\/b∈fp,res,rfl,rfl,⟨hk.os,hk.tape,hk.output,hk.size,λ b hb _=>hk.block b hb λ q=>by cases q⟩,λ b hb=>⟨λ q=>q.elim id λ q=>absurd (hn b q).1 (by omega), .inl⟩,λ b q=>q.elim (λ q=>b3P (hS.1 b q) hk.size) λ q=>(hn b q).2,?_⟩;match res,hr with
 | [v],hr=>exact Cr.oT (v:=v) hr λ b hb => .inr hb
 | [],hr =>
  obtain⟨l,h1,h2⟩:=hr;exact⟨l,h1,h2.oT λ b hb => .inr hb⟩
 | v::u::vs,hr =>
  obtain⟨l,h1,h2⟩:=hr;exact⟨l,h1,h2.oT λ b hb => .inr hb⟩
def xk.plain{P:Program}{f:FuncId}:∀ (l:List PK) (g:KT l) (acc:List Arg),xk P f l g acc->KOk P f l g acc
 | [],_,_,h=>λ hp=>(h hp).plain
 | .v _::l,g,_,h=>λ x=>xk.plain l (g x) _ (h x)
 | .r _::l,g,_,h=>λ x=>xk.plain l (g x) _ (h x)
 | .f::l,g,_,h=>λ x=>xk.plain l (g x) _ (h x)
 | .c _ _::l,g,_,h=>λ x=>xk.plain l (g x) _ (h x)
 | .o _::l,g,_,h=>λ x=>xk.plain l (g x) _ (h x)
 | .b _::_,_,_,_=>trivial
def aL.cS.plain{k:aL}(h:k.cS):k.Good:=⟨h.1,xk.plain k.l k.g [] h.2⟩
def hJ:List aL->Prop
 | []=>True
 | c::r=>c.cS/\hJ r
def W7:∀ (l:List aL),hJ l->∀ f args pre res,pO l f args=some (pre,res)->pre.ok->jG prog f/\rm prog f args res
 | [],_,f,args,pre,res,e,_=>by cases e
 | c::r,h,f,args,pre,res,e,hp=>by
  rw[pO] at e;split at e
  .rename_i hb;have hb:=b3x hb;subst hb;exact⟨h.1.1,px c.l c.g [] args pre res h.1.2 e hp⟩
  .exact W7 r h.2 f args pre res e hp
structure MK where
 n:Nat
 m:Cp
def MK.Good(c:MK):Prop:=jG prog c.n/\JN prog c.n c.m
def jF:List MK->Prop
 | []=>True
 | c::r=>c.Good/\jF r
def J1:List MK->Nat->Option Cp
 | [],_=>none
 | c::r,f=>match Nat.beq c.n f with
  | true=>some c.m
  | false=>J1 r f
def WM:∀ (l:List MK),jF l->∀ f m,J1 l f=some m->jG prog f/\JN prog f m
 | [],_,f,m,e=>by cases e
 | c::r,h,f,m,e=>by
  rw[J1] at e;split at e
  .rename_i hb;have hb:=b3x hb;subst hb;cases e;exact h.1
  .exact WM r h.2 f m e
@[reducible] def KTC:List Ty->Type 1->Type 1
 | [],R=>R
 | t::ts,R=>t.den->KTC ts R
@[reducible] def KTD:List (List Ty)->Type 1
 | []=>ULift (Vc×List TV×List (List TV))
 | ts::D=>KTC ts (KTD D)
@[reducible] def XI:List PK->List (List Ty)->Type 1
 | [],D=>KTD D
 | .v τ::l,D=>τ.den->XI l D
 | .r τ::l,D=>τ.den->XI l D
 | .f::l,D=>FuncId->XI l D
 | .b _::l,D=>XI l D
 | .c ps r::l,D=>FN ps r->XI l D
 | .o _::l,D=>XI l D
def kC:(ts:List Ty)->(R:Type 1)->KTC ts R->List TV->Option R
 | [],_,r,[]=>some r
 | t::ts,R,g,v::vs=>match v.Z9 t with
  | some x=>kC ts R (g x) vs
  | none=>none
 | _,_,_,_=>none
def kD:(D:List (List Ty))->KTD D->List (List TV)->Option (Vc×List TV×List (List TV))
 | [],r,[]=>some r.down
 | ts::D,g,vs::bM=>match kC ts (KTD D) g vs with
  | some h=>kD D h bM
  | none=>none
 | _,_,_=>none
def kS:(l:List PK)->(D:List (List Ty))->XI l D->List Arg->List (List TV)->Option (Vc×List TV×List (List TV))
 | [],D,g,[],bM=>kD D g bM
 | .v τ::l,D,g, .val a::zs,bM=>match a.Z9 τ with
  | some x=>kS l D (g x) zs bM
  | none=>none
 | .r τ::l,D,g, .ref a::zs,bM=>match a.Z9 τ with
  | some x=>kS l D (g x) zs bM
  | none=>none
 | .f::l,D,g, .fn a::zs,bM=>kS l D (g a) zs bM
 | .c ps r::l,D,g, .c9 a::zs,bM=>match a.Z9 ps r with
  | some F=>kS l D (g F) zs bM
  | none=>none
 | .b k::l,D,g, .box j::zs,bM=>match Nat.beq k j with
  | true=>kS l D g zs bM
  | false=>none
 | _,_,_,_,_=>none
def a6f:(ts:List Ty)->(R:Type 1)->(R->List TV->Prop)->KTC ts R->List TV->Prop
 | [],_,p,r,acc=>p r acc
 | t::ts,R,p,g,acc=>∀ x,a6f ts R p (g x) (acc++[⟨t,x⟩])
def a6g(q:List (List TV)->Vc×List TV×List (List TV)->Prop):(D:List (List Ty))->KTD D->List (List TV)->Prop
 | [],r,acc=>q acc r.down
 | ts::D,g,acc=>a6f ts (KTD D) (λ h vs=>a6g q D h (acc++[vs])) g []
def UT(P:Program)(f:FuncId)(sh:List (List CK)):(l:List PK)->(D:List (List Ty))->XI l D->List Arg->Prop
 | [],D,g,acc=>a6g (λ bM r=>r.1.ok->Oc P f sh acc bM r.2.1 r.2.2) D g []
 | .v τ::l,D,g,acc=>∀ x,UT P f sh l D (g x) (acc++[.val ⟨τ,x⟩])
 | .r τ::l,D,g,acc=>∀ x,UT P f sh l D (g x) (acc++[.ref ⟨τ,x⟩])
 | .f::l,D,g,acc=>∀ x,UT P f sh l D (g x) (acc++[.fn x])
 | .b k::l,D,g,acc=>UT P f sh l D g (acc++[.box k])
 | .c ps r::l,D,g,acc=>∀ x,UT P f sh l D (g x) (acc++[.c9 ⟨ps,r,x⟩])
 | .o _::_,_,_,_=>True
def a7o:∀ (ts:List Ty) (R:Type 1) (p:R->List TV->Prop) (g:KTC ts R) (acc vs:List TV) (r:R),a6f ts R p g acc->kC ts R g vs=some r->p r (acc++vs)
 | [],R,p,g,acc,vs,r,h,e=>by
  cases vs with
  | nil =>
   simp only[kC,b3t] at e;subst e;rw[b4N];exact h
  | cons v vs=>simp[kC] at e
 | t::ts,R,p,g,acc,vs,r,h,e=>by
  cases vs with
  | nil=>simp[kC] at e
  | cons v vs =>
   rw[kC] at e;split at e
   .rename_i x hx;have:=a7o ts R p (g x) (acc++[⟨t,x⟩]) vs r (h x) e;rw[TV.aW hx];simpa using this
   .cases e
def a7p(q:List (List TV)->Vc×List TV×List (List TV)->Prop):∀ (D:List (List Ty)) (g:KTD D) (acc bM:List (List TV)) (r:Vc×List TV×List (List TV)),a6g q D g acc->kD D g bM=some r->q (acc++bM) r
 | [],g,acc,bM,r,h,e=>by
  cases bM with
  | nil =>
   simp only[kD,b3t] at e;subst e;rw[b4N];exact h
  | cons v vs=>simp[kD] at e
 | ts::D,g,acc,bM,r,h,e=>by
  cases bM with
  | nil=>simp[kD] at e
  | cons vs bM =>
   rw[kD] at e;split at e
   .rename_i k hk;have h1:=a7o ts _ _ g [] vs k h hk;have:=a7p q D k (acc++[vs]) bM r (by simpa using h1) e;simpa using this
   .cases e
def Rv{P:Program}{f:FuncId}{sh:List (List CK)}:∀ (l:List PK) (D:List (List Ty)) (g:XI l D) (acc zs:List Arg) (bM:List (List TV)) (pre:Vc) (res:List TV) (dJ:List (List TV)),UT P f sh l D g acc->kS l D g zs bM=some (pre,res,dJ)->pre.ok->Oc P f sh (acc++zs) bM res dJ
 | [],D,g,acc,zs,bM,pre,res,dJ,h,e,hp=>by
  cases zs with
  | nil =>
   have:=a7p _ D g [] bM _ h e;simpa using this hp
  | cons z zs=>simp[kS] at e
 | .v τ::l,D,g,acc,zs,bM,pre,res,dJ,h,e,hp=>by
  cases zs with
  | nil=>simp[kS] at e
  | cons a zs =>
   cases a with
   | val a =>
    rw[kS] at e;split at e
    .rename_i x hx;have:=Rv l D (g x) (acc++[.val ⟨τ,x⟩]) zs bM pre res dJ (h x) e hp;rw[TV.aW hx];simpa using this
    .cases e
   | _=>simp[kS] at e
 | .r τ::l,D,g,acc,zs,bM,pre,res,dJ,h,e,hp=>by
  cases zs with
  | nil=>simp[kS] at e
  | cons a zs =>
   cases a with
   | ref a =>
    rw[kS] at e;split at e
    .rename_i x hx;have:=Rv l D (g x) (acc++[.ref ⟨τ,x⟩]) zs bM pre res dJ (h x) e hp;rw[TV.aW hx];simpa using this
    .cases e
   | _=>simp[kS] at e
 | .f::l,D,g,acc,zs,bM,pre,res,dJ,h,e,hp=>by
  cases zs with
  | nil=>simp[kS] at e
  | cons a zs =>
   cases a with
   | fn a =>
    rw[kS] at e;have:=Rv l D (g a) (acc++[.fn a]) zs bM pre res dJ (h a) e hp;simpa using this
   | _=>simp[kS] at e
 | .b k::l,D,g,acc,zs,bM,pre,res,dJ,h,e,hp=>by
  cases zs with
  | nil=>simp[kS] at e
  | cons a zs =>
   cases a with
   | box j =>
    rw[kS] at e;split at e
    .rename_i hb;have hb:=Nat.eq_of_beq_eq_true hb;subst hb;have:=Rv l D g (acc++[.box k]) zs bM pre res dJ h e hp;simpa using this
    .cases e
   | _=>simp[kS] at e
 | .c ps r::l,D,g,acc,zs,bM,pre,res,dJ,h,e,hp=>by
  cases zs with
  | nil=>simp[kS] at e
  | cons a zs =>
   cases a with
   | c9 a =>
    rw[kS] at e;split at e
    .rename_i F hF;have:=Rv l D (g F) (acc++[.c9 ⟨ps,r,F⟩]) zs bM pre res dJ (h F) e hp;rw[FV.aW hF];simpa using this
    .cases e
   | _=>simp[kS] at e
 | .o _::l,D,g,acc,zs,bM,pre,res,dJ,h,e,hp=>by cases zs<;>simp[kS] at e
structure gl where
 n:Nat
 sh:List (List CK)
 l:List PK
 D:List (List Ty)
 g:XI l D
def gl.Good(c:gl):Prop:=jG prog c.n/\UT prog c.n c.sh c.l c.D c.g []
def im:List gl->Prop
 | []=>True
 | c::r=>c.Good/\im r
def a7E:List PK->List (Option Nat)
 | []=>[]
 | .b k::l=>some k::a7E l
 | _::l=>none::a7E l
def Zw:List gl->Nat->Option SK
 | [],_=>none
 | c::r,f=>match Nat.beq c.n f with
  | true=>some ⟨a7E c.l,c.sh⟩
  | false=>Zw r f
def J6:List gl->Nat->List Arg->List (List TV)->Option (Vc×List TV×List (List TV))
 | [],_,_,_=>none
 | c::r,f,zs,bM=>match Nat.beq c.n f with
  | true=>kS c.l c.D c.g zs bM
  | false=>J6 r f zs bM
def Xm:∀ (l:List gl),im l->∀ f sk args bM pre res dJ,Zw l f=some sk->J6 l f args bM=some (pre,res,dJ)->pre.ok->jG prog f/\Oc prog f sk.sh args bM res dJ
 | [],_,f,sk,args,bM,pre,res,dJ,h,_,_=>by cases h
 | c::r,h,f,sk,args,bM,pre,res,dJ,hs,e,hp=>by
  rw[Zw] at hs;rw[J6] at e;split at e
  .rename_i hb;rw[hb] at hs;have hb:=Nat.eq_of_beq_eq_true hb;subst hb;simp only[Option.some.injEq] at hs;subst hs;exact⟨h.1.1,by simpa using Rv c.l c.D c.g [] args bM pre res dJ h.1.2 e hp⟩
  .rename_i hb;rw[hb] at hs;exact Xm r h.2 f sk args bM pre res dJ hs e hp
def xK(l:List aL)(ol:List aL)(ml:List MK)(own wr:List Nat)(cl:List (Nat×qL):=[])(ro:List Nat:=[])(sl:List gl:=[]):Env:=Env.mk FB UM (pO l) wr own (pO ol) (J1 ml) (ah cl) ro (a5a ol) (Zw sl) (J6 sl) Qb Bq EL
def OZ{l ol:List aL}{ml:List MK}{own wr:List Nat}{cl:List (Nat×qL)}{ro:List Nat}{sl:List gl}(h:bD l)(ho:hJ ol)(hm:jF ml)(hs:im sl):bE prog (xK l ol ml own wr cl ro sl) where
 ty T τ b e ht:=by
  have h1:=b4r.mp (b6h.1 (Kc (pO l) wr own (pO ol) (J1 ml) (ah cl) ro (a5a ol) (Zw sl) (J6 sl) Bq)).1 _ (IZ _ _ _ ht);exact h1
 mty T κ ε ht:=by
  have h1:=b4r.mp (b6h.1 (Kc (pO l) wr own (pO ol) (J1 ml) (ah cl) ro (a5a ol) (Zw sl) (J6 sl) Bq)).2 _ (IZ _ _ _ ht);exact h1
 pty _ _ _:=trivial
 Q7:=Q8 l h
 Qh:=W7 ol ho
 mark:=WM ml hm
 WX:=WY
 cmp T h:=List.all_eq_true.mp Vo T (by have h1:EL.contains T=true:=h;simpa using h1)
 Zu:=Xm sl hs
def a1V{f:FuncId}{fn:Func}{dI:Code}{l ol:List aL}{ml:List MK}{own wr:List Nat}{cl:List (Nat×qL)}{ro:List Nat}{sl:List gl}(hl:bD l)(ho:hJ ol)(hm:jF ml)(hs:im sl)(hf:prog.funcs[f]?=some fn)(hb:fn.body=some dI)(Λ:Nat->az){args:List Arg}{res:List TV}
  (h:s5 (xK l ol ml own wr cl ro sl) dI Λ 0 (yd (xK l ol ml own wr cl ro sl) fn λ r=>xn r res) (dP fn args)):gp prog f args (·=res) :=
 (YV (OZ hl ho hm hs) tQ hf hb Λ h).mono λ _=>o4
def a1W{f:FuncId}{fn:Func}{dI:Code}{l ol:List aL}{ml:List MK}{own wr:List Nat}{cl:List (Nat×qL)}{ro:List Nat}{sl:List gl}(hl:bD l)(ho:hJ ol)(hm:jF ml)(hs:im sl)(hf:prog.funcs[f]?=some fn)(hb:fn.body=some dI)(Λ:Nat->az){args:List Arg}{res:List TV}
  (h:s5 (xK l ol ml own wr cl ro sl) dI Λ 0 (Jx (xK l ol ml own wr cl ro sl) fn λ r=>xn r res) (UN fn args)):rm prog f args res :=
 XO (OZ hl ho hm hs) tQ hf hb Λ (λ _=>o4) h
def a0p{f:FuncId}{fn:Func}{dI:Code}{l ol:List aL}{ml:List MK}{own wr:List Nat}{cl:List (Nat×qL)}{ro:List Nat}{sl:List gl}(hl:bD l)(ho:hJ ol)(hm:jF ml)(hs:im sl)(hf:prog.funcs[f]?=some fn)(hb:fn.body=some dI){m:Cp}(Λ:m.τ.den->Int->Nat->az)(EY:∀ x:m.τ.den,(TV.cells ⟨m.τ,x⟩).length<=50)(hn:2<=fn.ntmps)
  (h:∀ (x:m.τ.den) (k:Int),(m.g x k).1.ok->O k->s5 (xK l ol ml own wr cl ro sl) dI (Λ x k) 0 (DV fn m x k) (iX fn ⟨m.τ,x⟩ k)):JN prog f m :=
 VJ (OZ hl ho hm hs) tQ hf hb Λ EY hn h
def Uv:List (List TV)->List (List TV)->Prop
 | [],[]=>True
 | a::r,b::q=>xn a b/\Uv r q
 | _,_=>False
def U4:∀ {a b:List (List TV)},Uv a b->a=b
 | [],[],_=>rfl
 | _::_,_::_,h=>by rw[o4 h.1,U4 h.2]
 | [],_::_,h=>h.elim
 | _::_,[],h=>h.elim
def OP(args:List Arg)(n:Nat):Bool:=args.all λ a=>match a with
 | .box k=>Nat.blt k n
 | _=>true
def XK{args:List Arg}{n:Nat}(h:OP args n=true):∀ k,Arg.box k∈args->k<n:=λ k hk=>by
 unfold OP at h;rw[List.all_eq_true] at h;exact Nat.le_of_ble_eq_true (h _ hk)
def a3U{f:FuncId}{fn:Func}{dI:Code}{l ol:List aL}{ml:List MK}{own wr:List Nat}{cl:List (Nat×qL)}{ro:List Nat}{sl:List gl}(hl:bD l)(ho:hJ ol)(hm:jF ml)(hs:im sl)(hf:prog.funcs[f]?=some fn)(hb:fn.body=some dI)(Λ:Nat->az){args:List Arg}{sh:List (List CK)}{bM:List (List TV)}{res:List TV}{dJ:List (List TV)}
  (Hm:Xp sh=true) (Ri:OP args sh.length=true) (h:s5 (xK l ol ml own wr cl ro sl) dI Λ 0 (J7 (xK l ol ml own wr cl ro sl) fn sh λ r ds=>xn r res/\Uv ds dJ) (ea fn args sh bM)):Oc prog f sh args bM res dJ :=
 Z2 (OZ hl ho hm hs) tQ hf hb Λ (λ _ _ q=>⟨o4 q.1,U4 q.2⟩) Hm (XK Ri) h
def aV{f:FuncId}{fn:Func}{dI:Code}(l:List aL)(wr:List Nat)(cl:List (Nat×qL))(ro:List Nat)(hl:bD l)(hf:prog.funcs[f]?=some fn)(hb:fn.body=some dI)(Λ:Nat->az){args:List Arg}{res:List TV}(V:Prop)(h:V)
  (e:s5 (Mw l wr cl ro) dI Λ 0 (yd (Mw l wr cl ro) fn λ r=>xn r res) (dP fn args)=V:=by kernel_rfl):gp prog f args (·=res) :=
 a3E hl hf hb Λ (Eq.mpr e h)
def W9{f:FuncId}{fn:Func}{dI:Code}(l ol:List aL)(ml:List MK)(sl:List gl)(own wr:List Nat)(cl:List (Nat×qL))(ro:List Nat)(hl:bD l)(ho:hJ ol)(hm:jF ml)(hs:im sl)(hf:prog.funcs[f]?=some fn)(hb:fn.body=some dI)(Λ:Nat->az){args:List Arg}{res:List TV}(V:Prop)(h:V)
  (e:s5 (xK l ol ml own wr cl ro sl) dI Λ 0 (yd (xK l ol ml own wr cl ro sl) fn λ r=>xn r res) (dP fn args)=V:=by kernel_rfl):gp prog f args (·=res) :=
 a1V hl ho hm hs hf hb Λ (Eq.mpr e h)
def bX{f:FuncId}{fn:Func}{dI:Code}(l ol:List aL)(ml:List MK)(sl:List gl)(own wr:List Nat)(cl:List (Nat×qL))(ro:List Nat)(hl:bD l)(ho:hJ ol)(hm:jF ml)(hs:im sl)(hf:prog.funcs[f]?=some fn)(hb:fn.body=some dI)(Λ:Nat->az){args:List Arg}{res:List TV}(V:Prop)(h:V)
  (e:s5 (xK l ol ml own wr cl ro sl) dI Λ 0 (Jx (xK l ol ml own wr cl ro sl) fn λ r=>xn r res) (UN fn args)=V:=by kernel_rfl):rm prog f args res :=
 a1W hl ho hm hs hf hb Λ (Eq.mpr e h)
def tJ{f:FuncId}{fn:Func}{dI:Code}(l ol:List aL)(ml:List MK)(sl:List gl)(own wr:List Nat)(cl:List (Nat×qL))(ro:List Nat)(hl:bD l)(ho:hJ ol)(hm:jF ml)(hs:im sl)(hf:prog.funcs[f]?=some fn)(hb:fn.body=some dI){m:Cp}(Λ:m.τ.den->Int->Nat->az)(V:m.τ.den->Int->Prop)(h:∀ (x:m.τ.den) (k:Int),(m.g x k).1.ok->O k->V x k)
  (e:∀ (x:m.τ.den) (k:Int),s5 (xK l ol ml own wr cl ro sl) dI (Λ x k) 0 (DV fn m x k) (iX fn ⟨m.τ,x⟩ k)=V x k:=by intro _ _;kernel_rfl) (EY:∀ x:m.τ.den,Nat.ble (TV.cells ⟨m.τ,x⟩).length 50=true:=by intro _;rfl) (hn:Nat.ble 2 fn.ntmps=true:=by kernel_rfl):JN prog f m :=
 a0p hl ho hm hs hf hb Λ (λ x=>b4B (EY x)) (b4B hn) λ x k h1 h2=>Eq.mpr (e x k) (h x k h1 h2)
def gK{f:FuncId}{fn:Func}{dI:Code}(l ol:List aL)(ml:List MK)(sl:List gl)(own wr:List Nat)(cl:List (Nat×qL))(ro:List Nat)(hl:bD l)(ho:hJ ol)(hm:jF ml)(hs:im sl)(hf:prog.funcs[f]?=some fn)(hb:fn.body=some dI)(Λ:Nat->az){args:List Arg}{sh:List (List CK)}{bM:List (List TV)}{res:List TV}{dJ:List (List TV)}
  (Hm:Xp sh=true) (Ri:OP args sh.length=true) (V:Prop) (h:V) (e:s5 (xK l ol ml own wr cl ro sl) dI Λ 0 (J7 (xK l ol ml own wr cl ro sl) fn sh λ r ds=>xn r res/\Uv ds dJ) (ea fn args sh bM)=V:=by kernel_rfl):Oc prog f sh args bM res dJ :=
 a3U hl ho hm hs hf hb Λ Hm Ri (Eq.mpr e h)
open Go.ChangeShapes Go.WideShapes Go.ChangeAt Go.RowKit
theorem dh.append{w:World}{S:Nat->Prop}:∀ (ds es:List D) {l m:List Value},dh w S ds l->dh w S es m->dh w S (ds++es) (l++m)
 | [],_,_,_,h,k=>by rw[show _=[] from h];simpa using k
 | d::ds,es,_,m,h,k=>by
  obtain⟨c,r,rfl,h2,h3⟩:=h;exact⟨c,r++m,by simp,h2,dh.append ds es h3 k⟩
theorem a5M{w:World}{S:Nat->Prop}(t:Ty)(y:t.den){cs:List Value}(h:Rd w S (t.aP y) cs):dh w S ((TV.cells ⟨t,y⟩).map TV.aP) cs:=by
 have one:∀ d:D,d.leaf=true->Rd w S d cs->dh w S [d] cs:=by
  intro d hd h;obtain⟨v,rfl,_⟩:=Rd.uY hd h;exact⟨v,[],rfl,h,rfl⟩
 cases t with
 | st s =>
  have h':Rd w S (s.aP y) cs:=h;rw[aQ.ct] at h';exact h'
 | int k=>exact one _ rfl h
 | bool=>exact one _ rfl h
 | str=>exact one _ rfl h
 | slice t=>exact one _ rfl h
 | mv t=>exact one _ (R1 _ _ _) h
 | ptr=>exact one _ rfl h
theorem VE{w:World}{S:Nat->Prop}:∀ (ts:List Ty) (cs:List Value),cs.length=(ts.map Ty.size).sum ->
  (∀ i t,ts[i]?=some t->∃ y:t.den,Rd w S (t.aP y) ((cs.drop ((ts.take i).map Ty.size).sum).take t.size)) ->
  ∃ fl:List TV,fl.map TV.τ=ts/\dh w S ((fl.flatMap TV.cells).map TV.aP) cs
 | [],cs,h,_=>⟨[],rfl,by
   have:cs=[]:=by simpa using h
   subst this;exact rfl⟩
 | t::ts,cs,h,k=>by
  obtain⟨y,hy⟩:=k 0 t rfl;simp only[b4z,b5q,List.sum_nil,b5F] at hy;simp only[b4o,List.sum_cons] at h;obtain⟨fl,h1,h2⟩:=VE ts (cs.drop t.size) (by simp;omega) (λ i u hu=>by
   obtain⟨z,hz⟩:=k (i+1) u hu;simp only[b6A,b4o,List.sum_cons] at hz;rw[<-b5j] at hz;exact⟨z,hz⟩)
  refine⟨⟨t,y⟩::fl,by simp[h1],?_⟩;simp only[b6R,b5n];have:=dh.append _ _ (a5M t y hy) h2;rwa [b4K] at this
theorem a4V{w:World}{S:Nat->Prop}(t:Ty)(b:Nat):∀ (n o:Nat),(∀ i,i<n->∃ (x:t.den) (cs:List Value),cs.length=t.size/\Rd w S (t.aP x) cs/\cd w b (o+i * t.size) cs) ->
  ∃ xs:List t.den,xs.length=n/\dq w S (xs.map t.aP) b o
 | 0,o,_=>⟨[],rfl,ae⟩
 | n+1,o,h=>by
  obtain⟨x,cs,h1,h2,h3⟩:=h 0 (by omega);obtain⟨xs,h4,h5⟩:=a4V t b n (o+t.size) (λ i hi=>by
   obtain⟨y,c,g1,g2,g3⟩:=h (i+1) (by omega);exact⟨y,c,g1,g2,by rw[show o+t.size+i * t.size=o+(i+1) * t.size by rw[b4O];omega];exact g3⟩)
  refine⟨x::xs,by simp[h4],⟨cs,by rw[Ty.cM];exact h1,h2,by simpa using h3⟩,?_⟩;rw[Ty.cM];exact h5
section
variable {H:Type} {enc:TypeId×Value->H} {w:World} {spare:Nat->Bool} {held:Bool}
theorem a0y(d:DataW H):1<=Rows.uptoBulk d:=by
 cases d with
 | lit l=>cases l<;>simp[Rows.uptoBulk]
 | nil=>simp[Rows.uptoBulk]
 | ptr d=>simp[Rows.uptoBulk]
 | slice elems spare=>simp[Rows.uptoBulk]
 | agg parts=>simp[Rows.uptoBulk]
 | iface t d=>simp[Rows.uptoBulk]
 | map entries=>simp[Rows.uptoBulk]
 | held h=>simp[Rows.uptoBulk]
theorem Xe{d:DataW H}{l:List (DataW H)}(h:d∈l):Rows.uptoBulk d<=Rows.uptoBulkAll l:=by
 induction l with
 | nil=>cases h
 | cons x r ih =>
  simp only[Rows.uptoBulkAll];cases b3S.1 h with
  | inl e=>subst e;omega
  | inr e=>have:=ih e;omega
theorem T9(l:List (DataW H)):l.length<=Rows.uptoBulkAll l:=by
 induction l with
 | nil=>simp[Rows.uptoBulkAll]
 | cons x r ih=>have:=a0y x;simp only[Rows.uptoBulkAll,b3G];omega
theorem oW:bE prog (Mw []):=Ra trivial
theorem EH{T b e:Nat}{τ:Ty}(h:ah FB T=some (τ,b,e)):prog.cellsOf T=τ.size:=by
 obtain⟨i,z,h1,h2,_⟩:=(oW.info (T:=T) (τ:=τ) (b:=b) (e:=e) h).ex;simp[Program.cellsOf,h1,h2]
theorem a2d:∀ (fuel:Nat) (τ:Ty) (T b e:Nat) (cs:List Value) (x:DataW H×List MemPlace),ah FB T=some (τ,b,e)->DataW.trod enc prog w 0 spare held fuel T cs=some x ->
  Rows.uptoBulk x.1<=1048576->∃ y:τ.den,Rd w (·<w.heap.size) (τ.aP y) cs:=by
 intro fuel;induction fuel with
 | zero =>
  intro τ T b e cs x ht h hk;have h':(none:Option (DataW H×List MemPlace))=some x:=h;cases h'
 | succ fuel ih =>
 intro τ T b e cs x ht h hk;cases τ with
 | int k =>
  obtain⟨n,rfl,rfl,hw⟩:=DataW.trod_int (oW.int ht) h;refine⟨n,rfl,?_⟩;simpa [Lit.wf] using hw
 | bool =>
  obtain⟨n,rfl,rfl⟩:=DataW.trod_bool (oW.bool ht) h;exact⟨n,rfl⟩
 | str =>
  obtain⟨n,rfl,rfl,hw⟩:=DataW.trod_string (oW.str ht) h;refine⟨n.data.toList,n,rfl,rfl,?_⟩;simp[Rows.uptoBulk] at hk;have:n.size=n.data.size:=rfl;omega
 | mv t=>exact (oW.a7A ht).elim
 | ptr =>
  obtain⟨t,hu⟩:=oW.ptr ht;rcases DataW.trod_pointer hu h with ⟨rfl,_⟩|⟨a,_,_,_,_,rfl,_⟩
  .exact⟨(),_,rfl⟩
  .exact⟨(),_,rfl⟩
 | slice t =>
  obtain⟨hu,⟨b',e',he⟩,_⟩:=oW.slice ht;have hc:=EH he;rcases DataW.trod_slice hu h with ⟨rfl,rfl⟩|⟨a,len,cap,elems,rest,n,hn,rfl,rfl,hb,hl,hm,hlen,hel,_⟩
  .exact⟨[],none,0,rfl,b4h _,b4G _,b4G _, .inl rfl⟩
  .obtain rfl:n=fuel:=by omega
   rw[hc] at hel;have a3d:∀ (i:Nat) (z:DataW H×List MemPlace),elems[i]?=some z->Rows.uptoBulk z.1<=1048576:=by
    intro i z hz;have h1:=Xe (d:=z.1) (l:=elems.map (·.1)) (b3E.2 ⟨z,b4S hz,rfl⟩);simp only[Rows.uptoBulk] at hk;omega
   have Ix:∀ i,i<len->∃ (y:t.den) (c:List Value),c.length=t.size/\Rd w (·<w.heap.size) (t.aP y) c/\(∀ j v,c[j]?=some v->w.cell? ((a.add (i * t.size)).add j)=some v):=by
    intro i hi;have hz:elems[i]?=some (elems[i]'(by omega)):=b3Z (by omega);have:=hel i hi;rw[hz,b4R] at this;obtain⟨c,Rj,hc2⟩:=this;obtain⟨y,hy⟩:=ih t e b' e' c _ he hc2 (a3d i _ hz);obtain⟨_,h5,h6⟩:=World.cells?_some Rj;refine⟨y,c,h5,hy,λ j v hj=>?_⟩;rw[h6 j (by rw[<-h5];exact (b4p.1 hj).1),hj]
   have hlb:len<=1048576:=by
    have h1:=T9 (elems.map (·.1));simp only[Rows.uptoBulk,b3M] at hk h1;omega
   rcases Nat.eq_zero_or_pos len with h0|h0
   .subst h0;exact⟨[],some a,cap,rfl,b4G _,hm,b4G _, .inl rfl⟩
   .have hp:=Ty.size_pos t;have hsp:a.spot=none:=by
     obtain⟨y,c,g1,g2,g3⟩:=Ix 0 h0;have hj:c[0]?=some (c[0]'(by omega)):=List.getElem?_eq_getElem (by omega);have:=World.cell?_spot (g3 0 _ hj);simpa [Addr.add] using this
    obtain⟨ab,ao,asp⟩:=a;simp only at hsp;subst hsp;have a9C:∀ i j,((⟨ab,ao,none⟩:Addr).add i).add j=⟨ab,ao+i+j,none⟩:=by
     intro i j;unfold Addr.add;split<;>split<;>simp_all<;>omega
    obtain⟨xs,h1,h2⟩:=a4V (w:=w) (S:=(·<w.heap.size)) t ab len ao (λ i hi=>by
     obtain⟨y,c,g1,g2,g3⟩:=Ix i hi;exact⟨y,c,g1,g2,λ j v hj=>by rw[<-a9C];exact g3 j v hj⟩)
    have bK:ab<w.heap.size:=by
     obtain⟨y,c,g1,g2,g3⟩:=Ix 0 h0;have hj:c[0]?=some (c[0]'(by omega)):=List.getElem?_eq_getElem (by omega);have:=g3 0 _ hj;rw[a9C] at this;unfold World.cell? at this;split at this
     .rename_i hh;exact (b4H.1 hh).1
     .cases this
    have hlm:(xs.map t.aP).length=len:=by simp[h1]
    refine⟨xs,some ⟨ab,ao,none⟩,cap,by rw[hlm],by rw[hlm];exact hl,hm,by rw[hlm];omega, .inr ⟨ab,ao,rfl,bK,h2⟩⟩
 | st s =>
  obtain⟨fs,hu,cJ,hf⟩:=oW.st ht;obtain⟨xs,n,hn,rfl,EZ,uQ,hx⟩:=DataW.trod_struct hu h;obtain rfl:n=fuel:=by omega
  have ka:cs.length=(s.fu.map Ty.size).sum:=by
   rw[EZ,EH ht];cases s<;>rfl
  obtain⟨fl,h1,h2⟩:=VE (w:=w) (S:=(·<w.heap.size)) s.fu cs ka (λ i t hi=>by
   have bK:i<fs.size:=by rw[cJ];exact (b4p.1 hi).1
   obtain⟨t',b',e',g1,g2,g3⟩:=hf i (fs[i]'bK) (b4J bK);rw[hi] at g1;cases g1;have hy:=hx i (fs[i]'bK) (b4J bK);have hz:xs[i]?=some (xs[i]'(by omega)):=b3Z (by omega);rw[hz,EH g2,g3] at hy;refine ih t _ b' e' _ _ g2 hy ?_;have h3:=Xe (d:=(xs[i]'(by omega)).1) (l:=xs.map (·.1)) (b3E.2 ⟨_,b4Q _,rfl⟩);simp only[Rows.uptoBulk] at hk;omega)
  obtain⟨y,hy⟩:=aQ.a2U s fl h1;refine⟨y,?_⟩;show Rd w _ (s.aP y) cs;rw[aQ.ct,aQ.BH,hy];exact h2
end
end Go.Proofs.YtmjfpcajohhbeaaGreatDoor

set_option maxRecDepth 100000
namespace Go.Proofs.YtmjfpcajohhbeaaGreatDoor
open Go.ChangeShapes Go.WideShapes Go.ChangeAt Go.RowKit
theorem a3K:laidOutB prog=true:=by kernel_rfl
theorem a5J:ownKnob prog.godebug=none:=by kernel_rfl
section
variable {H:Type} {enc:TypeId×Value->H}
theorem LS{W W':World}{sp:Nat->Bool}(hb:Below W.heap.size W W'):∀ (ts:List TypeId) {vs:List Value} {ds:List (DataW H)} {ps:List MemPlace},(∀ t∈ts,prog.readableRec t=true/\t<prog.types.size) ->
  DataW.TrodAll enc prog W 0 (λ _=>true) true ts vs ds ps->(∀ p∈ps,p.block<W.heap.size)->(∀ p∈ps,sp p.block=true)->DataW.TrodAll enc prog W' 0 sp true ts vs ds ps
 | [],[],[],ps,_,h,_,_=>h
 | t::ts,v::vs,d::ds,ps,ht,h,bK,hsp=>by
  obtain⟨p,q,h1,h2,rfl⟩:=h;refine⟨p,q,?_,?_,rfl⟩
  .exact WideElems.Trod_stays a3K (ht t (by simp)).1 (ht t (by simp)).2 h1 (λ x hx=>hb.same (bK x (by simp[hx]))) (λ x hx=>hsp x (by simp[hx]))
  .exact LS hb ts (λ t h=>ht t (by simp[h])) h2 (λ x hx=>bK x (by simp[hx])) (λ x hx=>hsp x (by simp[hx]))
 | [],_::_,_,_,_,h,_,_=>h.elim
 | [],[],_::_,_,_,h,_,_=>h.elim
 | _::_,[],_,_,_,h,_,_=>h.elim
 | _::_,_::_,[],_,_,h,_,_=>h.elim
theorem a1Z{f:Func}{s:ChangeSpec}{apart fresh handsOn again:Bool}{W W':World}{args:Array Value}{v:Value}{ds gs:List (DataW H)}{before pa pv:List MemPlace}
  (hW:DataW.Whole enc prog f.params.toList s.vars apart W args.toList ds gs before)
  (Y5:∀ (b:Nat) (sp:Nat->Bool) (hd:Bool),DataW.TrodAll enc prog W' b sp hd f.resultTypes.toList (v.resultList f.resultTypes.size) (s.fn H (ds++gs)).results [])
  (dw:∀ sp:Nat->Bool,(∀ p∈before,sp p.block=true)->DataW.TrodAll enc prog W' 0 sp true f.params.toList args.toList (s.fn H (ds++gs)).args pa)
  (We:∀ sp:Nat->Bool,(∀ p∈before,sp p.block=true)->DataW.TrodVars enc prog W' sp s.vars (s.fn H (ds++gs)).vars pv)
  (hps:before=pa++pv) (hb:Below W.heap.size W W')
  (X0:∀ (j:Nat) (t:TypeId) (r:Value),f.resultTypes[j]?=some t->(v.resultList f.resultTypes.size)[j]?=some r->Value.okWide prog W' .any 0 t r) :
  s.post enc prog f apart fresh handsOn again W args v W':=by
 have bK:∀ p∈before,p.block<W.heap.size:=λ p hp=>hW.lt p hp;have hold:∀ p∈before,(λ b=>decide (b<W.heap.size)) p.block=true:=λ p hp=>by simpa using bK p hp
 refine⟨ds,gs,before,[],pa,pv,hW,Y5 _ _ _,dw _ hold,We _ hold,World.keptBut_mono (λ p hp=>⟨hp,?_⟩) (hb.frame (·∈before)),λ _=>?_⟩
 .rw[hps,b3y] at hp;exact Or.inr hp
 .obtain⟨_,_,_,_,_,hz,hn⟩:=hW;refine⟨X0,_,_,([]++pa)++pv,⟨[]++pa,pv,trodAll_append (dw _ (λ _ _=>rfl)) (Y5 _ _ _),We _ (λ _ _=>rfl),rfl,?_,?_⟩,?_⟩
  .intro b off hp;have eL:MemPlace.cell b off∈before:=by rw[hps];simpa using hp
   rw[hb.frozen (bK _ eL)];exact hz b off eL
  .intro ha;have:=hn ha;rw[hps] at this;simpa using this
  .intro p hp _;rw[hps];simpa using hp
def a2n(τ:Ty)(v:Value):Prop:=match τ with
 | .st _=>∃ cs,v = .agg cs
 | _=>v.cells = #[v]
theorem a8X{w:World}{S:Nat->Prop}(τ:Ty)(y:τ.den){v:Value}(hv:a2n τ v)(h:Rd w S (τ.aP y) v.cells.toList):dZ w S ⟨τ,y⟩ v:=by
 cases τ with
 | st s =>
  obtain⟨cs,rfl⟩:=hv;exact⟨cs.toList,by simp,h⟩
 | int k=>simp only[show v.cells = #[v] from hv] at h;exact h
 | bool=>simp only[show v.cells = #[v] from hv] at h;exact h
 | str=>simp only[show v.cells = #[v] from hv] at h;exact h
 | slice t=>simp only[show v.cells = #[v] from hv] at h;exact h
 | mv t=>simp only[show v.cells = #[v] from hv] at h;exact h
 | ptr=>simp only[show v.cells = #[v] from hv] at h;exact h
theorem a0Q{w:World}:∀ (ts:List TypeId) (τs:List Ty) {vs:List Value} {ds:List (DataW H)} {ps:List MemPlace},aT (λ T τ=>∃ b e,ah FB T=some (τ,b,e)) ts τs ->
  DataW.TrodAll enc prog w 0 (λ _=>true) true ts vs ds ps->(∀ d∈ds,Rows.uptoBulk d<=1048576)->(∀ (j:Nat) t v,ts[j]?=some t->vs[j]?=some v->Value.okWide prog w .any 0 t v\/∃ b,Value.okWide prog w .any b t v) ->
  ∃ QK:List TV,QK.map TV.τ=τs/\ds.length=τs.length/\aT (Ac prog w (·<w.heap.size)) (QK.map .val) vs
 | [],[],[],[],_,_,_,_,_=>⟨[],rfl,rfl,ae⟩
 | T::ts,τ::τs,v::vs,d::ds,ps,ht,h,hk,hv=>by
  obtain⟨p,q,⟨n,h1⟩,h2,rfl⟩:=h;obtain⟨⟨b,e,hT⟩,TC⟩:=ht;obtain⟨y,hy⟩:=a2d n τ T b e _ _ hT h1 (hk d (by simp));obtain⟨QK,g1,g2,g3⟩:=a0Q ts τs TC h2 (λ d hd=>hk d (by simp[hd])) (λ j t v hj Iw=>hv (j+1) t v hj Iw);refine⟨⟨τ,y⟩::QK,by simp[g1],by simp[g2],⟨?_,g3⟩⟩;refine a8X τ y ?_ hy;have PH:=hv 0 T v rfl rfl;have key:∀ b,Value.okWide prog w .any b T v->a2n τ v:=by
   intro b' hb;cases τ with
   | st s =>
    obtain⟨fs,hu,_⟩:=oW.st hT;simp only[Value.okWide,hu] at hb;obtain⟨cs,rfl,_⟩:=hb;exact⟨cs,rfl⟩
   | int k =>
    have hu:=oW.int hT;simp only[Value.okWide,hu,Cell.okWide,Cell.ok] at hb;cases v<;>first|rfl|cases hb
   | bool =>
    have hu:=oW.bool hT;simp only[Value.okWide,hu,Cell.okWide,Cell.ok] at hb;cases v<;>first|rfl|cases hb
   | str =>
    have hu:=oW.str hT;simp only[Value.okWide,hu,Cell.okWide,Cell.ok] at hb;cases v<;>first|rfl|cases hb
   | mv t=>exact (oW.a7A hT).elim
   | ptr =>
    obtain⟨t,hu⟩:=oW.ptr hT;simp only[Value.okWide,hu,Cell.okWide,Cell.ok] at hb;cases v<;>first|rfl|cases hb
   | slice t =>
    have hu:=(oW.slice hT).1;simp only[Value.okWide,hu,Cell.okWide,Cell.ok] at hb;cases v<;>first|rfl|cases hb
  rcases PH with h|⟨b',h⟩
  .exact key _ h
  .exact key _ h
 | [],_::_,_,_,_,h,_,_,_=>h.elim
 | _::_,[],_,_,_,h,_,_,_=>h.elim
 | [],[],_::_,_,_,_,h,_,_=>h.elim
 | [],[],[],_::_,_,_,h,_,_=>h.elim
 | _::_,_::_,[],_,_,_,h,_,_=>h.elim
 | _::_,_::_,_::_,[],_,_,h,_,_=>h.elim
noncomputable def a9z(g:Nat):Bool:=g<prog.globals.size&&match ((begin prog (λ _ _=>0) default).world.heap[g]?).bind Obj.row? with
 | some (zero,t)=>zero.size == 1&&prog.buildable t&&(match prog.cellTypes prog.depth t with|some [u]=>u == t|_=>false)&&(match prog.underlying t with|some (.int .i64)=>true|_=>false)
 | none=>false
theorem a5t:a2Z.all a9z=true:=by kernel_rfl
theorem VP{W:World}(h:W.ShapedOpen prog):ua W (·<W.heap.size):=⟨λ _ h=>h,λ g hg=>by
 have hk:=List.all_eq_true.1 a5t g hg;unfold a9z at hk;rw[Bool.and_eq_true] at hk;obtain⟨h1,h2⟩:=hk;split at h2
 .rename_i zero t h0;simp only[b3A] at h2;obtain⟨⟨⟨k1,k2⟩,k3⟩,k4⟩:=h2;have k3':prog.cellTypes prog.depth t=some [t]:=by
   split at k3
   .rename_i u hu;rw[hu,eq_of_beq k3]
   .cases k3
  have k4':prog.underlying t=some (.int .i64):=by
   split at k4
   .rename_i hu;exact hu
   .cases k4
  obtain⟨m,hm⟩:=cell_of_shapedOpen_int h (of_decide_eq_true h1) h0 (eq_of_beq k1) k2 k3' k4';refine⟨?_,m,hm⟩;unfold World.cell? at hm;rcases Nat.lt_or_ge g W.heap.size with q|q
  .exact q
  .rw[show W.heap[g]?=none from b4X q] at hm;cases hm
 .cases h2⟩
theorem a7q{n:FuncId}{fn:Func}{s:ChangeSpec}{τs:List Ty}{handsOn again:Bool}(hts:aT (λ T τ=>∃ b e,ah FB T=some (τ,b,e)) fn.params.toList τs)
  (a0f:∀ t∈fn.params.toList,prog.readableRec t=true/\t<prog.types.size) (hr:fn.resultTypes = #[ZF]) (We:s.vars=[])
  (hs:∀ ds:List (DataW H),ds.length=τs.length->s.fn H ds={ results:=[.lit (.bool true)],args:=ds })
  (b2h:∀ QK:List TV,QK.map TV.τ=τs->gp prog n (QK.map .val) (·=[⟨.bool,true⟩]))
  {W:World} {base:Nat} {args:Array Value} {ds gs:List (DataW H)} {before:List MemPlace}
  (a1B:∀ (j:Nat) t v,fn.params[j]?=some t->args[j]?=some v->Value.okWide prog W .any base t v)
  (hW:DataW.Whole enc prog fn.params.toList s.vars false W args.toList ds gs before) (hk:Rows.uptoSmall H (ds++gs)=true) (Hm:ua W (·<W.heap.size)) :
  Calls prog n args W λ e W'=>∃ v,e = .returned v/\s.post enc prog fn false true handsOn again W args v W':=by
 have hW':=hW;obtain⟨p,q,hA,hV,hpq,hfz,cQ⟩:=hW;rw[We] at hV;obtain⟨rfl,rfl⟩:=trodVars_none hV;have a3d:∀ d∈ds,Rows.uptoBulk d<=1048576:=by
  intro d hd;have h1:=Xe hd;simp only[Rows.uptoSmall,b4N,b3v] at hk;omega
 obtain⟨QK,h1,h2,h3⟩:=a0Q fn.params.toList τs hts hA a3d (λ j t v hj Iw => .inr ⟨base,a1B j t v (by simpa using hj) (by simpa using Iw)⟩);have ig:=b2h QK h1 W (·<W.heap.size) args.toList Hm h3;rw[show args.toList.toArray=args by simp] at ig;refine ig.mono λ e W'=>?_;rintro⟨x,S',res,rfl,rfl,gd,hS1,hS2,Y5⟩;have hx:x = .bool true:=by
  have hx:dZ W' S' ⟨.bool,true⟩ x:=Y5;have hx:[x]=[Value.bool true]:=hx;simpa using hx
 subst hx;have hb:Below W.heap.size W W':=⟨gd.os,gd.tape,gd.output,gd.size,λ k hk=>gd.block k hk (λ h=>h)⟩;refine⟨_,rfl,a1Z (pa:=p) (pv:=[]) hW' ?_ ?_ ?_ hpq hb ?_⟩
 .intro b sp hd;rw[hs _ (by simpa using h2),hr];exact trodAll_mk1 ⟨1,by
   have hu:prog.underlying ZF=some .bool:=by kernel_rfl
   simp only[DataW.trod,Value.cells];rw[hu]⟩
 .intro sp hsp;rw[hs _ (by simpa using h2),List.append_nil];have bK:∀ x∈before,x.block<W.heap.size:=λ x hx=>hW'.lt x hx;rw[hpq] at bK hsp;exact LS hb _ a0f hA (λ x hx=>bK x (by simp[hx])) (λ x hx=>hsp x (by simp[hx]))
 .intro sp hsp;rw[hs _ (by simpa using h2),We];rfl
 .refine ok_one hr rfl ?_;have hu:prog.underlying ZF=some .bool:=by kernel_rfl
  simp[Value.okWide,hu,Cell.okWide,Cell.ok]
end
end Go.Proofs.YtmjfpcajohhbeaaGreatDoor

namespace Go.Proofs.YtmjfpcajohhbeaaGreatDoor
def aG{α:Type}(f:α->Nat):List α->Nat
 | []=>0
 | x::xs=>f x+aG f xs
section
variable {α:Type} (f:α->Nat)
theorem fj(d:α):∀ (xs:List α) (k:Nat),k<xs.length->aG f (xs.take (k+1))=aG f (xs.take k)+f (xs.getD k d)
 | [],k,h=>by simp at h
 | x::xs,0,h=>by simp[aG]
 | x::xs,k+1,h=>by
  have:=fj d xs k (by simpa using h);simp[aG] at this ⊢;omega
theorem bY:∀ (xs:List α) (k:Nat),aG f (xs.take k)<=aG f xs
 | [],k=>by simp
 | x::xs,0=>by simp[aG]
 | x::xs,k+1=>by
  have:=bY xs k;simp[aG];omega
theorem gT(xs:List α)(k:Nat):xs.length<=k->aG f (xs.take k)=aG f xs:=λ h=>by rw[b3U h]
theorem ik(xs:List α):aG f (xs.take 0)=0:=by simp[aG]
theorem dK(d:α):∀ (xs:List α) (k:Nat),k<xs.length->f (xs.getD k d)<=aG f xs
 | [],k,h=>by simp at h
 | x::xs,0,h=>by simp[aG]
 | x::xs,k+1,h=>by
  have:=dK d xs k (by simpa using h);simp[aG] at this ⊢;omega
end
def fk(t:Nat)(left:Int):Int:=if (t:Int)<=left then left - t else -1
theorem dX(t:Nat)(left:Int):((t:Int)<=left/\fk t left=left - t)\/(left<(t:Int)/\fk t left = -1):=by
 unfold fk;split
 .exact .inl ⟨by assumption,rfl⟩
 .exact .inr ⟨by omega,rfl⟩
noncomputable def bF{α:Type}(a b:α):Bool := @decide (a=b) (Classical.propDecidable _)
theorem mG{α:Type}{a b:α}(h:a=b):true=bF a b:=by simp[bF,h]
theorem fw{α:Type}{a b:α}(h:a≠b):false=bF a b:=by simp[bF,h]
@[simp] theorem iA{α:Type}{a b:α}:bF a b=true↔a=b:=by simp[bF]
@[simp] theorem a5m{α:Type}{a b:α}:bF a b=false↔a≠b:=by simp[bF]
@[simp] theorem b1n{α:Type}{a:α}:bF a a=true:=by simp[bF]
section
variable {α:Type}
theorem cj(d:α):∀ (xs:List α) (k:Nat),k<xs.length->xs.take (k+1)=xs.take k++[xs.getD k d]
 | [],k,h=>by simp at h
 | x::xs,0,h=>by simp
 | x::xs,k+1,h=>by
  have:=cj d xs k (by simpa using h);simp at this ⊢;exact this
theorem gi(d:α)(xs ys:List α)(k:Nat)(h1:k<xs.length)(h2:k<ys.length)(h:xs.take k=ys.take k)(e:xs.getD k d=ys.getD k d):xs.take (k+1)=ys.take (k+1):=by
 rw[cj d xs k h1,cj d ys k h2,h,e]
theorem dy(xs ys:List α)(k:Nat)(h1:xs.length<=k)(h2:ys.length<=k)(h:xs.take k=ys.take k):xs=ys:=by
 rwa [b3U h1,b3U h2] at h
def fill(xs:List α)(k:Nat)(z:α):List α:=xs.take k++List.replicate (xs.length - k) z
theorem lV(xs:List α)(z:α):List.replicate xs.length z=fill xs 0 z:=by simp[fill]
theorem ff(xs:List α)(z:α)(k:Nat)(h:xs.length<=k):fill xs k z=xs:=by
 simp[fill,b3U h,Nat.sub_eq_zero_of_le h]
theorem iH(xs:List α)(z:α)(k:Nat):k<=xs.length->(fill xs k z).length=xs.length:=by
 intro h;simp[fill];omega
theorem fg(xs:List α)(z d:α)(k:Nat)(h:k<xs.length):(fill xs k z).set k (xs.getD k d)=fill xs (k+1) z:=by
 unfold fill;rw[cj d xs k h,List.set_append_right _ _ (by simp;omega)];have e:xs.length - k=(xs.length - (k+1))+1:=by omega
 have e2:(List.take k xs).length=k:=by simp;omega
 rw[e2,Nat.sub_self,e,b5x,b6G];simp
end
def iI{α:Type}(f:α->Nat):List α->Nat
 | []=>0
 | x::xs=>max (f x) (iI f xs)
section
variable {α:Type} (f:α->Nat)
theorem si(d:α):∀ (xs:List α) (k:Nat),k<xs.length->iI f (xs.take (k+1))=max (iI f (xs.take k)) (f (xs.getD k d))
 | [],k,h=>by simp at h
 | x::xs,0,h=>by simp[iI]
 | x::xs,k+1,h=>by
  have:=si d xs k (by simpa using h);simp[iI] at this ⊢;omega
theorem iY:∀ (xs:List α) (k:Nat),iI f (xs.take k)<=iI f xs
 | [],k=>by simp
 | x::xs,0=>by simp[iI]
 | x::xs,k+1=>by
  have:=iY xs k;simp[iI];omega
theorem DW(xs:List α)(k:Nat):xs.length<=k->iI f (xs.take k)=iI f xs:=λ h=>by rw[b3U h]
theorem WO(xs:List α):iI f (xs.take 0)=0:=by simp[iI]
theorem sf(d:α):∀ (xs:List α) (k:Nat),k<xs.length->f (xs.getD k d)<=iI f xs
 | [],k,h=>by simp at h
 | x::xs,0,h=>by simp[iI];omega
 | x::xs,k+1,h=>by
  have:=sf d xs k (by simpa using h);simp[iI] at this ⊢;omega
end
def bp{α:Type}(f:α->Bool):List α->Bool
 | []=>true
 | x::xs=>f x&&bp f xs
section
variable {α:Type} (f:α->Bool)
theorem Oj:∀ (xs ys:List α),bp f (xs++ys)=(bp f xs&&bp f ys)
 | [],ys=>by simp[bp]
 | x::xs,ys=>by simp[bp,Oj xs ys,b6F]
theorem di(d:α)(xs:List α)(k:Nat)(h:k<xs.length):bp f (xs.take (k+1))=(bp f (xs.take k)&&f (xs.getD k d)):=by
 rw[cj d xs k h,Oj];simp[bp]
theorem dL(d:α):∀ (xs:List α) (k:Nat),k<xs.length->f (xs.getD k d)=false->bp f xs=false
 | [],k,h,_=>by simp at h
 | x::xs,0,h,e=>by simp at e;simp[bp,e]
 | x::xs,k+1,h,e=>by
  have:=dL d xs k (by simpa using h) (by simpa using e);simp[bp,this]
theorem dU(xs:List α)(k:Nat):xs.length<=k->bp f (xs.take k)=bp f xs:=λ h=>by rw[b3U h]
theorem all_zero(xs:List α):bp f (xs.take 0)=true:=by simp[bp]
theorem Yv(d:α):∀ (xs:List α) (k:Nat),k<xs.length->bp f xs=true->f (xs.getD k d)=true
 | [],k,h,_=>by simp at h
 | x::xs,0,h,e=>by simp[bp] at e;simp[e.1]
 | x::xs,k+1,h,e=>by
  simp only[bp,Bool.and_eq_true] at e;have:=Yv d xs k (by simpa using h) e.2;simpa using this
end
end Go.Proofs.YtmjfpcajohhbeaaGreatDoor

set_option maxRecDepth 4000
set_option maxHeartbeats 4000000
namespace Go.Proofs.YtmjfpcajohhbeaaGreatDoor
noncomputable section
mutual
def aB:J->Nat
 | ⟨_,_,M⟩=>M.length+xh M
def xh:List J->Nat
 | []=>0
 | k::ks=>aB k+xh ks
end
def Fw:∀ xs,xh xs=aG aB xs
 | []=>rfl
 | x::xs=>by rw[xh,aG,Fw xs]
def jO(x:J):aB x=(x.M.length+aG aB x.M):=by
 cases x;simp[aB,Fw];try omega
def oh(n:Nat):aL:=⟨zd,[.v (.st .expr), .v (.int .i64)],λ (x:J) (left:Int)=>⟨(some (cb x<n/\0<=left/\left<=1048576),[⟨(.int .i64),fk (aB x) left⟩])⟩⟩
def IK:aL:=⟨zd,[.v (.st .expr), .v (.int .i64)],λ (x:J) (left:Int)=>⟨(some (0<=left/\left<=1048576),[⟨(.int .i64),fk (aB x) left⟩])⟩⟩
def mL(n:Nat):aL:=⟨vB,[.v (.slice (.st .expr)), .v (.int .i64)],λ (xs:List J) (left:Int)=>⟨(some (cb xs<n/\0<=left/\left<=1048576),[⟨(.int .i64),fk (xs.length+aG aB xs) left⟩])⟩⟩
def Ga:aL:=⟨vB,[.v (.slice (.st .expr)), .v (.int .i64)],λ (xs:List J) (left:Int)=>⟨(some (0<=left/\left<=1048576),[⟨(.int .i64),fk (xs.length+aG aB xs) left⟩])⟩⟩
def Wz(x:J)(left:Int):Nat->az:=bI
def Un(n:Nat)(hE:bD [mL n]):aL.Good (oh (n+1)):=by
 refine⟨ar n6,?_⟩;intro (x:J) (left:Int) (hp:cb x<n+1/\0<=left/\left<=1048576);refine aV [mL n] [] [] [2] hE n6 OG (Wz x left) (let v0:=fk (x.M.length+aG aB x.M) left;((x.M.length<=140737488355328->((cb x.M<n/\0<=left/\left<=1048576)/\(O v0->(((decide (v0<(0:Int)))=true->(-1:Int)=(fk (aB x) left))/\((decide (v0<(0:Int)))=false->v0=(fk (aB x) left)))))))) ?_;have f0:=dX (x.M.length+aG aB x.M) (left);have fz:=dX ((x.M.length+aG aB x.M)) left;have f0k:=dj x;refine λ _=>⟨?_,λ _=>⟨λ _=>?_,λ _=>?_⟩⟩;all_goals try and_intros
 all_goals try rw[jO]
 all_goals first|rfl|trivial|omega|(simp only[b3v,b3u,ak,O,bS,cB,bJ,aY] at *;omega)|(simp[ak,O] at *;omega)|grind
def TP(xs:List J)(left:Int):Nat->az:=(cP 0 (.b (Nat) (λ k=>k<=xs.length/\(xs.length+aG aB (xs.take k):Int)<=left) (λ k=>xs.length - k) [6,7,8,9,10,11] (λ k=>[(5, .aF ⟨(.int .i64),((k:Int):Int)⟩),(1, .aF ⟨(.int .i64),(left - (xs.length+aG aB (xs.take k):Int):Int)⟩)])) bI)
def R6(n:Nat)(hE:bD [oh n]):aL.Good (mL (n+1)):=by
 refine⟨ar mu,?_⟩;intro (xs:List J) (left:Int) (hp:cb xs<n+1/\0<=left/\left<=1048576);refine aV [oh n] [] [] [] hE mu Mb (TP xs left) (let v0:=(xs.length:Int);let v1:=fk (xs.length+aG aB xs) left;let v2:=decide ((left - v0)<(0:Int));((O v0->(O (left - v0)/\((v2=true->(-1:Int)=v1)/\(v2=false->((∃ k1:Nat,let v3:=(xs.length+aG aB (xs.take k1):Int);((k1<=xs.length/\v3<=left)/\((xs=xs/\((left - v0)=(left - v3)/\((0:Int)=(k1:Int)/\True)))/\True)))/\(∀ k1:Nat,let v5:=(xs.length+aG aB (xs.take k1):Int);let v3:=left - v5;let v4:=fk (aB (xs.getD k1 zE)) v3;((k1<=xs.length/\v5<=left)->(O v0->(((decide ((k1:Int)<v0))=true->(ak (k1:Int) xs.length/\((cb (xs.getD k1 zE)<n/\0<=v3/\v3<=1048576)/\(O v4->(((decide (v4<(0:Int)))=true->(-1:Int)=v1)/\((decide (v4<(0:Int)))=false->(O ((k1:Int)+(1:Int))/\(∃ k2:Nat,let v6:=(xs.length+aG aB (xs.take k2):Int);((k2<=xs.length/\v6<=left)/\(xs.length - k2<xs.length - k1/\((xs=xs/\(v4=(left - v6)/\(((k1:Int)+(1:Int))=(k2:Int)/\True)))/\True)))))))))))/\((decide ((k1:Int)<v0))=false->v3=v1)))))))))))) ?_;have f0:=dX (xs.length+aG aB xs) left;have f1:=ik aB xs;refine λ _=>⟨?_,λ _=>?_,λ _=>⟨⟨0,?_,⟨rfl,?_,?_,ae⟩,ae⟩,λ k1 _=>have a9j:=fj aB zE xs k1;have a9k:=bY aB xs k1;have a9l:=bY aB xs (k1+1);have a9m:=gT aB xs k1;have a9n:=b9 zE xs k1;have b3c:=dX (aB (xs.getD k1 zE)) (left - (xs.length+aG aB (xs.take k1):Int));λ _=>⟨λ _=>⟨?_,?_,λ _=>⟨λ _=>?_,λ _=>⟨?_,k1+1,?_,?_,⟨rfl,?_,?_,ae⟩,ae⟩⟩⟩,λ _=>?_⟩⟩⟩;all_goals try and_intros
 all_goals first|rfl|trivial|omega|(simp only[b3v,b3u,ak,O,bS,cB,bJ,aY] at *;omega)|(simp[ak,O] at *;omega)|grind
def Eu :∀ n,bD [oh n,mL n]
 | 0=>⟨⟨ar n6,λ _ _ h=>absurd h.1 (b4q _)⟩,⟨ar mu,λ _ _ h=>absurd h.1 (b4q _)⟩,ae⟩
 | n+1=>by
  have ih:=Eu  n;exact⟨Un n ⟨ih.2.1,ae⟩,R6 n ⟨ih.1,ae⟩,ae⟩
def Ph :aL.Good IK :=
 ⟨ar n6,λ x left hp=>(Eu  (cb x+1)).1.2 x left (⟨b4m _,hp⟩)⟩
def MI :aL.Good Ga :=
 ⟨ar mu,λ xs left hp=>(Eu  (cb xs+1)).2.1.2 xs left (⟨b4m _,hp⟩)⟩
def DA:aL:=⟨D7,[.v (.slice (.int .i64)), .v (.int .i64)],λ (xs:List Int) (left:Int)=>⟨(some (0<=left/\left<=1048576),[⟨(.int .i64),fk xs.length left⟩])⟩⟩
def RF(xs:List Int)(left:Int):Nat->az:=bI
def KJ:aL.Good DA:=by
 refine⟨ar Ar,?_⟩;intro (xs:List Int) (left:Int) (hp:0<=left/\left<=1048576);refine aV [] [] [] [] trivial Ar Ks (RF xs left) (let v0:=left - ((xs.length:Int));((O ((xs.length:Int))->(O v0/\(((decide (v0<(0:Int)))=true->(-1:Int)=(fk xs.length left))/\((decide (v0<(0:Int)))=false->v0=(fk xs.length left))))))) ?_;have f0:=dX xs.length left;refine λ _=>⟨?_,λ _=>?_,λ _=>?_⟩;all_goals try and_intros
 all_goals first|rfl|trivial|omega|(simp only[b3v,b3u,ak,O,bS,cB,bJ,aY] at *;omega)|(simp[ak,O] at *;omega)|grind
def aX(x:U):Nat:=(x.path.length)+(x.av.length+aG aB x.av)+(x.bd.length+aG aB x.bd)
def gL(x:U):aX x=(x.path.length)+(x.av.length+aG aB x.av)+(x.bd.length+aG aB x.bd):=rfl
def wx:aL:=⟨wG,[.v (.st .proofStep), .v (.int .i64)],λ (x:U) (left:Int)=>⟨(some (0<=left/\left<=1048576),[⟨(.int .i64),fk (aX x) left⟩])⟩⟩
def K2(x:U)(left:Int):Nat->az:=bI
def EU:aL.Good wx:=by
 refine⟨ar sZ,?_⟩;intro (x:U) (left:Int) (hp:0<=left/\left<=1048576);refine aV [DA,Ga] [] [] [2] ⟨KJ,MI,ae⟩ sZ EE (K2 x left) (let v2:=fk x.path.length left;let v0:=fk (x.av.length+aG aB x.av) v2;let v1:=fk (x.bd.length+aG aB x.bd) v0;let v3:=fk (aX x) left;let v4:=(0:Int);((x.path.length<=140737488355328->((0<=left/\left<=1048576)/\(O v2->(((decide (v2<v4))=true->(-1:Int)=v3)/\((decide (v2<v4))=false->(x.av.length<=140737488355328->((0<=v2/\v2<=1048576)/\(O v0->(((decide (v0<v4))=true->(-1:Int)=v3)/\((decide (v0<v4))=false->(x.bd.length<=140737488355328->((0<=v0/\v0<=1048576)/\(O v1->(((decide (v1<v4))=true->(-1:Int)=v3)/\((decide (v1<v4))=false->v1=v3))))))))))))))))) ?_;have f0:=dX (x.path.length) (left);have f1:=dX (x.av.length+aG aB x.av) (fk (x.path.length) left);have f2:=dX (x.bd.length+aG aB x.bd) (fk (x.av.length+aG aB x.av) (fk (x.path.length) left));have fz:=dX ((x.path.length)+(x.av.length+aG aB x.av)+(x.bd.length+aG aB x.bd)) left;refine λ _=>⟨?_,λ _=>⟨λ _=>?_,λ _ _=>⟨?_,λ _=>⟨λ _=>?_,λ _ _=>⟨?_,λ _=>⟨λ _=>?_,λ _=>?_⟩⟩⟩⟩⟩⟩;all_goals try and_intros
 all_goals try rw[gL]
 all_goals first|rfl|trivial|omega|(simp only[b3v,b3u,ak,O,bS,cB,bJ,aY] at *;omega)|(simp[ak,O] at *;omega)|grind
def tC:aL:=⟨tN,[.v (.slice (.st .proofStep)), .v (.int .i64)],λ (xs:List U) (left:Int)=>⟨(some (0<=left/\left<=1048576),[⟨(.int .i64),fk (xs.length+aG aX xs) left⟩])⟩⟩
def IS(xs:List U)(left:Int):Nat->az:=(cP 0 (.b (Nat) (λ k=>k<=xs.length/\(xs.length+aG aX (xs.take k):Int)<=left) (λ k=>xs.length - k) [6,7,8,9,10,11] (λ k=>[(5, .aF ⟨(.int .i64),((k:Int):Int)⟩),(1, .aF ⟨(.int .i64),(left - (xs.length+aG aX (xs.take k):Int):Int)⟩)])) bI)
def Da:aL.Good tC:=by
 refine⟨ar qQ,?_⟩;intro (xs:List U) (left:Int) (hp:0<=left/\left<=1048576);refine aV [wx] [] [] [] ⟨EU,ae⟩ qQ CU (IS xs left) (let v0:=(xs.length:Int);let v1:=U.mk (0:Int) false [] [] [];let v2:=fk (xs.length+aG aX xs) left;let v3:=decide ((left - v0)<(0:Int));((O v0->(O (left - v0)/\((v3=true->(-1:Int)=v2)/\(v3=false->((∃ k1:Nat,let v4:=(xs.length+aG aX (xs.take k1):Int);((k1<=xs.length/\v4<=left)/\((xs=xs/\((left - v0)=(left - v4)/\((0:Int)=(k1:Int)/\True)))/\True)))/\(∀ k1:Nat,let v6:=(xs.length+aG aX (xs.take k1):Int);let v4:=left - v6;let v5:=fk (aX (xs.getD k1 v1)) v4;((k1<=xs.length/\v6<=left)->(O v0->(((decide ((k1:Int)<v0))=true->(ak (k1:Int) xs.length/\((0<=v4/\v4<=1048576)/\(O v5->(((decide (v5<(0:Int)))=true->(-1:Int)=v2)/\((decide (v5<(0:Int)))=false->(O ((k1:Int)+(1:Int))/\(∃ k2:Nat,let v7:=(xs.length+aG aX (xs.take k2):Int);((k2<=xs.length/\v7<=left)/\(xs.length - k2<xs.length - k1/\((xs=xs/\(v5=(left - v7)/\(((k1:Int)+(1:Int))=(k2:Int)/\True)))/\True)))))))))))/\((decide ((k1:Int)<v0))=false->v4=v2)))))))))))) ?_;have f0:=dX (xs.length+aG aX xs) left;have f1:=ik aX xs;refine λ _=>⟨?_,λ _=>?_,λ _=>⟨⟨0,?_,⟨rfl,?_,?_,ae⟩,ae⟩,λ k1 _=>have a9j:=fj aX (U.mk (0:Int) false [] [] []) xs k1;have a9k:=bY aX xs k1;have a9l:=bY aX xs (k1+1);have a9m:=gT aX xs k1;have a9n:=dX (aX (xs.getD k1 (U.mk (0:Int) false [] [] []))) (left - (xs.length+aG aX (xs.take k1):Int));λ _=>⟨λ _=>⟨?_,?_,λ _=>⟨λ _=>?_,λ _=>⟨?_,k1+1,?_,?_,⟨rfl,?_,?_,ae⟩,ae⟩⟩⟩,λ _=>?_⟩⟩⟩;all_goals try and_intros
 all_goals first|rfl|trivial|omega|(simp only[b3v,b3u,ak,O,bS,cB,bJ,aY] at *;omega)|(simp[ak,O] at *;omega)|grind
def bz(x:ag):Nat:=(aB x.left)+(aB x.right)+(x.steps.length+aG aX x.steps)
def gB(x:ag):bz x=(aB x.left)+(aB x.right)+(x.steps.length+aG aX x.steps):=rfl
def F9:aL:=⟨GD,[.v (.st .claim), .v (.int .i64)],λ (x:ag) (left:Int)=>⟨(some (0<=left/\left<=1048576),[⟨(.int .i64),fk (bz x) left⟩])⟩⟩
def TO(x:ag)(left:Int):Nat->az:=bI
def MH:aL.Good F9:=by
 refine⟨ar CB,?_⟩;intro (x:ag) (left:Int) (hp:0<=left/\left<=1048576);refine aV [IK,tC] [] [] [2] ⟨Ph,Da,ae⟩ CB Ma (TO x left) (let v2:=fk (aB x.left) left;let v0:=fk (aB x.right) v2;let v1:=fk (x.steps.length+aG aX x.steps) v0;let v3:=fk (bz x) left;let v4:=(0:Int);(((0<=left/\left<=1048576)/\(O v2->(((decide (v2<v4))=true->(-1:Int)=v3)/\((decide (v2<v4))=false->((0<=v2/\v2<=1048576)/\(O v0->(((decide (v0<v4))=true->(-1:Int)=v3)/\((decide (v0<v4))=false->(x.steps.length<=140737488355328->((0<=v0/\v0<=1048576)/\(O v1->(((decide (v1<v4))=true->(-1:Int)=v3)/\((decide (v1<v4))=false->v1=v3))))))))))))))) ?_;have f0:=dX (aB x.left) (left);have f1:=dX (aB x.right) (fk (aB x.left) left);have f2:=dX (x.steps.length+aG aX x.steps) (fk (aB x.right) (fk (aB x.left) left));have fz:=dX ((aB x.left)+(aB x.right)+(x.steps.length+aG aX x.steps)) left;refine⟨?_,λ _=>⟨λ _=>?_,λ _=>⟨?_,λ _=>⟨λ _=>?_,λ _ _=>⟨?_,λ _=>⟨λ _=>?_,λ _=>?_⟩⟩⟩⟩⟩⟩;all_goals try and_intros
 all_goals try rw[gB]
 all_goals first|rfl|trivial|omega|(simp only[b3v,b3u,ak,O,bS,cB,bJ,aY] at *;omega)|(simp[ak,O] at *;omega)|grind
def Dz:aL:=⟨D6,[.v (.slice (.st .claim)), .v (.int .i64)],λ (xs:List ag) (left:Int)=>⟨(some (0<=left/\left<=1048576),[⟨(.int .i64),fk (xs.length+aG bz xs) left⟩])⟩⟩
def RE(xs:List ag)(left:Int):Nat->az:=(cP 0 (.b (Nat) (λ k=>k<=xs.length/\(xs.length+aG bz (xs.take k):Int)<=left) (λ k=>xs.length - k) [6,7,8,9,10,11] (λ k=>[(5, .aF ⟨(.int .i64),((k:Int):Int)⟩),(1, .aF ⟨(.int .i64),(left - (xs.length+aG bz (xs.take k):Int):Int)⟩)])) bI)
def KI:aL.Good Dz:=by
 refine⟨ar Aq,?_⟩;intro (xs:List ag) (left:Int) (hp:0<=left/\left<=1048576);refine aV [F9] [] [] [] ⟨MH,ae⟩ Aq Kr (RE xs left) (let v1:=(xs.length:Int);let v2:=fk (xs.length+aG bz xs) left;let v3:=(0:Int);let v0:=ag.mk zE zE v3 v3 [];((O v1->(O (left - v1)/\(((decide ((left - v1)<v3))=true->(-1:Int)=v2)/\((decide ((left - v1)<v3))=false->((∃ k1:Nat,let v4:=(xs.length+aG bz (xs.take k1):Int);((k1<=xs.length/\v4<=left)/\((xs=xs/\((left - v1)=(left - v4)/\(v3=(k1:Int)/\True)))/\True)))/\(∀ k1:Nat,let v6:=(xs.length+aG bz (xs.take k1):Int);let v4:=left - v6;let v5:=fk (bz (xs.getD k1 v0)) v4;((k1<=xs.length/\v6<=left)->(O v1->(((decide ((k1:Int)<v1))=true->(ak (k1:Int) xs.length/\((0<=v4/\v4<=1048576)/\(O v5->(((decide (v5<v3))=true->(-1:Int)=v2)/\((decide (v5<v3))=false->(O ((k1:Int)+(1:Int))/\(∃ k2:Nat,let v7:=(xs.length+aG bz (xs.take k2):Int);((k2<=xs.length/\v7<=left)/\(xs.length - k2<xs.length - k1/\((xs=xs/\(v5=(left - v7)/\(((k1:Int)+(1:Int))=(k2:Int)/\True)))/\True)))))))))))/\((decide ((k1:Int)<v1))=false->v4=v2)))))))))))) ?_;have f0:=dX (xs.length+aG bz xs) left;have f1:=ik bz xs;refine λ _=>⟨?_,λ _=>?_,λ _=>⟨⟨0,?_,⟨rfl,?_,?_,ae⟩,ae⟩,λ k1 _=>have a9j:=fj bz (ag.mk zE zE (0:Int) (0:Int) []) xs k1;have a9k:=bY bz xs k1;have a9l:=bY bz xs (k1+1);have a9m:=gT bz xs k1;have a9n:=dX (bz (xs.getD k1 (ag.mk zE zE (0:Int) (0:Int) []))) (left - (xs.length+aG bz (xs.take k1):Int));λ _=>⟨λ _=>⟨?_,?_,λ _=>⟨λ _=>?_,λ _=>⟨?_,k1+1,?_,?_,⟨rfl,?_,?_,ae⟩,ae⟩⟩⟩,λ _=>?_⟩⟩⟩;all_goals try and_intros
 all_goals first|rfl|trivial|omega|(simp only[b3v,b3u,ak,O,bS,cB,bJ,aY] at *;omega)|(simp[ak,O] at *;omega)|grind
def bN(x:aj):Nat:=(x.af.length+aG bz x.af)
def fJ(x:aj):bN x=(x.af.length+aG bz x.af):=rfl
def Gb:aL:=⟨GF,[.v (.st .proof), .v (.int .i64)],λ (x:aj) (left:Int)=>⟨(some (0<=left/\left<=1048576),[⟨(.int .i64),fk (bN x) left⟩])⟩⟩
def TQ(x:aj)(left:Int):Nat->az:=bI
def MJ:aL.Good Gb:=by
 refine⟨ar CC,?_⟩;intro (x:aj) (left:Int) (hp:0<=left/\left<=1048576);refine aV [Dz] [] [] [2] ⟨KI,ae⟩ CC Mc (TQ x left) (let v0:=fk (x.af.length+aG bz x.af) left;((x.af.length<=140737488355328->((0<=left/\left<=1048576)/\(O v0->(((decide (v0<(0:Int)))=true->(-1:Int)=(fk (bN x) left))/\((decide (v0<(0:Int)))=false->v0=(fk (bN x) left)))))))) ?_;have f0:=dX (x.af.length+aG bz x.af) (left);have fz:=dX ((x.af.length+aG bz x.af)) left;refine λ _=>⟨?_,λ _=>⟨λ _=>?_,λ _=>?_⟩⟩;all_goals try and_intros
 all_goals try rw[fJ]
 all_goals first|rfl|trivial|omega|(simp only[b3v,b3u,ak,O,bS,cB,bJ,aY] at *;omega)|(simp[ak,O] at *;omega)|grind
end
end Go.Proofs.YtmjfpcajohhbeaaGreatDoor

set_option maxRecDepth 4000
set_option maxHeartbeats 4000000
namespace Go.Proofs.YtmjfpcajohhbeaaGreatDoor
noncomputable section
def B2:aL:=⟨LL,[.v (.st .sig)],λ (x:aU)=>⟨(none,[⟨(.st .sig),x⟩])⟩⟩
def X6(x:aU):Nat->az:=bI
def Dc:aL.Good B2:=by
 refine⟨ar HJ,?_⟩;intro (x:aU) _;refine aV [] [] [] [1] trivial HJ QV (X6 x) ((O x.av->(O x.bc->x=x))) ?_;refine λ a0=>λ a1=>rfl;all_goals try and_intros
 all_goals first|rfl|trivial|omega|(simp only[b3v,b3u,ak,O,bS,cB,bJ,aY] at *;omega)|(simp[ak,O] at *;omega)|grind
def oi(n:Nat):aL:=⟨me,[.v (.st .expr)],λ (x:J)=>⟨(some (cb x<n/\aB x<=1048576),[⟨(.st .expr),x⟩])⟩⟩
def IL:aL:=⟨me,[.v (.st .expr)],λ (x:J)=>⟨(some (aB x<=1048576),[⟨(.st .expr),x⟩])⟩⟩
def mM(n:Nat):aL:=⟨kG,[.v (.slice (.st .expr))],λ (xs:List J)=>⟨(some (cb xs<n/\xs.length+aG aB xs<=1048576),[⟨(.slice (.st .expr)),xs⟩])⟩⟩
def Gd:aL:=⟨kG,[.v (.slice (.st .expr))],λ (xs:List J)=>⟨(some (xs.length+aG aB xs<=1048576),[⟨(.slice (.st .expr)),xs⟩])⟩⟩
def WA(x:J):Nat->az:=bI
def Uo(n:Nat)(hE:bD [mM n]):aL.Good (oi (n+1)):=by
 refine⟨ar fm,?_⟩;intro (x:J) (hp:cb x<n+1/\aB x<=1048576);refine aV [mM n] [] [] [1] hE fm Az (WA x) ((O x.aq->(O x.aN->(x.M.length<=140737488355328->((cb x.M<n/\x.M.length+aG aB x.M<=1048576)/\(x.M.length<=140737488355328->(aI x)=x)))))) ?_;rw[jO] at hp;have f0k:=dj x;refine λ _ _ _=>⟨?_,λ _=>?_⟩;all_goals try and_intros
 all_goals try (first|with_reducible rfl|with_reducible assumption)
 all_goals try simp only[J.eta,ag.eta,au.eta,aJ,bm,bH] at *
 all_goals first|rfl|trivial|omega|(simp only[b3v,b3u,ak,O,bS,cB,bJ,aY] at *;omega)|(simp[ak,O] at *;omega)|grind
def TT(xs:List J):Nat->az:=(cP 0 (.a (Nat) (λ k=>k<=xs.length) (λ k=>xs.length - k) [2,5,6,7] (λ k=>[(4, .aF ⟨(.int .i64),((k:Int):Int)⟩),(3, .row 7)]) [] (λ k=>[(7, .row ZG (.st .expr) (fill xs k zE:List J))])) bI)
def R7(n:Nat)(hE:bD [oi n]):aL.Good (mM (n+1)):=by
 refine⟨ar eK,?_⟩;intro (xs:List J) (hp:cb xs<n+1/\xs.length+aG aB xs<=1048576);refine aV [oi n] [] [] [] hE eK xC (TT xs) (let v0:=(xs.length:Int);((O v0->(bJ v0 v0 40/\((∃ k1:Nat,(k1<=xs.length/\((xs=xs/\(True/\((0:Int)=(k1:Int)/\True)))/\((List.replicate (Int.toNat v0) zE)=(fill xs k1 zE)/\True))))/\(∀ k1:Nat,let v1:=(k1:Int);(k1<=xs.length->(O v0->(((decide (v1<v0))=true->(ak v1 xs.length/\((cb (xs.getD k1 zE)<n/\aB (xs.getD k1 zE)<=1048576)/\(ak v1 (fill xs k1 zE).length/\(O (v1+(1:Int))/\(∃ k2:Nat,(k2<=xs.length/\(xs.length - k2<xs.length - k1/\((xs=xs/\(True/\((v1+(1:Int))=(k2:Int)/\True)))/\(((fill xs k1 zE).set k1 (xs.getD k1 zE))=(fill xs k2 zE)/\True))))))))))/\((decide (v1<v0))=false->(fill xs k1 zE)=xs)))))))))) ?_;refine λ _=>⟨?_,⟨0,?_,⟨rfl,ae,?_,ae⟩,?_,ae⟩,λ k1 _=>have HO:=ff xs zE k1;have HP:=iH xs zE k1;have HQ:=fg xs zE zE k1;have Vh:=dK aB zE xs k1;have b1o:=b9 zE xs k1;λ _=>⟨λ _=>⟨?_,?_,?_,?_,k1+1,?_,?_,⟨rfl,ae,?_,ae⟩,?_,ae⟩,λ _=>?_⟩⟩;all_goals try and_intros
 all_goals first|rfl|trivial|omega|(simp only[b3v,b3u,ak,O,bS,cB,bJ,aY] at *;omega)|(simp[ak,O] at *;omega)|grind|exact lV xs _|(simp only[b3v,b3u] at *;first|exact fg _ _ _ _ (by omega)|exact ff _ _ _ (by omega)|(simp only[bJ];omega))
def Ev :∀ n,bD [oi n,mM n]
 | 0=>⟨⟨ar fm,λ _ h=>absurd h.1 (b4q _)⟩,⟨ar eK,λ _ h=>absurd h.1 (b4q _)⟩,ae⟩
 | n+1=>by
  have ih:=Ev  n;exact⟨Uo n ⟨ih.2.1,ae⟩,R7 n ⟨ih.1,ae⟩,ae⟩
def Pj :aL.Good IL :=
 ⟨ar fm,λ x hp=>(Ev  (cb x+1)).1.2 x (⟨b4m _,hp⟩)⟩
def MM :aL.Good Gd :=
 ⟨ar eK,λ xs hp=>(Ev  (cb xs+1)).2.1.2 xs (⟨b4m _,hp⟩)⟩
def DC:aL:=⟨sq,[.v (.slice (.int .i64))],λ (xs:List Int)=>⟨(some (xs.length<=1048576),[⟨(.slice (.int .i64)),xs⟩])⟩⟩
def RH(xs:List Int):Nat->az:=(cP 0 (.a (Nat) (λ k=>k<=xs.length) (λ k=>xs.length - k) [2,5,6,7] (λ k=>[(4, .aF ⟨(.int .i64),((k:Int):Int)⟩),(3, .row 7)]) [] (λ k=>[(7, .row a0M (.int .i64) (fill xs k (0:Int):List Int))])) bI)
def KL:aL.Good DC:=by
 refine⟨ar lh,?_⟩;intro (xs:List Int) (hp:xs.length<=1048576);refine aV [] [] [] [] trivial lh vZ (RH xs) (let v0:=(xs.length:Int);let v1:=(0:Int);((O v0->(bJ v0 v0 8/\((∃ k1:Nat,(k1<=xs.length/\((xs=xs/\(True/\(v1=(k1:Int)/\True)))/\((List.replicate (Int.toNat v0) v1)=(fill xs k1 v1)/\True))))/\(∀ k1:Nat,let v2:=(k1:Int);(k1<=xs.length->(O v0->(((decide (v2<v0))=true->(ak v2 xs.length/\(O (xs.getD k1 v1)->(ak v2 (fill xs k1 v1).length/\(O (v2+(1:Int))/\(∃ k2:Nat,(k2<=xs.length/\(xs.length - k2<xs.length - k1/\((xs=xs/\(True/\((v2+(1:Int))=(k2:Int)/\True)))/\(((fill xs k1 v1).set k1 (xs.getD k1 v1))=(fill xs k2 v1)/\True))))))))))/\((decide (v2<v0))=false->(fill xs k1 v1)=xs)))))))))) ?_;refine λ _=>⟨?_,⟨0,?_,⟨rfl,ae,?_,ae⟩,?_,ae⟩,λ k1 _=>have HO:=ff xs (0:Int) k1;have HP:=iH xs (0:Int) k1;have HQ:=fg xs (0:Int) (0:Int) k1;λ _=>⟨λ _=>⟨?_,λ _=>⟨?_,?_,k1+1,?_,?_,⟨rfl,ae,?_,ae⟩,?_,ae⟩⟩,λ _=>?_⟩⟩;all_goals try and_intros
 all_goals first|rfl|trivial|omega|(simp only[b3v,b3u,ak,O,bS,cB,bJ,aY] at *;omega)|(simp[ak,O] at *;omega)|grind|exact lV xs _|(simp only[b3v,b3u] at *;first|exact fg _ _ _ _ (by omega)|exact ff _ _ _ (by omega)|(simp only[bJ];omega))
def wy:aL:=⟨nL,[.v (.st .proofStep)],λ (x:U)=>⟨(some (aX x<=1048576),[⟨(.st .proofStep),x⟩])⟩⟩
def K3(x:U):Nat->az:=bI
def EV:aL.Good wy:=by
 refine⟨ar iy,?_⟩;intro (x:U) (hp:aX x<=1048576);refine aV [DC,Gd] [] [] [1] ⟨KL,MM,ae⟩ iy pL (K3 x) ((O x.use->(x.path.length<=140737488355328->(x.path.length<=1048576/\(x.path.length<=140737488355328->(x.av.length<=140737488355328->(x.av.length+aG aB x.av<=1048576/\(x.av.length<=140737488355328->(x.bd.length<=140737488355328->(x.bd.length+aG aB x.bd<=1048576/\(x.bd.length<=140737488355328->x=x))))))))))) ?_;rw[gL] at hp;refine λ _ _=>⟨?_,λ _ _=>⟨?_,λ _ _=>⟨?_,λ _=>rfl⟩⟩⟩;all_goals try and_intros
 all_goals first|rfl|trivial|omega|(simp only[b3v,b3u,ak,O,bS,cB,bJ,aY] at *;omega)|(simp[ak,O] at *;omega)|grind
def tD:aL:=⟨mg,[.v (.slice (.st .proofStep))],λ (xs:List U)=>⟨(some (xs.length+aG aX xs<=1048576),[⟨(.slice (.st .proofStep)),xs⟩])⟩⟩
def IT(xs:List U):Nat->az:=(cP 0 (.a (Nat) (λ k=>k<=xs.length) (λ k=>xs.length - k) [2,5,6,7] (λ k=>[(4, .aF ⟨(.int .i64),((k:Int):Int)⟩),(3, .row 7)]) [] (λ k=>[(7, .row Og (.st .proofStep) (fill xs k (U.mk (0:Int) false [] [] []):List U))])) bI)
def Db:aL.Good tD:=by
 refine⟨ar gU,?_⟩;intro (xs:List U) (hp:xs.length+aG aX xs<=1048576);refine aV [wy] [] [] [] ⟨EV,ae⟩ gU pc (IT xs) (let v0:=U.mk (0:Int) false [] [] [];let v1:=(xs.length:Int);((O v1->(bJ v1 v1 88/\((∃ k1:Nat,(k1<=xs.length/\((xs=xs/\(True/\((0:Int)=(k1:Int)/\True)))/\((List.replicate (Int.toNat v1) v0)=(fill xs k1 v0)/\True))))/\(∀ k1:Nat,let v2:=(k1:Int);(k1<=xs.length->(O v1->(((decide (v2<v1))=true->(ak v2 xs.length/\(aX (xs.getD k1 v0)<=1048576/\(ak v2 (fill xs k1 v0).length/\(O (v2+(1:Int))/\(∃ k2:Nat,(k2<=xs.length/\(xs.length - k2<xs.length - k1/\((xs=xs/\(True/\((v2+(1:Int))=(k2:Int)/\True)))/\(((fill xs k1 v0).set k1 (xs.getD k1 v0))=(fill xs k2 v0)/\True))))))))))/\((decide (v2<v1))=false->(fill xs k1 v0)=xs)))))))))) ?_;refine λ _=>⟨?_,⟨0,?_,⟨rfl,ae,?_,ae⟩,?_,ae⟩,λ k1 _=>have HO:=ff xs (U.mk (0:Int) false [] [] []) k1;have HP:=iH xs (U.mk (0:Int) false [] [] []) k1;have HQ:=fg xs (U.mk (0:Int) false [] [] []) (U.mk (0:Int) false [] [] []) k1;have Vh:=dK aX (U.mk (0:Int) false [] [] []) xs k1;λ _=>⟨λ _=>⟨?_,?_,?_,?_,k1+1,?_,?_,⟨rfl,ae,?_,ae⟩,?_,ae⟩,λ _=>?_⟩⟩;all_goals try and_intros
 all_goals first|rfl|trivial|omega|(simp only[b3v,b3u,ak,O,bS,cB,bJ,aY] at *;omega)|(simp[ak,O] at *;omega)|grind|exact lV xs _|(simp only[b3v,b3u] at *;first|exact fg _ _ _ _ (by omega)|exact ff _ _ _ (by omega)|(simp only[bJ];omega))
def Gc:aL:=⟨vC,[.v (.st .claim)],λ (x:ag)=>⟨(some (bz x<=1048576),[⟨(.st .claim),x⟩])⟩⟩
def TS(x:ag):Nat->az:=bI
def ML:aL.Good Gc:=by
 refine⟨ar mw,?_⟩;intro (x:ag) (hp:bz x<=1048576);refine aV [IL,tD] [] [] [1] ⟨Pj,Db,ae⟩ mw xB (TS x) ((aB x.left<=1048576/\(aB x.right<=1048576/\(O x.aH->(O x.ref->(x.steps.length<=140737488355328->(x.steps.length+aG aX x.steps<=1048576/\(x.steps.length<=140737488355328->(kz x)=x)))))))) ?_;rw[gB] at hp;refine⟨?_,?_,λ _ _ _=>⟨?_,λ _=>?_⟩⟩;all_goals try and_intros
 all_goals try (first|with_reducible rfl|with_reducible assumption)
 all_goals try simp only[J.eta,ag.eta,au.eta,aJ,bm,bH] at *
 all_goals first|rfl|trivial|omega|(simp only[b3v,b3u,ak,O,bS,cB,bJ,aY] at *;omega)|(simp[ak,O] at *;omega)|grind
def DB:aL:=⟨so,[.v (.slice (.st .claim))],λ (xs:List ag)=>⟨(some (xs.length+aG bz xs<=1048576),[⟨(.slice (.st .claim)),xs⟩])⟩⟩
def RG(xs:List ag):Nat->az:=(cP 0 (.a (Nat) (λ k=>k<=xs.length) (λ k=>xs.length - k) [2,5,6,7] (λ k=>[(4, .aF ⟨(.int .i64),((k:Int):Int)⟩),(3, .row 7)]) [] (λ k=>[(7, .row XJ (.st .claim) (fill xs k (ag.mk zE zE (0:Int) (0:Int) []):List ag))])) bI)
def KK:aL.Good DB:=by
 refine⟨ar lg,?_⟩;intro (xs:List ag) (hp:xs.length+aG bz xs<=1048576);refine aV [Gc] [] [] [] ⟨ML,ae⟩ lg vY (RG xs) (let v0:=ag.mk zE zE (0:Int) (0:Int) [];let v1:=(xs.length:Int);((O v1->(bJ v1 v1 120/\((∃ k1:Nat,(k1<=xs.length/\((xs=xs/\(True/\((0:Int)=(k1:Int)/\True)))/\((List.replicate (Int.toNat v1) v0)=(fill xs k1 v0)/\True))))/\(∀ k1:Nat,let v2:=(k1:Int);(k1<=xs.length->(O v1->(((decide (v2<v1))=true->(ak v2 xs.length/\(bz (xs.getD k1 v0)<=1048576/\(ak v2 (fill xs k1 v0).length/\(O (v2+(1:Int))/\(∃ k2:Nat,(k2<=xs.length/\(xs.length - k2<xs.length - k1/\((xs=xs/\(True/\((v2+(1:Int))=(k2:Int)/\True)))/\(((fill xs k1 v0).set k1 (xs.getD k1 v0))=(fill xs k2 v0)/\True))))))))))/\((decide (v2<v1))=false->(fill xs k1 v0)=xs)))))))))) ?_;refine λ _=>⟨?_,⟨0,?_,⟨rfl,ae,?_,ae⟩,?_,ae⟩,λ k1 _=>have HO:=ff xs (ag.mk zE zE (0:Int) (0:Int) []) k1;have HP:=iH xs (ag.mk zE zE (0:Int) (0:Int) []) k1;have HQ:=fg xs (ag.mk zE zE (0:Int) (0:Int) []) (ag.mk zE zE (0:Int) (0:Int) []) k1;have Vh:=dK bz (ag.mk zE zE (0:Int) (0:Int) []) xs k1;λ _=>⟨λ _=>⟨?_,?_,?_,?_,k1+1,?_,?_,⟨rfl,ae,?_,ae⟩,?_,ae⟩,λ _=>?_⟩⟩;all_goals try and_intros
 all_goals first|rfl|trivial|omega|(simp only[b3v,b3u,ak,O,bS,cB,bJ,aY] at *;omega)|(simp[ak,O] at *;omega)|grind|exact lV xs _|(simp only[b3v,b3u] at *;first|exact fg _ _ _ _ (by omega)|exact ff _ _ _ (by omega)|(simp only[bJ];omega))
def Ge:aL:=⟨vD,[.v (.st .proof)],λ (x:aj)=>⟨(some (bN x<=1048576),[⟨(.st .proof),x⟩])⟩⟩
def TU(x:aj):Nat->az:=bI
def MN:aL.Good Ge:=by
 refine⟨ar my,?_⟩;intro (x:aj) (hp:bN x<=1048576);refine aV [B2,DB] [] [] [1] ⟨Dc,KK,ae⟩ my xD (TU x) ((x.af.length<=140737488355328->(x.af.length+aG bz x.af<=1048576/\(x.af.length<=140737488355328->x=x)))) ?_;rw[fJ] at hp;refine λ _=>⟨?_,λ _=>rfl⟩;all_goals try and_intros
 all_goals first|rfl|trivial|omega|(simp only[b3v,b3u,ak,O,bS,cB,bJ,aY] at *;omega)|(simp[ak,O] at *;omega)|grind
end
end Go.Proofs.YtmjfpcajohhbeaaGreatDoor

set_option maxRecDepth 4000
set_option maxHeartbeats 4000000
namespace Go.Proofs.YtmjfpcajohhbeaaGreatDoor
noncomputable section
def LC:aL:=⟨LK,[.v (.st .sig), .v (.st .sig)],λ (x:aU) (y:aU)=>⟨(none,[⟨.bool,bF x y⟩])⟩⟩
def X5(x:aU)(y:aU):Nat->az:=bI
def Rg:aL.Good LC:=by
 refine⟨ar HI,?_⟩;intro (x:aU) (y:aU) _;refine aV [] [] [] [2,3] trivial HI QU (X5 x y) (let v0 := !(decide (x.bc=y.bc));let v1 := !(decide (x.av=y.av));((O x.av->(O y.av->((v1=true->false=(bF x y))/\(v1=false->(O x.bc->(O y.bc->((v0=true->false=(bF x y))/\(v0=false->true=(bF x y))))))))))) ?_;refine λ _ _=>⟨λ _=>?_,λ _ _ _=>⟨λ _=>?_,λ _=>?_⟩⟩;all_goals try and_intros
 all_goals first|rfl|trivial|(simp only[b3v,b3u,ak,O] at *;omega)|(refine fw λ kE=>?_;subst kE;simp_all)|(refine mG ?_;cases x;cases y;simp_all)
def og(n:Nat):aL:=⟨y7,[.v (.st .expr), .v (.st .expr)],λ (x:J) (y:J)=>⟨(some (cb x<n),[⟨.bool,bF x y⟩])⟩⟩
def IJ:aL:=⟨y7,[.v (.st .expr), .v (.st .expr)],λ (x:J) (y:J)=>⟨(none,[⟨.bool,bF x y⟩])⟩⟩
def mK(n:Nat):aL:=⟨vA,[.v (.slice (.st .expr)), .v (.slice (.st .expr))],λ (xs:List J) (ys:List J)=>⟨(some (cb xs<n),[⟨.bool,bF xs ys⟩])⟩⟩
def F7:aL:=⟨vA,[.v (.slice (.st .expr)), .v (.slice (.st .expr))],λ (xs:List J) (ys:List J)=>⟨(none,[⟨.bool,bF xs ys⟩])⟩⟩
def Ww(x:J)(y:J):Nat->az:=bI
def Um(n:Nat)(hE:bD [mK n]):aL.Good (og (n+1)):=by
 refine⟨ar n0,?_⟩;intro (x:J) (y:J) (hp:cb x<n+1);refine aV [mK n] [] [] [2,3] hE n0 OF (Ww x y) ((O x.aq->(O y.aq->(((!(decide (x.aq=y.aq)))=true->false=(bF x y))/\((!(decide (x.aq=y.aq)))=false->(O x.aN->(O y.aN->(((!(decide (x.aN=y.aN)))=true->false=(bF x y))/\((!(decide (x.aN=y.aN)))=false->(x.M.length<=140737488355328->(y.M.length<=140737488355328->(cb x.M<n/\(((!(bF x.M y.M))=true->false=(bF x y))/\((!(bF x.M y.M))=false->true=(bF x y))))))))))))))) ?_;have f0k:=dj x;refine λ _ _=>⟨λ _=>?_,λ _ _ _=>⟨λ _=>?_,λ _ _ _=>⟨?_,λ _=>?_,λ _=>?_⟩⟩⟩;all_goals try and_intros
 all_goals first|rfl|trivial|(simp only[b3v,b3u,ak,O] at *;omega)|(refine fw λ kE=>?_;subst kE;simp_all)|(refine mG ?_;cases x;cases y;simp_all)
def TM(xs:List J)(ys:List J):Nat->az:=(cP 0 (.b (Nat) (λ k=>k<=xs.length/\xs.length=ys.length/\xs.take k=ys.take k) (λ k=>xs.length - k) [6,7,8,9,10] (λ k=>[(5, .aF ⟨(.int .i64),((k:Int):Int)⟩)])) bI)
def R5(n:Nat)(hE:bD [og n]):aL.Good (mK (n+1)):=by
 refine⟨ar mr,?_⟩;intro (xs:List J) (ys:List J) (hp:cb xs<n+1);refine aV [og n] [] [] [] hE mr L8 (TM xs ys) (let v0:=(xs.length:Int);let v1 := !(decide (v0=((ys.length:Int))));((O v0->(O ((ys.length:Int))->((v1=true->false=(bF xs ys))/\(v1=false->((∃ k1:Nat,((k1<=xs.length/\xs.length=ys.length/\xs.take k1=ys.take k1)/\((xs=xs/\(ys=ys/\((0:Int)=(k1:Int)/\True)))/\True)))/\(∀ k1:Nat,let v2 := !(bF (xs.getD k1 zE) (ys.getD k1 zE));let v3:=(k1:Int);((k1<=xs.length/\xs.length=ys.length/\xs.take k1=ys.take k1)->(O v0->(((decide (v3<v0))=true->(ak v3 xs.length/\(ak v3 ys.length/\(cb (xs.getD k1 zE)<n/\((v2=true->false=(bF xs ys))/\(v2=false->(O (v3+(1:Int))/\(∃ k2:Nat,((k2<=xs.length/\xs.length=ys.length/\xs.take k2=ys.take k2)/\(xs.length - k2<xs.length - k1/\((xs=xs/\(ys=ys/\((v3+(1:Int))=(k2:Int)/\True)))/\True)))))))))))/\((decide (v3<v0))=false->true=(bF xs ys))))))))))))) ?_;refine λ _ _=>⟨λ _=>?_,λ _=>⟨⟨0,?_,⟨rfl,rfl,?_,ae⟩,ae⟩,λ k1 _=>have a4g:=gi zE xs ys k1;have a4h:=dy xs ys k1;have b1p:=b9 zE xs k1;λ _=>⟨λ _=>⟨?_,?_,?_,λ _=>?_,λ _=>⟨?_,k1+1,?_,?_,⟨rfl,rfl,?_,ae⟩,ae⟩⟩,λ _=>?_⟩⟩⟩;all_goals try and_intros
 all_goals first|rfl|trivial|(simp only[b3v,b3u,b3Q,b7p,b3I,ak,O] at *;first|omega|(refine fw λ kE=>?_;subst kE;simp_all;done)|(refine mG (dy _ _ _ (by omega) (by omega) (by simp_all))))|(refine fw λ kE=>?_;subst kE;simp_all;done)|(simp_all;done)|(refine gi zE _ _ _ (by simp_all;omega) (by simp_all;omega) (by simp_all) ?_;simp_all;done)
def Et :∀ n,bD [og n,mK n]
 | 0=>⟨⟨ar n0,λ _ _ h=>absurd h (b4q _)⟩,⟨ar mr,λ _ _ h=>absurd h (b4q _)⟩,ae⟩
 | n+1=>by
  have ih:=Et  n;exact⟨Um n ⟨ih.2.1,ae⟩,R5 n ⟨ih.1,ae⟩,ae⟩
def Pg :aL.Good IJ :=
 ⟨ar n0,λ x y hp=>(Et  (cb x+1)).1.2 x y (b4m _)⟩
def MF :aL.Good F7 :=
 ⟨ar mr,λ xs ys hp=>(Et  (cb xs+1)).2.1.2 xs ys (b4m _)⟩
def Dy:aL:=⟨D5,[.v (.slice (.int .i64)), .v (.slice (.int .i64))],λ (xs:List Int) (ys:List Int)=>⟨(none,[⟨.bool,bF xs ys⟩])⟩⟩
def RD(xs:List Int)(ys:List Int):Nat->az:=(cP 0 (.b (Nat) (λ k=>k<=xs.length/\xs.length=ys.length/\xs.take k=ys.take k) (λ k=>xs.length - k) [6,7,8,9,10] (λ k=>[(5, .aF ⟨(.int .i64),((k:Int):Int)⟩)])) bI)
def KH:aL.Good Dy:=by
 refine⟨ar Ap,?_⟩;intro (xs:List Int) (ys:List Int) _;refine aV [] [] [] [] trivial Ap Kq (RD xs ys) (let v0:=(xs.length:Int);let v1 := !(decide (v0=((ys.length:Int))));let v2:=(0:Int);((O v0->(O ((ys.length:Int))->((v1=true->false=(bF xs ys))/\(v1=false->((∃ k1:Nat,((k1<=xs.length/\xs.length=ys.length/\xs.take k1=ys.take k1)/\((xs=xs/\(ys=ys/\(v2=(k1:Int)/\True)))/\True)))/\(∀ k1:Nat,let v3 := !(decide ((xs.getD k1 v2)=(ys.getD k1 v2)));let v4:=(k1:Int);((k1<=xs.length/\xs.length=ys.length/\xs.take k1=ys.take k1)->(O v0->(((decide (v4<v0))=true->(ak v4 xs.length/\(ak v4 ys.length/\(O (xs.getD k1 v2)->(O (ys.getD k1 v2)->((v3=true->false=(bF xs ys))/\(v3=false->(O (v4+(1:Int))/\(∃ k2:Nat,((k2<=xs.length/\xs.length=ys.length/\xs.take k2=ys.take k2)/\(xs.length - k2<xs.length - k1/\((xs=xs/\(ys=ys/\((v4+(1:Int))=(k2:Int)/\True)))/\True))))))))))))/\((decide (v4<v0))=false->true=(bF xs ys))))))))))))) ?_;refine λ _ _=>⟨λ _=>?_,λ _=>⟨⟨0,?_,⟨rfl,rfl,?_,ae⟩,ae⟩,λ k1 _=>have a4g:=gi (0:Int) xs ys k1;have a4h:=dy xs ys k1;λ _=>⟨λ _=>⟨?_,?_,λ _ _=>⟨λ _=>?_,λ _=>⟨?_,k1+1,?_,?_,⟨rfl,rfl,?_,ae⟩,ae⟩⟩⟩,λ _=>?_⟩⟩⟩;all_goals try and_intros
 all_goals first|rfl|trivial|(simp only[b3v,b3u,b3Q,b7p,b3I,ak,O] at *;first|omega|(refine fw λ kE=>?_;subst kE;simp_all;done)|(refine mG (dy _ _ _ (by omega) (by omega) (by simp_all))))|(refine fw λ kE=>?_;subst kE;simp_all;done)|(simp_all;done)|(refine gi (0:Int) _ _ _ (by simp_all;omega) (by simp_all;omega) (by simp_all) ?_;simp_all;done)
def wv:aL:=⟨wF,[.v (.st .proofStep), .v (.st .proofStep)],λ (x:U) (y:U)=>⟨(none,[⟨.bool,bF x y⟩])⟩⟩
def K1(x:U)(y:U):Nat->az:=bI
def ET:aL.Good wv:=by
 refine⟨ar sY,?_⟩;intro (x:U) (y:U) _;refine aV [Dy,F7] [] [] [2,3] ⟨KH,MF,ae⟩ sY ED (K1 x y) (let v0:=bF x y;((O x.use->(O y.use->(((!(decide (x.use=y.use)))=true->false=v0)/\((!(decide (x.use=y.use)))=false->(((!(x.back == y.back))=true->false=v0)/\((!(x.back == y.back))=false->(x.path.length<=140737488355328->(y.path.length<=140737488355328->(((!(bF x.path y.path))=true->false=v0)/\((!(bF x.path y.path))=false->(x.av.length<=140737488355328->(y.av.length<=140737488355328->(((!(bF x.av y.av))=true->false=v0)/\((!(bF x.av y.av))=false->(x.bd.length<=140737488355328->(y.bd.length<=140737488355328->(((!(bF x.bd y.bd))=true->false=v0)/\((!(bF x.bd y.bd))=false->true=v0)))))))))))))))))))) ?_;refine λ _ _=>⟨λ _=>?_,λ _=>⟨λ _=>?_,λ _ _ _=>⟨λ _=>?_,λ _ _ _=>⟨λ _=>?_,λ _ _ _=>⟨λ _=>?_,λ _=>?_⟩⟩⟩⟩⟩;all_goals try and_intros
 all_goals first|rfl|trivial|(simp only[b3v,b3u,ak,O] at *;omega)|(refine fw λ kE=>?_;subst kE;simp_all)|(refine mG ?_;cases x;cases y;simp_all)
def tB:aL:=⟨tM,[.v (.slice (.st .proofStep)), .v (.slice (.st .proofStep))],λ (xs:List U) (ys:List U)=>⟨(none,[⟨.bool,bF xs ys⟩])⟩⟩
def IQ(xs:List U)(ys:List U):Nat->az:=(cP 0 (.b (Nat) (λ k=>k<=xs.length/\xs.length=ys.length/\xs.take k=ys.take k) (λ k=>xs.length - k) [6,7,8,9,10] (λ k=>[(5, .aF ⟨(.int .i64),((k:Int):Int)⟩)])) bI)
def C9:aL.Good tB:=by
 refine⟨ar qP,?_⟩;intro (xs:List U) (ys:List U) _;refine aV [wv] [] [] [] ⟨ET,ae⟩ qP CT (IQ xs ys) (let v0:=U.mk (0:Int) false [] [] [];let v1:=(xs.length:Int);let v2 := !(decide (v1=((ys.length:Int))));((O v1->(O ((ys.length:Int))->((v2=true->false=(bF xs ys))/\(v2=false->((∃ k1:Nat,((k1<=xs.length/\xs.length=ys.length/\xs.take k1=ys.take k1)/\((xs=xs/\(ys=ys/\((0:Int)=(k1:Int)/\True)))/\True)))/\(∀ k1:Nat,let v3 := !(bF (xs.getD k1 v0) (ys.getD k1 v0));let v4:=(k1:Int);((k1<=xs.length/\xs.length=ys.length/\xs.take k1=ys.take k1)->(O v1->(((decide (v4<v1))=true->(ak v4 xs.length/\(ak v4 ys.length/\((v3=true->false=(bF xs ys))/\(v3=false->(O (v4+(1:Int))/\(∃ k2:Nat,((k2<=xs.length/\xs.length=ys.length/\xs.take k2=ys.take k2)/\(xs.length - k2<xs.length - k1/\((xs=xs/\(ys=ys/\((v4+(1:Int))=(k2:Int)/\True)))/\True))))))))))/\((decide (v4<v1))=false->true=(bF xs ys))))))))))))) ?_;refine λ _ _=>⟨λ _=>?_,λ _=>⟨⟨0,?_,⟨rfl,rfl,?_,ae⟩,ae⟩,λ k1 _=>have a4g:=gi (U.mk (0:Int) false [] [] []) xs ys k1;have a4h:=dy xs ys k1;λ _=>⟨λ _=>⟨?_,?_,λ _=>?_,λ _=>⟨?_,k1+1,?_,?_,⟨rfl,rfl,?_,ae⟩,ae⟩⟩,λ _=>?_⟩⟩⟩;all_goals try and_intros
 all_goals first|rfl|trivial|(simp only[b3v,b3u,b3Q,b7p,b3I,ak,O] at *;first|omega|(refine fw λ kE=>?_;subst kE;simp_all;done)|(refine mG (dy _ _ _ (by omega) (by omega) (by simp_all))))|(refine fw λ kE=>?_;subst kE;simp_all;done)|(simp_all;done)|(refine gi (U.mk (0:Int) false [] [] []) _ _ _ (by simp_all;omega) (by simp_all;omega) (by simp_all) ?_;simp_all;done)
def F6:aL:=⟨GB,[.v (.st .claim), .v (.st .claim)],λ (x:ag) (y:ag)=>⟨(none,[⟨.bool,bF x y⟩])⟩⟩
def TL(x:ag)(y:ag):Nat->az:=bI
def ME:aL.Good F6:=by
 refine⟨ar Cz,?_⟩;intro (x:ag) (y:ag) _;refine aV [IJ,tB] [] [] [2,3] ⟨Pg,C9,ae⟩ Cz L7 (TL x y) (let v0:=bF x y;((((!(bF x.left y.left))=true->false=v0)/\((!(bF x.left y.left))=false->(((!(bF x.right y.right))=true->false=v0)/\((!(bF x.right y.right))=false->(O x.aH->(O y.aH->(((!(decide (x.aH=y.aH)))=true->false=v0)/\((!(decide (x.aH=y.aH)))=false->(O x.ref->(O y.ref->(((!(decide (x.ref=y.ref)))=true->false=v0)/\((!(decide (x.ref=y.ref)))=false->(x.steps.length<=140737488355328->(y.steps.length<=140737488355328->(((!(bF x.steps y.steps))=true->false=v0)/\((!(bF x.steps y.steps))=false->true=v0)))))))))))))))))) ?_;refine⟨λ _=>?_,λ _=>⟨λ _=>?_,λ _ _ _=>⟨λ _=>?_,λ _ _ _=>⟨λ _=>?_,λ _ _ _=>⟨λ _=>?_,λ _=>?_⟩⟩⟩⟩⟩;all_goals try and_intros
 all_goals first|rfl|trivial|(simp only[b3v,b3u,ak,O] at *;omega)|(refine fw λ kE=>?_;subst kE;simp_all)|(refine mG ?_;cases x;cases y;simp_all)
def Dx:aL:=⟨D4,[.v (.slice (.st .claim)), .v (.slice (.st .claim))],λ (xs:List ag) (ys:List ag)=>⟨(none,[⟨.bool,bF xs ys⟩])⟩⟩
def RC(xs:List ag)(ys:List ag):Nat->az:=(cP 0 (.b (Nat) (λ k=>k<=xs.length/\xs.length=ys.length/\xs.take k=ys.take k) (λ k=>xs.length - k) [6,7,8,9,10] (λ k=>[(5, .aF ⟨(.int .i64),((k:Int):Int)⟩)])) bI)
def KG:aL.Good Dx:=by
 refine⟨ar Ao,?_⟩;intro (xs:List ag) (ys:List ag) _;refine aV [F6] [] [] [] ⟨ME,ae⟩ Ao Kp (RC xs ys) (let v0:=ag.mk zE zE (0:Int) (0:Int) [];let v1:=(xs.length:Int);let v2 := !(decide (v1=((ys.length:Int))));((O v1->(O ((ys.length:Int))->((v2=true->false=(bF xs ys))/\(v2=false->((∃ k1:Nat,((k1<=xs.length/\xs.length=ys.length/\xs.take k1=ys.take k1)/\((xs=xs/\(ys=ys/\((0:Int)=(k1:Int)/\True)))/\True)))/\(∀ k1:Nat,let v3 := !(bF (xs.getD k1 v0) (ys.getD k1 v0));let v4:=(k1:Int);((k1<=xs.length/\xs.length=ys.length/\xs.take k1=ys.take k1)->(O v1->(((decide (v4<v1))=true->(ak v4 xs.length/\(ak v4 ys.length/\((v3=true->false=(bF xs ys))/\(v3=false->(O (v4+(1:Int))/\(∃ k2:Nat,((k2<=xs.length/\xs.length=ys.length/\xs.take k2=ys.take k2)/\(xs.length - k2<xs.length - k1/\((xs=xs/\(ys=ys/\((v4+(1:Int))=(k2:Int)/\True)))/\True))))))))))/\((decide (v4<v1))=false->true=(bF xs ys))))))))))))) ?_;refine λ _ _=>⟨λ _=>?_,λ _=>⟨⟨0,?_,⟨rfl,rfl,?_,ae⟩,ae⟩,λ k1 _=>have a4g:=gi (ag.mk zE zE (0:Int) (0:Int) []) xs ys k1;have a4h:=dy xs ys k1;λ _=>⟨λ _=>⟨?_,?_,λ _=>?_,λ _=>⟨?_,k1+1,?_,?_,⟨rfl,rfl,?_,ae⟩,ae⟩⟩,λ _=>?_⟩⟩⟩;all_goals try and_intros
 all_goals first|rfl|trivial|(simp only[b3v,b3u,b3Q,b7p,b3I,ak,O] at *;first|omega|(refine fw λ kE=>?_;subst kE;simp_all;done)|(refine mG (dy _ _ _ (by omega) (by omega) (by simp_all))))|(refine fw λ kE=>?_;subst kE;simp_all;done)|(simp_all;done)|(refine gi (ag.mk zE zE (0:Int) (0:Int) []) _ _ _ (by simp_all;omega) (by simp_all;omega) (by simp_all) ?_;simp_all;done)
def F8:aL:=⟨GC,[.v (.st .proof), .v (.st .proof)],λ (x:aj) (y:aj)=>⟨(none,[⟨.bool,bF x y⟩])⟩⟩
def TN(x:aj)(y:aj):Nat->az:=bI
def MG:aL.Good F8:=by
 refine⟨ar CA,?_⟩;intro (x:aj) (y:aj) _;refine aV [LC,Dx] [] [] [2,3] ⟨Rg,KG,ae⟩ CA L9 (TN x y) ((((!(bF x.sig y.sig))=true->false=(bF x y))/\((!(bF x.sig y.sig))=false->(x.af.length<=140737488355328->(y.af.length<=140737488355328->(((!(bF x.af y.af))=true->false=(bF x y))/\((!(bF x.af y.af))=false->true=(bF x y)))))))) ?_;refine⟨λ _=>?_,λ _ _ _=>⟨λ _=>?_,λ _=>?_⟩⟩;all_goals try and_intros
 all_goals first|rfl|trivial|(simp only[b3v,b3u,ak,O] at *;omega)|(refine fw λ kE=>?_;subst kE;simp_all)|(refine mG ?_;cases x;cases y;simp_all)
end
end Go.Proofs.YtmjfpcajohhbeaaGreatDoor

set_option maxRecDepth 4000
set_option maxHeartbeats 4000000
namespace Go.Proofs.YtmjfpcajohhbeaaGreatDoor
noncomputable section
def eB(k:Int):List Int->List Int
 | []=>[]
 | _::xs=>k::eB (k+1) xs
def fR:∀ (k:Int) (xs:List Int),(eB k xs).length=xs.length
 | _,[]=>rfl
 | k,_::xs=>by simp[eB,fR (k+1) xs]
def wX:∀ (k:Int) (xs:List Int) (i:Nat) (d:Int),i<xs.length->(eB k xs).getD i d=k+i
 | k,[],i,d,h=>by simp at h
 | k,_::xs,0,d,h=>by simp[eB]
 | k,_::xs,i+1,d,h=>by
  have:=wX (k+1) xs i d (by simpa using h);simp[eB] at this ⊢;omega
def half{α:Type}(f:List α)(xs:List α)(i:Nat):List α:=f.take i++xs.drop i
def rW{α:Type}(f xs:List α):xs=half f xs 0:=by simp[half]
def Df{α:Type}(f xs:List α)(i:Nat)(h:f.length=xs.length)(hi:xs.length<=i):half f xs i=f:=by
 simp[half,b3U (h ▸ hi),b5H hi]
def j9{α:Type}(f xs:List α)(i:Nat)(h:f.length=xs.length):(half f xs i).length=xs.length:=by
 simp[half];omega
def yh{α:Type}(f xs:List α)(d:α)(i:Nat)(h:f.length=xs.length)(hi:i<xs.length):(half f xs i).getD i d=xs.getD i d:=by
 simp only[half,b3N];rw[b4V (by simp;omega)];simp[h,Nat.min_eq_left (Nat.le_of_lt hi)]
def Dg{α:Type}(f xs:List α)(d:α)(i:Nat)(h:f.length=xs.length)(hi:i<xs.length):(half f xs i).set i (f.getD i d)=half f xs (i+1):=by
 unfold half;rw[List.set_append_right _ _ (by simp;omega)];have e:i - (List.take i f).length=0:=by simp;omega
 rw[e,b5m (by omega:i<xs.length),b6G,cj d f i (by omega)];simp
def wC:MK:=⟨zc,⟨(.slice (.int .i64)),λ (xs:List Int) (k:Int)=>(some (0<=k/\k+(xs.length:Int)<=4611686018427387904),eB k xs,k+(xs.length:Int))⟩⟩
def K5(xs:List Int)(k:Int):Nat->az:=(cP 0 (.a (Nat) (λ i=>i<=xs.length) (λ i=>xs.length - i) [4] (λ i=>[(5, .aF ⟨(.int .i64),((i:Int):Int)⟩),(1, .aF ⟨(.int .i64),(k+(i:Int):Int)⟩),(0, .aw 50)]) [] (λ i=>[(50, .aw (.int .i64) (half (eB k xs) xs i:List Int))])) bI)
def Fh:MK.Good wC:=by
 refine⟨ar vT,tJ [] [] [] [] [] [] [] [] trivial trivial trivial trivial vT G8 (λ xs k=>K5 xs k) (λ (xs:List Int) (k:Int)=>(let v0:=eB k xs;(((∃ i1:Nat,(i1<=xs.length/\((True/\(k=(k+(i1:Int))/\((0:Int)=(i1:Int)/\True)))/\(xs=(half v0 xs i1)/\True))))/\(∀ i1:Nat,let v1:=(i1:Int);let v2:=half v0 xs i1;let v3:=decide (v1<((v2.length:Int)));(i1<=xs.length->((v3=true->(ak v1 v2.length/\(O ((k+v1)+(1:Int))/\(O (v1+(1:Int))/\(∃ i2:Nat,(i2<=xs.length/\(xs.length - i2<xs.length - i1/\((True/\(((k+v1)+(1:Int))=(k+(i2:Int))/\((v1+(1:Int))=(i2:Int)/\True)))/\((v2.set i1 (k+v1))=(half v0 xs i2)/\True)))))))))/\(v3=false->((k+v1)=(k+(xs.length:Int))/\v2=v0))))))))) ?_⟩;intro (xs:List Int) (k:Int) (hp:0<=k/\k+(xs.length:Int)<=4611686018427387904) hk;have f0:=rW (eB k xs) xs;refine⟨⟨0,?_,⟨ae,?_,?_,ae⟩,?_,ae⟩,λ i1 _=>have CO:=Df (eB k xs) xs i1 (fR k xs);have pK:=j9 (eB k xs) xs i1 (fR k xs);have vX:=Dg (eB k xs) xs 0 i1 (fR k xs);have HN:=wX k xs i1 0;⟨λ _=>⟨?_,?_,?_,i1+1,?_,?_,⟨ae,?_,?_,ae⟩,?_,ae⟩,λ _=>⟨?_,?_⟩⟩⟩;all_goals try and_intros
 all_goals first|rfl|trivial|(simp only[b3v,b3u,ak,O,bS] at *;omega)|(simp only[b3v,b3u,ak,O] at *;first|omega|(rw[<-rW];done)|grind)|grind
def Bb:aL:=⟨sq,[.v (.slice (.int .i64))],λ (xs:List Int)=>⟨(some (xs.length<=1048576),[⟨(.slice (.int .i64)),xs⟩])⟩⟩
def P6(xs:List Int):Nat->az:=(cP 0 (.a (Nat) (λ k=>k<=xs.length) (λ k=>xs.length - k) [2,5,6,7] (λ k=>[(4, .aF ⟨(.int .i64),((k:Int):Int)⟩),(3, .row 7)]) [] (λ k=>[(7, .row a0M (.int .i64) (fill xs k 0:List Int))])) bI)
def Jt:aL.cS Bb:=by
 refine⟨ar lh,?_⟩;intro (xs:List Int) (hp:xs.length<=1048576);refine bX [] [] [] [] [] [] [] [] trivial trivial trivial trivial lh vZ (P6 xs) (let v0:=(xs.length:Int);((O v0->(bJ v0 v0 8/\((∃ k1:Nat,(k1<=xs.length/\((xs=xs/\(True/\((0:Int)=(k1:Int)/\True)))/\((List.replicate (Int.toNat v0) (0:Int))=(fill xs k1 0)/\True))))/\(∀ k1:Nat,let v1:=(k1:Int);(k1<=xs.length->(O v0->(((decide (v1<v0))=true->(ak v1 xs.length/\(O (xs.getD k1 (0:Int))->(ak v1 (fill xs k1 0).length/\(O (v1+(1:Int))/\(∃ k2:Nat,(k2<=xs.length/\(xs.length - k2<xs.length - k1/\((xs=xs/\(True/\((v1+(1:Int))=(k2:Int)/\True)))/\(((fill xs k1 0).set k1 (xs.getD k1 (0:Int)))=(fill xs k2 0)/\True))))))))))/\((decide (v1<v0))=false->(fill xs k1 0)=xs)))))))))) ?_;refine λ _=>⟨?_,⟨0,?_,⟨rfl,ae,?_,ae⟩,?_,ae⟩,λ k1 _=>have HO:=ff xs 0 k1;have HP:=iH xs 0 k1;have HQ:=fg xs 0 0 k1;λ _=>⟨λ _=>⟨?_,λ _=>⟨?_,?_,k1+1,?_,?_,⟨rfl,ae,?_,ae⟩,?_,ae⟩⟩,λ _=>?_⟩⟩;all_goals try and_intros
 all_goals first|rfl|trivial|omega|(simp only[b3v,b3u,ak,O,bS,cB,bJ,aY] at *;omega)|(simp[ak,O] at *;omega)|grind|exact lV xs _|(simp only[b3v,b3u] at *;first|exact fg _ _ _ _ (by omega)|exact ff _ _ _ (by omega)|(simp only[bJ];omega))
def mS(n:Nat):aL:=⟨me,[.v (.st .expr)],λ (x:J)=>⟨(some (cb x<n/\aB x<=1048576),[⟨(.st .expr),x⟩])⟩⟩
def Gr:aL:=⟨me,[.v (.st .expr)],λ (x:J)=>⟨(some (aB x<=1048576),[⟨(.st .expr),x⟩])⟩⟩
def lB(n:Nat):aL:=⟨kG,[.v (.slice (.st .expr))],λ (xs:List J)=>⟨(some (cb xs<n/\xs.length+aG aB xs<=1048576),[⟨(.slice (.st .expr)),xs⟩])⟩⟩
def DK:aL:=⟨kG,[.v (.slice (.st .expr))],λ (xs:List J)=>⟨(some (xs.length+aG aB xs<=1048576),[⟨(.slice (.st .expr)),xs⟩])⟩⟩
def Ud(x:J):Nat->az:=bI
def Sd(n:Nat)(hE:bD [])(hO:hJ [lB n])(hM:jF [])(hS:im []):aL.cS (mS (n+1)):=by
 refine⟨ar fm,?_⟩;intro (x:J) (hp:cb x<n+1/\aB x<=1048576);refine bX [] [lB n] [] [] [12] [] [] [1] hE hO hM hS fm Az (Ud x) ((O x.aq->(O x.aN->(x.M.length<=140737488355328->((cb x.M<n/\x.M.length+aG aB x.M<=1048576)/\(aI x)=x))))) ?_;rw[jO] at hp;have f0k:=dj x;refine λ _ _ _=>⟨?_,?_⟩;all_goals try and_intros
 all_goals try (first|with_reducible rfl|with_reducible assumption)
 all_goals try simp only[J.eta,ag.eta,au.eta,aJ,bm,bH] at *
 all_goals first|rfl|trivial|omega|(simp only[b3v,b3u,ak,O,bS,cB,bJ,aY] at *;omega)|(simp[ak,O] at *;omega)|grind
def RU(xs:List J):Nat->az:=(cP 0 (.a (Nat) (λ k=>k<=xs.length) (λ k=>xs.length - k) [2,5,6,7] (λ k=>[(4, .aF ⟨(.int .i64),((k:Int):Int)⟩),(3, .aw 7)]) [] (λ k=>[(7, .aw (.st .expr) (fill xs k zE:List J))])) bI)
def Ql(n:Nat)(hE:bD [])(hO:hJ [mS n])(hM:jF [])(hS:im []):aL.cS (lB (n+1)):=by
 refine⟨ar eK,?_⟩;intro (xs:List J) (hp:cb xs<n+1/\xs.length+aG aB xs<=1048576);refine bX [] [mS n] [] [] [7,20] [] [] [] hE hO hM hS eK xC (RU xs) (let v0:=(xs.length:Int);((O v0->(bJ v0 v0 40/\((∃ k1:Nat,(k1<=xs.length/\((xs=xs/\(True/\((0:Int)=(k1:Int)/\True)))/\((List.replicate (Int.toNat v0) zE)=(fill xs k1 zE)/\True))))/\(∀ k1:Nat,let v1:=(k1:Int);(k1<=xs.length->(O v0->(((decide (v1<v0))=true->(ak v1 xs.length/\((cb (xs.getD k1 zE)<n/\aB (xs.getD k1 zE)<=1048576)/\(ak v1 (fill xs k1 zE).length/\(O (v1+(1:Int))/\(∃ k2:Nat,(k2<=xs.length/\(xs.length - k2<xs.length - k1/\((xs=xs/\(True/\((v1+(1:Int))=(k2:Int)/\True)))/\(((fill xs k1 zE).set k1 (aI (xs.getD k1 zE)))=(fill xs k2 zE)/\True))))))))))/\((decide (v1<v0))=false->(fill xs k1 zE)=xs)))))))))) ?_;refine λ _=>⟨?_,⟨0,?_,⟨rfl,ae,?_,ae⟩,?_,ae⟩,λ k1 _=>have HO:=ff xs zE k1;have HP:=iH xs zE k1;have HQ:=fg xs zE zE k1;have Vh:=dK aB zE xs k1;have b1o:=b9 zE xs k1;λ _=>⟨λ _=>⟨?_,?_,?_,?_,k1+1,?_,?_,⟨rfl,ae,?_,ae⟩,?_,ae⟩,λ _=>?_⟩⟩;all_goals try and_intros
 all_goals try (first|with_reducible rfl|with_reducible assumption)
 all_goals try simp only[J.eta,ag.eta,au.eta,aJ,bm,bH] at *
 all_goals first|rfl|trivial|omega|(simp only[b3v,b3u,ak,O,bS,cB,bJ,aY] at *;omega)|(simp[ak,O] at *;omega)|grind|exact lV xs _|(simp only[b3v,b3u] at *;first|exact fg _ _ _ _ (by omega)|exact ff _ _ _ (by omega)|(simp only[bJ];omega))
def xm:∀ n,hJ [mS n,lB n]
 | 0=>⟨⟨ar fm,λ _ h=>absurd h.1 (b4q _)⟩,⟨ar eK,λ _ h=>absurd h.1 (b4q _)⟩,ae⟩
 | n+1=>by
  have ih:=xm n;exact⟨Sd n trivial ⟨ih.2.1,ae⟩ trivial trivial,Ql n trivial ⟨ih.1,ae⟩ trivial trivial,ae⟩
def NC:aL.cS Gr :=
 ⟨ar fm,λ x hp=>(xm (cb x+1)).1.2 x (⟨b4m _,hp⟩)⟩
def Lc:aL.cS DK :=
 ⟨ar eK,λ xs hp=>(xm (cb xs+1)).2.1.2 xs (⟨b4m _,hp⟩)⟩
mutual
def bh:J->Nat
 | ⟨_,_,ks⟩=>2+BJ ks
def BJ:List J->Nat
 | []=>0
 | x::xs=>bh x+BJ xs
end
def C0:∀ xs,BJ xs=aG bh xs
 | []=>rfl
 | x::xs=>by rw[BJ,aG,C0 xs]
def Vr(x:J):bh x=2+aG bh x.M:=by
 cases x;simp[bh,C0]
mutual
def RZ(k:Int):J->J
 | ⟨_,_,ks⟩=>⟨k,k+1,cX (k+2) ks⟩
def cX(k:Int):List J->List J
 | []=>[]
 | x::xs=>RZ k x::cX (k+(bh x:Int)) xs
end
def a8P(k:Int)(x:J):RZ k x=⟨k,k+1,cX (k+2) x.M⟩:=by cases x;rfl
def km:∀ (k:Int) (xs:List J),(cX k xs).length=xs.length
 | _,[]=>rfl
 | k,x::xs=>by simp[cX,km _ xs]
def Nz(z:J):∀ (k:Int) (xs:List J) (i:Nat),i<xs.length->(cX k xs).getD i z=RZ (k+(aG bh (xs.take i):Int)) (xs.getD i z)
 | k,[],i,h=>by simp at h
 | k,x::xs,0,h=>by simp[cX,aG]
 | k,x::xs,i+1,h=>by
  have:=Nz z (k+(bh x:Int)) xs i (by simpa using h);simp only[cX,List.getD_cons_succ,this,List.take_succ_cons,aG];congr 1;omega
def a1c:∀ xs:List J,xs.length<=aG bh xs
 | []=>by simp[aG]
 | x::xs=>by
  have:=a1c xs;have:=Vr x;simp only[aG,b3G];omega
def Sk{α:Type}(l:List α)(i:Nat)(y z:α)(h:i<l.length):(l.set i y).getD i z=y:=by
 simp[List.getD,h]
def a7x(k:Int)(xs:List J)(i:Nat)(z:J)(h:i<xs.length)(y1 y2 y3:J)(h3:y3=RZ (k+(aG bh (xs.take i):Int)) (xs.getD i z)) :
  (((half (cX k xs) xs i).set i y1).set i y2).set i y3=half (cX k xs) xs (i+1):=by
 rw[b6z,b6z,h3,<-Nz z k xs i h,Dg _ _ z i (km k xs) h]
def jf(n:Nat):MK:=⟨qt,⟨(.slice (.st .expr)),λ (xs:List J) (k:Int)=>(some (cb xs<n/\0<=k/\k+(aG bh xs:Int)<=4611686018427387904),cX k xs,k+(aG bh xs:Int))⟩⟩
def oP:MK:=⟨qt,⟨(.slice (.st .expr)),λ (xs:List J) (k:Int)=>(some (0<=k/\k+(aG bh xs:Int)<=4611686018427387904),cX k xs,k+(aG bh xs:Int))⟩⟩
def Nq(xs:List J)(k:Int):Nat->az:=(cP 0 (.a (Nat) (λ i=>i<=xs.length) (λ i=>xs.length - i) [4] (λ i=>[(5, .aF ⟨(.int .i64),((i:Int):Int)⟩),(1, .aF ⟨(.int .i64),(k+(aG bh (xs.take i):Int):Int)⟩),(0, .aw 50)]) [] (λ i=>[(50, .aw (.st .expr) (half (cX k xs) xs i:List J))])) bI)
def Lg(n:Nat)(hE:bD [])(hO:hJ [])(hM:jF [jf n])(hS:im []):MK.Good (jf (n+1)):=by
 refine⟨ar jT,tJ [] [] [jf n] [] [32] [] [] [] hE hO hM hS jT HY (λ xs k=>Nq xs k) (λ (xs:List J) (k:Int)=>(let v0:=cX k xs;let v1:=(1:Int);(((∃ i1:Nat,(i1<=xs.length/\((True/\(k=(k+(aG bh (xs.take i1):Int))/\((0:Int)=(i1:Int)/\True)))/\(xs=(half v0 xs i1)/\True))))/\(∀ i1:Nat,let v4:=k+(aG bh (xs.take i1):Int);let v5:=half v0 xs i1;let v3:=v5.set i1 (J.mk v4 (v5.getD i1 zE).aN (v5.getD i1 zE).M);let v2:=v3.set i1 (J.mk (v3.getD i1 zE).aq (v4+v1) (v3.getD i1 zE).M);let v6:=v2.getD i1 zE;let v7:=(v4+v1)+v1;let v8:=(i1:Int);let v9:=decide (v8<((v5.length:Int)));(i1<=xs.length->((v9=true->(ak v8 v5.length/\(O (v4+v1)/\(ak v8 v3.length/\(O v7/\(ak v8 v2.length/\((cb v6.M<n/\0<=v7/\v7+(aG bh v6.M:Int)<=4611686018427387904)/\(O (v8+v1)/\(∃ i2:Nat,(i2<=xs.length/\(xs.length - i2<xs.length - i1/\((True/\((v7+(aG bh v6.M:Int))=(k+(aG bh (xs.take i2):Int))/\((v8+v1)=(i2:Int)/\True)))/\((v2.set i1 (J.mk v6.aq v6.aN (cX v7 v6.M)))=(half v0 xs i2)/\True)))))))))))))/\(v9=false->(v4=(k+(aG bh xs:Int))/\v5=v0))))))))) ?_⟩;intro (xs:List J) (k:Int) (hp:cb xs<n+1/\0<=k/\k+(aG bh xs:Int)<=4611686018427387904) hk;have f0:=rW (cX k xs) xs;have f1:=ik bh xs;have f2:=a1c xs;refine⟨⟨0,?_,⟨ae,?_,?_,ae⟩,?_,ae⟩,λ i1 _=>have CO:=Df (cX k xs) xs i1 (km k xs);have pK:=j9 (cX k xs) xs i1 (km k xs);have vX:=yh (cX k xs) xs zE i1 (km k xs);have HN:=fj bh zE xs i1;have SA:=bY bh xs i1;have Vg:=bY bh xs (i1+1);have Yz:=gT bh xs i1;have YA:=Vr (xs.getD i1 zE);have YB:=b9 zE xs i1;have a0V:=dj (xs.getD i1 zE);have ZN:=a8P (k+(aG bh (xs.take i1):Int)) (xs.getD i1 zE);have ZO:=(λ (y:J) (h:i1<xs.length)=>Sk (half (cX k xs) xs i1) i1 y zE (by rw[j9 _ _ i1 (km k xs)];exact h));have b0i:=(λ (h:i1<xs.length) (y1 y2 y3:J)=>a7x k xs i1 zE h y1 y2 y3);⟨λ _=>⟨?_,?_,?_,?_,?_,?_,?_,i1+1,?_,?_,⟨ae,?_,?_,ae⟩,?_,ae⟩,λ _=>⟨?_,?_⟩⟩⟩;all_goals try and_intros
 all_goals first|rfl|trivial|omega|(simp only[b6z,b4Y,b3v,b3u,ak,O] at *;first|omega|(have hi:i2<xs.length:=by omega);simp only[ZO _ hi,vX hi];first|omega|(refine b0i hi (J.mk 0 0 []) (J.mk 0 0 []) _ ?_;rw[ZN,Int.add_assoc];rfl))|grind
def FD:∀ n,jF [jf n]
 | 0=>⟨⟨ar jT,λ _ _ _ _ _ h=>absurd (show cb _<0 from h.1) (b4q _)⟩,ae⟩
 | n+1=>by
  have ih:=FD n;exact⟨Lg n trivial trivial ⟨ih.1,ae⟩ trivial,ae⟩
def rf:MK.Good oP :=
 ⟨ar jT,λ (xs:List J) (k:Int) w v fp (hp:0<=k/\k+(aG bh xs:Int)<=4611686018427387904)=>(FD (cb xs+1)).1.2 xs k w v fp (show (cb xs<cb xs+1/\(0<=k/\k+(aG bh xs:Int)<=4611686018427387904)) from ⟨b4m _,hp⟩)⟩
def eY(k:Int):List Int->Bool
 | []=>true
 | x::xs=>decide (x=k)&&eY (k+1) xs
def Bu:∀ (k:Int) (xs:List Int),eY k xs=true↔∀ i,i<xs.length->xs.getD i 0=k+i
 | k,[]=>by simp[eY]
 | k,x::xs=>by
  simp only[eY,b3A,b3v,Bu (k+1) xs];constructor
  .rintro⟨h1,h2⟩ i hi;cases i with
   | zero=>simp[h1]
   | succ i=>have:=h2 i (by simpa using hi);simp at this ⊢;omega
  .intro h;refine⟨by have:=h 0 (by simp);simpa using this,λ i hi=>?_⟩;have:=h (i+1) (by simpa using hi);simp at this ⊢;omega
def a0x(k:Int)(xs:List Int)(i:Nat)(h:i<xs.length):eY k (xs.take (i+1))=(eY k (xs.take i)&&decide (xs.getD i 0=k+i)):=by
 induction xs generalizing k i with
 | nil=>simp at h
 | cons x xs ih =>
  cases i with
  | zero=>simp[eY]
  | succ i =>
   have:=ih (k+1) i (by simpa using h);simp only[List.take_succ_cons,eY,this,Bool.and_assoc,List.getD_cons_succ];congr 2;congr 1;simp only[eq_iff_iff];constructor<;>intro h<;>omega
def a1S(k:Int)(xs:List Int)(i:Nat)(h:i<xs.length)(e:xs.getD i 0≠k+i):eY k xs=false:=by
 cases hb:eY k xs with
 | false=>rfl
 | true=>exact absurd ((Bu k xs).1 hb i h) e
def a3z(k:Int)(xs:List Int):eY k (eB k xs)=true :=
 (Bu k _).2 λ i hi=>wX k xs i 0 (by rwa [fR] at hi)
def Iu(k:Int)(xs:List Int):Int:=bif eY k xs then k+(xs.length:Int) else -1
def yM:aL:=⟨y9,[.v (.slice (.int .i64)), .v (.int .i64)],λ (xs:List Int) (k:Int)=>⟨(some (0<=k/\k+(xs.length:Int)<=4611686018427387904),[⟨(.int .i64),Iu k xs⟩])⟩⟩
def No(xs:List Int)(k:Int):Nat->az:=(cP 0 (.b (Nat) (λ i=>i<=xs.length/\eY k (xs.take i)=true) (λ i=>xs.length - i) [] (λ i=>[(5, .aF ⟨(.int .i64),((i:Int):Int)⟩),(1, .aF ⟨(.int .i64),(k+(i:Int):Int)⟩)])) bI)
def Hh:aL.Good yM:=by
 refine⟨ar vR,?_⟩;intro (xs:List Int) (k:Int) (hp:0<=k/\k+(xs.length:Int)<=4611686018427387904);refine aV [] [] [] [] trivial vR G6 (No xs k) (let v0:=(xs.length:Int);(((∃ i1:Nat,((i1<=xs.length/\eY k (xs.take i1)=true)/\((xs=xs/\(k=(k+(i1:Int))/\((0:Int)=(i1:Int)/\True)))/\True)))/\(∀ i1:Nat,let v1:=(i1:Int);let v2 := !(decide ((xs.getD i1 (0:Int))=(k+v1)));((i1<=xs.length/\eY k (xs.take i1)=true)->(O v0->(((decide (v1<v0))=true->(ak v1 xs.length/\(O (xs.getD i1 (0:Int))->((v2=true->(-1:Int)=(Iu k xs))/\(v2=false->(O ((k+v1)+(1:Int))/\(O (v1+(1:Int))/\(∃ i2:Nat,((i2<=xs.length/\eY k (xs.take i2)=true)/\(xs.length - i2<xs.length - i1/\((xs=xs/\(((k+v1)+(1:Int))=(k+(i2:Int))/\((v1+(1:Int))=(i2:Int)/\True)))/\True)))))))))))/\((decide (v1<v0))=false->(k+v1)=(Iu k xs))))))))) ?_;have f0:eY k (xs.take 0)=true:=by simp[eY]
 have f1:∀ i,xs.length<=i->xs.take i=xs:=λ i h=>b3U h;refine⟨⟨0,?_,⟨rfl,?_,?_,ae⟩,ae⟩,λ i1 _=>have CO:=a0x k xs i1;have pK:=a1S k xs i1;have vX:=dU (λ _=>true) xs i1;λ _=>⟨λ _=>⟨?_,λ _=>⟨λ _=>?_,λ _=>⟨?_,?_,i1+1,?_,?_,⟨rfl,?_,?_,ae⟩,ae⟩⟩⟩,λ _=>?_⟩⟩;all_goals try and_intros
 all_goals try unfold Iu
 all_goals first|rfl|trivial|omega|(simp only[b3v,b3u,ak,O,b3I,b3Q] at *;first|omega|grind)
end
end Go.Proofs.YtmjfpcajohhbeaaGreatDoor

namespace Go.Proofs.YtmjfpcajohhbeaaGreatDoor
noncomputable section
def iJ{α:Type}(cI:α->Nat)(mk:Int->α->α)(k:Int):List α->List α
 | []=>[]
 | x::xs=>mk k x::iJ cI mk (k+(cI x:Int)) xs
def iK{α:Type}(cI:α->Nat)(mk:Int->α->α):∀ (k:Int) (xs:List α),(iJ cI mk k xs).length=xs.length
 | _,[]=>rfl
 | k,x::xs=>by simp[iJ,iK cI mk _ xs]
def RY{α:Type}(cI:α->Nat)(mk:Int->α->α)(z:α):∀ (k:Int) (xs:List α) (i:Nat),i<xs.length->(iJ cI mk k xs).getD i z=mk (k+(aG cI (xs.take i):Int)) (xs.getD i z)
 | k,[],i,h=>by simp at h
 | k,x::xs,0,h=>by simp[iJ,aG]
 | k,x::xs,i+1,h=>by
  have:=RY cI mk z (k+(cI x:Int)) xs i (by simpa using h);simp only[iJ,List.getD_cons_succ,this,List.take_succ_cons,aG];congr 1;omega
def Zd{α:Type}(cI:α->Nat)(mk:Int->α->α)(k:Int)(xs:List α)(i:Nat)(z:α)(h:i<xs.length)(y:α)(e:y=mk (k+(aG cI (xs.take i):Int)) (xs.getD i z)) :
  (half (iJ cI mk k xs) xs i).set i y=half (iJ cI mk k xs) xs (i+1):=by
 rw[e,<-RY cI mk z k xs i h,Dg _ _ z i (iK cI mk k xs) h]
def Q2{α:Type}(cI:α->Nat)(h:∀ x,1<=cI x):∀ xs:List α,xs.length<=aG cI xs
 | []=>by simp[aG]
 | x::xs=>by
  have:=Q2 cI h xs;have:=h x;simp only[aG,b3G];omega
end
end Go.Proofs.YtmjfpcajohhbeaaGreatDoor

set_option maxRecDepth 4000
set_option maxHeartbeats 4000000
namespace Go.Proofs.YtmjfpcajohhbeaaGreatDoor
noncomputable section
def tF:aL:=⟨nL,[.v (.st .proofStep)],λ (x:U)=>⟨(some (aX x<=1048576),[⟨(.st .proofStep),x⟩])⟩⟩
def IX(x:U):Nat->az:=bI
def Eh:aL.cS tF:=by
 refine⟨ar iy,?_⟩;intro (x:U) (hp:aX x<=1048576);refine bX [] [Bb,DK] [] [] [12,16,20] [] [] [1] trivial ⟨Jt,Lc,ae⟩ trivial trivial iy pL (IX x) ((O x.use->(x.path.length<=140737488355328->(x.path.length<=1048576/\(x.av.length<=140737488355328->(x.av.length+aG aB x.av<=1048576/\(x.bd.length<=140737488355328->(x.bd.length+aG aB x.bd<=1048576/\x=x)))))))) ?_;rw[gL] at hp;refine λ _ _=>⟨?_,λ _=>⟨?_,λ _=>⟨?_,rfl⟩⟩⟩;all_goals try and_intros
 all_goals first|rfl|trivial|omega|(simp only[b3v,b3u,ak,O,bS,cB,bJ,aY] at *;omega)|(simp[ak,O] at *;omega)|grind
def ra:aL:=⟨mg,[.v (.slice (.st .proofStep))],λ (xs:List U)=>⟨(some (xs.length+aG aX xs<=1048576),[⟨(.slice (.st .proofStep)),xs⟩])⟩⟩
def Hu(xs:List U):Nat->az:=(cP 0 (.a (Nat) (λ k=>k<=xs.length) (λ k=>xs.length - k) [2,5,6,7] (λ k=>[(4, .aF ⟨(.int .i64),((k:Int):Int)⟩),(3, .aw 7)]) [] (λ k=>[(7, .aw (.st .proofStep) (fill xs k (U.mk (0:Int) false [] [] []):List U))])) bI)
def Cb:aL.cS ra:=by
 refine⟨ar gU,?_⟩;intro (xs:List U) (hp:xs.length+aG aX xs<=1048576);refine bX [] [tF] [] [] [7,20] [] [] [] trivial ⟨Eh,ae⟩ trivial trivial gU pc (Hu xs) (let v0:=U.mk (0:Int) false [] [] [];let v1:=(xs.length:Int);((O v1->(bJ v1 v1 88/\((∃ k1:Nat,(k1<=xs.length/\((xs=xs/\(True/\((0:Int)=(k1:Int)/\True)))/\((List.replicate (Int.toNat v1) v0)=(fill xs k1 v0)/\True))))/\(∀ k1:Nat,let v2:=(k1:Int);(k1<=xs.length->(O v1->(((decide (v2<v1))=true->(ak v2 xs.length/\(aX (xs.getD k1 v0)<=1048576/\(ak v2 (fill xs k1 v0).length/\(O (v2+(1:Int))/\(∃ k2:Nat,(k2<=xs.length/\(xs.length - k2<xs.length - k1/\((xs=xs/\(True/\((v2+(1:Int))=(k2:Int)/\True)))/\(((fill xs k1 v0).set k1 (xs.getD k1 v0))=(fill xs k2 v0)/\True))))))))))/\((decide (v2<v1))=false->(fill xs k1 v0)=xs)))))))))) ?_;refine λ _=>⟨?_,⟨0,?_,⟨rfl,ae,?_,ae⟩,?_,ae⟩,λ k1 _=>have HO:=ff xs (U.mk (0:Int) false [] [] []) k1;have HP:=iH xs (U.mk (0:Int) false [] [] []) k1;have HQ:=fg xs (U.mk (0:Int) false [] [] []) (U.mk (0:Int) false [] [] []) k1;have Vh:=dK aX (U.mk (0:Int) false [] [] []) xs k1;λ _=>⟨λ _=>⟨?_,?_,?_,?_,k1+1,?_,?_,⟨rfl,ae,?_,ae⟩,?_,ae⟩,λ _=>?_⟩⟩;all_goals try and_intros
 all_goals first|rfl|trivial|omega|(simp only[b3v,b3u,ak,O,bS,cB,bJ,aY] at *;omega)|(simp[ak,O] at *;omega)|grind|exact lV xs _|(simp only[b3v,b3u] at *;first|exact fg _ _ _ _ (by omega)|exact ff _ _ _ (by omega)|(simp only[bJ];omega))
def DJ:aL:=⟨vC,[.v (.st .claim)],λ (x:ag)=>⟨(some (bz x<=1048576),[⟨(.st .claim),x⟩])⟩⟩
def RT(x:ag):Nat->az:=bI
def Lb:aL.cS DJ:=by
 refine⟨ar mw,?_⟩;intro (x:ag) (hp:bz x<=1048576);refine bX [] [Gr,ra] [] [] [6,10,20] [] [] [1] trivial ⟨NC,Cb,ae⟩ trivial trivial mw xB (RT x) ((aB x.left<=1048576/\(aB x.right<=1048576/\(O x.aH->(O x.ref->(x.steps.length<=140737488355328->(x.steps.length+aG aX x.steps<=1048576/\(kz x)=x))))))) ?_;rw[gB] at hp;refine⟨?_,?_,λ _ _ _=>⟨?_,?_⟩⟩;all_goals try and_intros
 all_goals try (first|with_reducible rfl|with_reducible assumption)
 all_goals try simp only[J.eta,ag.eta,au.eta,aJ,bm,bH] at *
 all_goals first|rfl|trivial|omega|(simp only[b3v,b3u,ak,O,bS,cB,bJ,aY] at *;omega)|(simp[ak,O] at *;omega)|grind
def Ba:aL:=⟨so,[.v (.slice (.st .claim))],λ (xs:List ag)=>⟨(some (xs.length+aG bz xs<=1048576),[⟨(.slice (.st .claim)),xs⟩])⟩⟩
def P5(xs:List ag):Nat->az:=(cP 0 (.a (Nat) (λ k=>k<=xs.length) (λ k=>xs.length - k) [2,5,6,7] (λ k=>[(4, .aF ⟨(.int .i64),((k:Int):Int)⟩),(3, .aw 7)]) [] (λ k=>[(7, .aw (.st .claim) (fill xs k (ag.mk zE zE (0:Int) (0:Int) []):List ag))])) bI)
def Js:aL.cS Ba:=by
 refine⟨ar lg,?_⟩;intro (xs:List ag) (hp:xs.length+aG bz xs<=1048576);refine bX [] [DJ] [] [] [7,20] [] [] [] trivial ⟨Lb,ae⟩ trivial trivial lg vY (P5 xs) (let v0:=ag.mk zE zE (0:Int) (0:Int) [];let v1:=(xs.length:Int);((O v1->(bJ v1 v1 120/\((∃ k1:Nat,(k1<=xs.length/\((xs=xs/\(True/\((0:Int)=(k1:Int)/\True)))/\((List.replicate (Int.toNat v1) v0)=(fill xs k1 v0)/\True))))/\(∀ k1:Nat,let v2:=(k1:Int);(k1<=xs.length->(O v1->(((decide (v2<v1))=true->(ak v2 xs.length/\(bz (xs.getD k1 v0)<=1048576/\(ak v2 (fill xs k1 v0).length/\(O (v2+(1:Int))/\(∃ k2:Nat,(k2<=xs.length/\(xs.length - k2<xs.length - k1/\((xs=xs/\(True/\((v2+(1:Int))=(k2:Int)/\True)))/\(((fill xs k1 v0).set k1 (kz (xs.getD k1 v0)))=(fill xs k2 v0)/\True))))))))))/\((decide (v2<v1))=false->(fill xs k1 v0)=xs)))))))))) ?_;refine λ _=>⟨?_,⟨0,?_,⟨rfl,ae,?_,ae⟩,?_,ae⟩,λ k1 _=>have HO:=ff xs (ag.mk zE zE (0:Int) (0:Int) []) k1;have HP:=iH xs (ag.mk zE zE (0:Int) (0:Int) []) k1;have HQ:=fg xs (ag.mk zE zE (0:Int) (0:Int) []) (ag.mk zE zE (0:Int) (0:Int) []) k1;have Vh:=dK bz (ag.mk zE zE (0:Int) (0:Int) []) xs k1;λ _=>⟨λ _=>⟨?_,?_,?_,?_,k1+1,?_,?_,⟨rfl,ae,?_,ae⟩,?_,ae⟩,λ _=>?_⟩⟩;all_goals try and_intros
 all_goals try (first|with_reducible rfl|with_reducible assumption)
 all_goals try simp only[J.eta,ag.eta,au.eta,aJ,bm,bH] at *
 all_goals first|rfl|trivial|omega|(simp only[b3v,b3u,ak,O,bS,cB,bJ,aY] at *;omega)|(simp[ak,O] at *;omega)|grind|exact lV xs _|(simp only[b3v,b3u] at *;first|exact fg _ _ _ _ (by omega)|exact ff _ _ _ (by omega)|(simp only[bJ];omega))
def DL:aL:=⟨vD,[.v (.st .proof)],λ (x:aj)=>⟨(some (bN x<=1048576),[⟨(.st .proof),x⟩])⟩⟩
def RV(x:aj):Nat->az:=bI
def Ld:aL.cS DL:=by
 refine⟨ar my,?_⟩;intro (x:aj) (hp:bN x<=1048576);refine bX [B2] [Ba] [] [] [10] [] [] [1] ⟨Dc,ae⟩ ⟨Js,ae⟩ trivial trivial my xD (RV x) ((x.af.length<=140737488355328->(x.af.length+aG bz x.af<=1048576/\x=x))) ?_;rw[fJ] at hp;refine λ _=>⟨?_,rfl⟩;all_goals try and_intros
 all_goals first|rfl|trivial|omega|(simp only[b3v,b3u,ak,O,bS,cB,bJ,aY] at *;omega)|(simp[ak,O] at *;omega)|grind
def aD(x:U):Nat:=2+x.path.length+aG bh x.av+aG bh x.bd
def ll(x:U):aD x=2+x.path.length+aG bh x.av+aG bh x.bd:=rfl
def bj(k:Int)(x:U):U:=⟨k,decide ((k+1).tmod 3=0),eB (k+1+1) x.path,cX (k+1+1+(x.path.length:Int)) x.av,cX (k+1+1+(x.path.length:Int)+(aG bh x.av:Int)) x.bd⟩
def R0(k:Int)(x:U):bj k x=⟨k,decide ((k+1).tmod 3=0),eB (k+1+1) x.path,cX (k+1+1+(x.path.length:Int)) x.av,cX (k+1+1+(x.path.length:Int)+(aG bh x.av:Int)) x.bd⟩:=rfl
def dc(k:Int)(xs:List U)(i:Nat):List U:=half (iJ aD bj k xs) xs i
def M7(k:Int)(xs:List U):xs=dc k xs 0:=rW _ _
def Px(k:Int)(xs:List U)(i:Nat)(h:xs.length<=i):dc k xs i=iJ aD bj k xs:=Df _ _ i (iK aD bj k xs) h
def AH(k:Int)(xs:List U)(i:Nat):(dc k xs i).length=xs.length:=j9 _ _ i (iK aD bj k xs)
def Py(k:Int)(xs:List U)(i:Nat)(z:U)(h:i<xs.length):(dc k xs i).getD i z=xs.getD i z:=yh _ _ z i (iK aD bj k xs) h
def Pz(k:Int)(xs:List U)(i:Nat)(z y:U)(h:i<xs.length):((dc k xs i).set i y).getD i z=y:=Sk _ i y z (by rw[AH];exact h)
def zu(k:Int)(x:U):U:=(U.mk (k) x.back x.path x.av x.bd)
def zw(k:Int)(x:U):U:=(U.mk (k) (decide ((k+1).tmod 3=0)) x.path x.av x.bd)
def zx(k:Int)(x:U):U:=(U.mk (k) (decide ((k+1).tmod 3=0)) (eB (k+1+1) x.path) x.av x.bd)
def zy(k:Int)(x:U):U:=(U.mk (k) (decide ((k+1).tmod 3=0)) (eB (k+1+1) x.path) (cX (k+1+1+(x.path.length:Int)) x.av) x.bd)
def zz(k:Int)(x:U):U:=(U.mk (k) (decide ((k+1).tmod 3=0)) (eB (k+1+1) x.path) (cX (k+1+1+(x.path.length:Int)) x.av) (cX (k+1+1+(x.path.length:Int)+(aG bh x.av:Int)) x.bd))
def QB(k:Int)(x:U):zz k x=bj k x:=(R0 k x).symm
def M6(k:Int)(xs:List U)(i:Nat)(z:U)(h:i<xs.length):(dc k xs i).set i (zz (k+(aG aD (xs.take i):Int)) (xs.getD i z))=dc k xs (i+1):=Zd aD bj k xs i z h _ (QB _ _)
def pt:MK:=⟨qu,⟨(.slice (.st .proofStep)),λ (xs:List U) (k:Int)=>(some (0<=k/\k+(aG aD xs:Int)<=4611686018427387904),iJ aD bj k xs,k+(aG aD xs:Int))⟩⟩
def DP(xs:List U)(k:Int):Nat->az:=(cP 0 (.mk (Nat) (λ i=>i<=xs.length) (λ i=>xs.length - i) [] [4] (λ i=>[(5, .aF ⟨(.int .i64),((i:Int):Int)⟩),(1, .aF ⟨(.int .i64),(k+(aG aD (xs.take i):Int):Int)⟩),(0, .aw 50)]) [] (λ i=>[(50, .aw (.st .proofStep) (dc k xs i:List U))]) [] [] (λ i=>(cP 100006 (.u (i<xs.length) [6,7,8,9,12,13,14,15,16] [(5, .aF ⟨(.int .i64),((i:Int):Int)⟩),(1, .aF ⟨(.int .i64),(k+(aG aD (xs.take i):Int)+1:Int)⟩),(0, .aw 50)] [] [(50, .aw (.st .proofStep) ((dc k xs i).set i (zu (k+(aG aD (xs.take i):Int)) (xs.getD i (U.mk (0:Int) false [] [] []))):List U))] (cP 100008 (.u (i<xs.length) [19,20,21,22,23,24,25] [(5, .aF ⟨(.int .i64),((i:Int):Int)⟩),(1, .aF ⟨(.int .i64),(k+(aG aD (xs.take i):Int)+1+1:Int)⟩),(0, .aw 50)] [] [(50, .aw (.st .proofStep) ((dc k xs i).set i (zw (k+(aG aD (xs.take i):Int)) (xs.getD i (U.mk (0:Int) false [] [] []))):List U))] (cP 100009 (.u (i<xs.length) [] [(5, .aF ⟨(.int .i64),((i:Int):Int)⟩),(1, .aF ⟨(.int .i64),(k+(aG aD (xs.take i):Int)+1+1+((xs.getD i (U.mk (0:Int) false [] [] [])).path.length:Int):Int)⟩),(0, .aw 50)] [] [(50, .aw (.st .proofStep) ((dc k xs i).set i (zx (k+(aG aD (xs.take i):Int)) (xs.getD i (U.mk (0:Int) false [] [] []))):List U))] (cP 100010 (.u (i<xs.length) [] [(5, .aF ⟨(.int .i64),((i:Int):Int)⟩),(1, .aF ⟨(.int .i64),(k+(aG aD (xs.take i):Int)+1+1+((xs.getD i (U.mk (0:Int) false [] [] [])).path.length:Int)+(aG bh (xs.getD i (U.mk (0:Int) false [] [] [])).av:Int):Int)⟩),(0, .aw 50)] [] [(50, .aw (.st .proofStep) ((dc k xs i).set i (zy (k+(aG aD (xs.take i):Int)) (xs.getD i (U.mk (0:Int) false [] [] []))):List U))] bI) bI)) bI)) bI)) bI))) bI)
def yS:MK.Good pt:=by
 refine⟨ar o6,tJ [] [] [wC,oP] [] [34,41,48] [] [] [] trivial trivial ⟨Fh,rf,ae⟩ trivial o6 zK (λ xs k=>DP xs k) (λ (xs:List U) (k:Int)=>(let v0:=U.mk (0:Int) false [] [] [];let v1:=(1:Int);(((∃ i1:Nat,(i1<=xs.length/\((True/\(k=(k+(aG aD (xs.take i1):Int))/\((0:Int)=(i1:Int)/\True)))/\(xs=(dc k xs i1)/\True))))/\(∀ i1:Nat,let v2:=(aG aD (xs.take i1):Int);let v3:=dc k xs i1;let v4:=xs.getD i1 v0;let v8:=k+v2+1+1+(v4.path.length:Int)+(aG bh v4.av:Int);let va:=k+v2+1+1+(v4.path.length:Int);let vb:=(i1:Int);let vf:=k+v2+1+1;let vg:=vb=vb/\True;let vh:=v3.getD i1 v0;let vj:=k+v2+1;let vk:=k+v2;let v5:=v3.set i1 (zw vk v4);let v6:=v3.set i1 (zx vk v4);let v7:=v3.set i1 (zy vk v4);let v9:=v3.set i1 (zu vk v4);let vc:=v5.getD i1 v0;let vd:=v6.getD i1 v0;let ve:=v7.getD i1 v0;let vi:=v9.getD i1 v0;let vl:=decide (vb<((v3.length:Int)));(i1<=xs.length->((vl=true->(ak vb v3.length/\((O (vk+v1)/\(∃ u2:Unit,(i1<xs.length/\((True/\((vk+v1)=vj/\vg))/\((v3.set i1 (U.mk vk vh.back vh.path vh.av vh.bd))=v9/\True)))))/\(∀ u2:Unit,(i1<xs.length->(((3:Int)≠(0:Int)/\O (vj.tmod (3:Int)))/\(ak vb v9.length/\((O (vj+v1)/\(∃ u3:Unit,(i1<xs.length/\((True/\((vj+v1)=vf/\vg))/\((v9.set i1 (U.mk vi.use (decide ((vj.tmod (3:Int))=(0:Int))) vi.path vi.av vi.bd))=v5/\True)))))/\(∀ u3:Unit,(i1<xs.length->((ak vb v5.length/\((0<=vf/\vf+(vc.path.length:Int)<=4611686018427387904)/\(∃ u4:Unit,(i1<xs.length/\((True/\((vf+(vc.path.length:Int))=va/\vg))/\((v5.set i1 (U.mk vc.use vc.back (eB vf vc.path) vc.av vc.bd))=v6/\True))))))/\(∀ u4:Unit,(i1<xs.length->((ak vb v6.length/\((0<=va/\va+(aG bh vd.av:Int)<=4611686018427387904)/\(∃ u5:Unit,(i1<xs.length/\((True/\((va+(aG bh vd.av:Int))=v8/\vg))/\((v6.set i1 (U.mk vd.use vd.back vd.path (cX va vd.av) vd.bd))=v7/\True))))))/\(∀ u5:Unit,(i1<xs.length->(ak vb v7.length/\((0<=v8/\v8+(aG bh ve.bd:Int)<=4611686018427387904)/\(O (vb+v1)/\(∃ i6:Nat,(i6<=xs.length/\(xs.length - i6<xs.length - i1/\((True/\((v8+(aG bh ve.bd:Int))=(k+(aG aD (xs.take i6):Int))/\((vb+v1)=(i6:Int)/\True)))/\((v7.set i1 (U.mk ve.use ve.back ve.path ve.av (cX v8 ve.bd)))=(dc k xs i6)/\True))))))))))))))))))))))))/\(vl=false->(vk=(k+(aG aD xs:Int))/\v3=(iJ aD bj k xs)))))))))) ?_⟩;intro (xs:List U) (k:Int) (hp:0<=k/\k+(aG aD xs:Int)<=4611686018427387904) hk;have f0:=M7 k xs;have f1:=ik aD xs;have f2:=Q2 aD (λ x=>by rw[ll];omega) xs;refine⟨⟨0,?_,⟨ae,?_,?_,ae⟩,?_,ae⟩,λ i1 _=>have CO:=Px k xs i1;have pK:=Pz k xs i1 (U.mk (0:Int) false [] [] []);have vX:=Py k xs i1 (U.mk (0:Int) false [] [] []);have HN:=M6 k xs i1 (U.mk (0:Int) false [] [] []);have SA:=AH k xs i1;have Vg:=fj aD (U.mk (0:Int) false [] [] []) xs i1;have Yz:=bY aD xs i1;have YA:=bY aD xs (i1+1);have YB:=gT aD xs i1;have a0V:=ll (xs.getD i1 (U.mk (0:Int) false [] [] []));⟨λ _=>⟨?_,⟨?_,(),?_,⟨ae,?_,rfl,ae⟩,?_,ae⟩,λ u2 _=>⟨⟨?_,?_⟩,?_,⟨?_,(),?_,⟨ae,?_,rfl,ae⟩,?_,ae⟩,λ u3 _=>⟨⟨?_,?_,(),?_,⟨ae,?_,rfl,ae⟩,?_,ae⟩,λ u4 _=>⟨⟨?_,?_,(),?_,⟨ae,?_,rfl,ae⟩,?_,ae⟩,λ u5 _=>⟨?_,?_,?_,i1+1,?_,?_,⟨ae,?_,?_,ae⟩,?_,ae⟩⟩⟩⟩⟩,λ _=>⟨?_,?_⟩⟩⟩;all_goals try and_intros
 all_goals first|rfl|trivial|omega|(simp only[b6z,b4Y,b3v,b3u,ak,O] at *;first|omega|exact CO (by omega)|(simp only[pK _ (by omega)];rfl)|(simp only[pK _ (by omega),vX (by omega)];first|done|omega|rfl)|(simp only[vX (by omega)];first|done|omega|rfl)|(simp only[pK _ (by omega)];first|omega|exact HN (by omega))|(simp only[pK _ (by omega),zu,zw,zx,zy,zz];first|done|omega)|grind)
def aE(x:ag):Nat:=6+aG bh x.left.M+aG bh x.right.M+aG aD x.steps
def sJ(x:ag):aE x=6+aG bh x.left.M+aG bh x.right.M+aG aD x.steps:=rfl
def bG(k:Int)(x:ag):ag:=⟨⟨k,k+1,cX (k+1+1) x.left.M⟩,⟨k+1+1+(aG bh x.left.M:Int),k+1+1+(aG bh x.left.M:Int)+1,cX (k+1+1+(aG bh x.left.M:Int)+1+1) x.right.M⟩,k+1+1+(aG bh x.left.M:Int)+1+1+(aG bh x.right.M:Int),k+1+1+(aG bh x.left.M:Int)+1+1+(aG bh x.right.M:Int)+1,iJ aD bj (k+1+1+(aG bh x.left.M:Int)+1+1+(aG bh x.right.M:Int)+1+1) x.steps⟩
def a0q(k:Int)(x:ag):bG k x=⟨⟨k,k+1,cX (k+1+1) x.left.M⟩,⟨k+1+1+(aG bh x.left.M:Int),k+1+1+(aG bh x.left.M:Int)+1,cX (k+1+1+(aG bh x.left.M:Int)+1+1) x.right.M⟩,k+1+1+(aG bh x.left.M:Int)+1+1+(aG bh x.right.M:Int),k+1+1+(aG bh x.left.M:Int)+1+1+(aG bh x.right.M:Int)+1,iJ aD bj (k+1+1+(aG bh x.left.M:Int)+1+1+(aG bh x.right.M:Int)+1+1) x.steps⟩:=rfl
def dW(k:Int)(xs:List ag)(i:Nat):List ag:=half (iJ aE bG k xs) xs i
def V0(k:Int)(xs:List ag):xs=dW k xs 0:=rW _ _
def XS(k:Int)(xs:List ag)(i:Nat)(h:xs.length<=i):dW k xs i=iJ aE bG k xs:=Df _ _ i (iK aE bG k xs) h
def Ly(k:Int)(xs:List ag)(i:Nat):(dW k xs i).length=xs.length:=j9 _ _ i (iK aE bG k xs)
def XT(k:Int)(xs:List ag)(i:Nat)(z:ag)(h:i<xs.length):(dW k xs i).getD i z=xs.getD i z:=yh _ _ z i (iK aE bG k xs) h
def XU(k:Int)(xs:List ag)(i:Nat)(z y:ag)(h:i<xs.length):((dW k xs i).set i y).getD i z=y:=Sk _ i y z (by rw[Ly];exact h)
def NX(k:Int)(x:ag):ag:=(ag.mk (J.mk (k) x.left.aN x.left.M) x.right x.aH x.ref x.steps)
def NY(k:Int)(x:ag):ag:=(ag.mk (J.mk (k) (k+1) x.left.M) x.right x.aH x.ref x.steps)
def NZ(k:Int)(x:ag):ag:=(ag.mk (J.mk (k) (k+1) (cX (k+1+1) x.left.M)) x.right x.aH x.ref x.steps)
def N0(k:Int)(x:ag):ag:=(ag.mk (J.mk (k) (k+1) (cX (k+1+1) x.left.M)) (J.mk (k+1+1+(aG bh x.left.M:Int)) x.right.aN x.right.M) x.aH x.ref x.steps)
def N1(k:Int)(x:ag):ag:=(ag.mk (J.mk (k) (k+1) (cX (k+1+1) x.left.M)) (J.mk (k+1+1+(aG bh x.left.M:Int)) (k+1+1+(aG bh x.left.M:Int)+1) x.right.M) x.aH x.ref x.steps)
def N2(k:Int)(x:ag):ag:=(ag.mk (J.mk (k) (k+1) (cX (k+1+1) x.left.M)) (J.mk (k+1+1+(aG bh x.left.M:Int)) (k+1+1+(aG bh x.left.M:Int)+1) (cX (k+1+1+(aG bh x.left.M:Int)+1+1) x.right.M)) x.aH x.ref x.steps)
def N3(k:Int)(x:ag):ag:=(ag.mk (J.mk (k) (k+1) (cX (k+1+1) x.left.M)) (J.mk (k+1+1+(aG bh x.left.M:Int)) (k+1+1+(aG bh x.left.M:Int)+1) (cX (k+1+1+(aG bh x.left.M:Int)+1+1) x.right.M)) (k+1+1+(aG bh x.left.M:Int)+1+1+(aG bh x.right.M:Int)) x.ref x.steps)
def N4(k:Int)(x:ag):ag:=(ag.mk (J.mk (k) (k+1) (cX (k+1+1) x.left.M)) (J.mk (k+1+1+(aG bh x.left.M:Int)) (k+1+1+(aG bh x.left.M:Int)+1) (cX (k+1+1+(aG bh x.left.M:Int)+1+1) x.right.M)) (k+1+1+(aG bh x.left.M:Int)+1+1+(aG bh x.right.M:Int)) (k+1+1+(aG bh x.left.M:Int)+1+1+(aG bh x.right.M:Int)+1) x.steps)
def N5(k:Int)(x:ag):ag:=(ag.mk (J.mk (k) (k+1) (cX (k+1+1) x.left.M)) (J.mk (k+1+1+(aG bh x.left.M:Int)) (k+1+1+(aG bh x.left.M:Int)+1) (cX (k+1+1+(aG bh x.left.M:Int)+1+1) x.right.M)) (k+1+1+(aG bh x.left.M:Int)+1+1+(aG bh x.right.M:Int)) (k+1+1+(aG bh x.left.M:Int)+1+1+(aG bh x.right.M:Int)+1) (iJ aD bj (k+1+1+(aG bh x.left.M:Int)+1+1+(aG bh x.right.M:Int)+1+1) x.steps))
def Yk(k:Int)(x:ag):N5 k x=bG k x:=(a0q k x).symm
def VZ(k:Int)(xs:List ag)(i:Nat)(z:ag)(h:i<xs.length):(dW k xs i).set i (N5 (k+(aG aE (xs.take i):Int)) (xs.getD i z))=dW k xs (i+1):=Zd aE bG k xs i z h _ (Yk _ _)
def wB:MK:=⟨zb,⟨(.slice (.st .claim)),λ (xs:List ag) (k:Int)=>(some (0<=k/\k+(aG aE xs:Int)<=4611686018427387904),iJ aE bG k xs,k+(aG aE xs:Int))⟩⟩
def K4(xs:List ag)(k:Int):Nat->az:=(cP 0 (.mk (Nat) (λ i=>i<=xs.length) (λ i=>xs.length - i) [] [4] (λ i=>[(5, .aF ⟨(.int .i64),((i:Int):Int)⟩),(1, .aF ⟨(.int .i64),(k+(aG aE (xs.take i):Int):Int)⟩),(0, .aw 50)]) [] (λ i=>[(50, .aw (.st .claim) (dW k xs i:List ag))]) [] [] (λ i=>(cP 100006 (.u (i<xs.length) [6,7,8,9,12,13,14,15,16,17] [(5, .aF ⟨(.int .i64),((i:Int):Int)⟩),(1, .aF ⟨(.int .i64),(k+(aG aE (xs.take i):Int)+1:Int)⟩),(0, .aw 50)] [] [(50, .aw (.st .claim) ((dW k xs i).set i (NX (k+(aG aE (xs.take i):Int)) (xs.getD i (ag.mk zE zE (0:Int) (0:Int) []))):List ag))] (cP 100008 (.u (i<xs.length) [20,21,22,23,24,25] [(5, .aF ⟨(.int .i64),((i:Int):Int)⟩),(1, .aF ⟨(.int .i64),(k+(aG aE (xs.take i):Int)+1+1:Int)⟩),(0, .aw 50)] [] [(50, .aw (.st .claim) ((dW k xs i).set i (NY (k+(aG aE (xs.take i):Int)) (xs.getD i (ag.mk zE zE (0:Int) (0:Int) []))):List ag))] (cP 100009 (.u (i<xs.length) [] [(5, .aF ⟨(.int .i64),((i:Int):Int)⟩),(1, .aF ⟨(.int .i64),(k+(aG aE (xs.take i):Int)+1+1+(aG bh (xs.getD i (ag.mk zE zE (0:Int) (0:Int) [])).left.M:Int):Int)⟩),(0, .aw 50)] [] [(50, .aw (.st .claim) ((dW k xs i).set i (NZ (k+(aG aE (xs.take i):Int)) (xs.getD i (ag.mk zE zE (0:Int) (0:Int) []))):List ag))] (cP 100011 (.u (i<xs.length) [36,37,38,39,40,41] [(5, .aF ⟨(.int .i64),((i:Int):Int)⟩),(1, .aF ⟨(.int .i64),(k+(aG aE (xs.take i):Int)+1+1+(aG bh (xs.getD i (ag.mk zE zE (0:Int) (0:Int) [])).left.M:Int)+1:Int)⟩),(0, .aw 50)] [] [(50, .aw (.st .claim) ((dW k xs i).set i (N0 (k+(aG aE (xs.take i):Int)) (xs.getD i (ag.mk zE zE (0:Int) (0:Int) []))):List ag))] (cP 100013 (.u (i<xs.length) [44,45,46,47,48,49] [(5, .aF ⟨(.int .i64),((i:Int):Int)⟩),(1, .aF ⟨(.int .i64),(k+(aG aE (xs.take i):Int)+1+1+(aG bh (xs.getD i (ag.mk zE zE (0:Int) (0:Int) [])).left.M:Int)+1+1:Int)⟩),(0, .aw 50)] [] [(50, .aw (.st .claim) ((dW k xs i).set i (N1 (k+(aG aE (xs.take i):Int)) (xs.getD i (ag.mk zE zE (0:Int) (0:Int) []))):List ag))] (cP 100014 (.u (i<xs.length) [] [(5, .aF ⟨(.int .i64),((i:Int):Int)⟩),(1, .aF ⟨(.int .i64),(k+(aG aE (xs.take i):Int)+1+1+(aG bh (xs.getD i (ag.mk zE zE (0:Int) (0:Int) [])).left.M:Int)+1+1+(aG bh (xs.getD i (ag.mk zE zE (0:Int) (0:Int) [])).right.M:Int):Int)⟩),(0, .aw 50)] [] [(50, .aw (.st .claim) ((dW k xs i).set i (N2 (k+(aG aE (xs.take i):Int)) (xs.getD i (ag.mk zE zE (0:Int) (0:Int) []))):List ag))] (cP 100016 (.u (i<xs.length) [60,61,62,63,64] [(5, .aF ⟨(.int .i64),((i:Int):Int)⟩),(1, .aF ⟨(.int .i64),(k+(aG aE (xs.take i):Int)+1+1+(aG bh (xs.getD i (ag.mk zE zE (0:Int) (0:Int) [])).left.M:Int)+1+1+(aG bh (xs.getD i (ag.mk zE zE (0:Int) (0:Int) [])).right.M:Int)+1:Int)⟩),(0, .aw 50)] [] [(50, .aw (.st .claim) ((dW k xs i).set i (N3 (k+(aG aE (xs.take i):Int)) (xs.getD i (ag.mk zE zE (0:Int) (0:Int) []))):List ag))] (cP 100018 (.u (i<xs.length) [67,68,69,70,71] [(5, .aF ⟨(.int .i64),((i:Int):Int)⟩),(1, .aF ⟨(.int .i64),(k+(aG aE (xs.take i):Int)+1+1+(aG bh (xs.getD i (ag.mk zE zE (0:Int) (0:Int) [])).left.M:Int)+1+1+(aG bh (xs.getD i (ag.mk zE zE (0:Int) (0:Int) [])).right.M:Int)+1+1:Int)⟩),(0, .aw 50)] [] [(50, .aw (.st .claim) ((dW k xs i).set i (N4 (k+(aG aE (xs.take i):Int)) (xs.getD i (ag.mk zE zE (0:Int) (0:Int) []))):List ag))] bI) bI)) bI)) bI)) bI)) bI)) bI)) bI)) bI))) bI)
def Fg:MK.Good wB:=by
 refine⟨ar vS,tJ [] [] [oP,pt] [] [35,59,80] [] [] [] trivial trivial ⟨rf,yS,ae⟩ trivial vS G7 (λ xs k=>K4 xs k) (λ (xs:List ag) (k:Int)=>(let v0:=ag.mk zE zE (0:Int) (0:Int) [];let v1:=(1:Int);(((∃ i1:Nat,(i1<=xs.length/\((True/\(k=(k+(aG aE (xs.take i1):Int))/\((0:Int)=(i1:Int)/\True)))/\(xs=(dW k xs i1)/\True))))/\(∀ i1:Nat,let v2:=(aG aE (xs.take i1):Int);let v3:=xs.getD i1 v0;let v4:=dW k xs i1;let v5:=(aG bh v3.left.M:Int);let v6:=k+v2;let v7:=(aG bh v3.right.M:Int);let vc:=v4.set i1 (NX v6 v3);let vd:=v4.set i1 (NZ v6 v3);let ve:=v4.set i1 (N0 v6 v3);let vf:=k+v2+1+1+v5+1+1+v7+1+1;let vg:=v4.set i1 (N2 v6 v3);let vh:=v4.set i1 (N3 v6 v3);let vi:=k+v2+1+1+v5+1+1+v7+1;let vj:=k+v2+1+1+v5+1+1;let vk:=(i1:Int);let vb:=vk=vk/\True;let vl:=k+v2+1+1+v5+1+1+v7;let vm:=v4.set i1 (NY v6 v3);let v8:=vm.getD i1 v0;let vn:=v4.set i1 (N1 v6 v3);let v9:=vn.getD i1 v0;let vo:=v4.set i1 (N4 v6 v3);let va:=vo.getD i1 v0;let vp:=k+v2+1+1+v5+1;let vq:=v4.getD i1 v0;let vr:=vc.getD i1 v0;let vs:=vd.getD i1 v0;let vt:=ve.getD i1 v0;let vu:=k+v2+1+1+v5;let vv:=k+v2+1+1;let vw:=vg.getD i1 v0;let vx:=vh.getD i1 v0;let vy:=decide (vk<((v4.length:Int)));let vz:=(aG aD va.steps:Int);(i1<=xs.length->((vy=true->(ak vk v4.length/\((O (v6+v1)/\(∃ u2:Unit,(i1<xs.length/\((True/\((v6+v1)=(k+v2+1)/\vb))/\((v4.set i1 (ag.mk (J.mk v6 vq.left.aN vq.left.M) (aI vq.right) vq.aH vq.ref vq.steps))=vc/\True)))))/\(∀ u2:Unit,(i1<xs.length->(ak vk vc.length/\((O ((k+v2+1)+v1)/\(∃ u3:Unit,(i1<xs.length/\((True/\(((k+v2+1)+v1)=vv/\vb))/\((vc.set i1 (ag.mk (J.mk vr.left.aq (k+v2+1) vr.left.M) (aI vr.right) vr.aH vr.ref vr.steps))=vm/\True)))))/\(∀ u3:Unit,(i1<xs.length->((ak vk vm.length/\((0<=vv/\vv+(aG bh v8.left.M:Int)<=4611686018427387904)/\(∃ u4:Unit,(i1<xs.length/\((True/\((vv+(aG bh v8.left.M:Int))=vu/\vb))/\((vm.set i1 (ag.mk (J.mk v8.left.aq v8.left.aN (cX vv v8.left.M)) (aI v8.right) v8.aH v8.ref v8.steps))=vd/\True))))))/\(∀ u4:Unit,(i1<xs.length->(ak vk vd.length/\((O (vu+v1)/\(∃ u5:Unit,(i1<xs.length/\((True/\((vu+v1)=vp/\vb))/\((vd.set i1 (ag.mk (aI vs.left) (J.mk vu vs.right.aN vs.right.M) vs.aH vs.ref vs.steps))=ve/\True)))))/\(∀ u5:Unit,(i1<xs.length->(ak vk ve.length/\((O (vp+v1)/\(∃ u6:Unit,(i1<xs.length/\((True/\((vp+v1)=vj/\vb))/\((ve.set i1 (ag.mk (aI vt.left) (J.mk vt.right.aq vp vt.right.M) vt.aH vt.ref vt.steps))=vn/\True)))))/\(∀ u6:Unit,(i1<xs.length->((ak vk vn.length/\((0<=vj/\vj+(aG bh v9.right.M:Int)<=4611686018427387904)/\(∃ u7:Unit,(i1<xs.length/\((True/\((vj+(aG bh v9.right.M:Int))=vl/\vb))/\((vn.set i1 (ag.mk (aI v9.left) (J.mk v9.right.aq v9.right.aN (cX vj v9.right.M)) v9.aH v9.ref v9.steps))=vg/\True))))))/\(∀ u7:Unit,(i1<xs.length->(ak vk vg.length/\((O (vl+v1)/\(∃ u8:Unit,(i1<xs.length/\((True/\((vl+v1)=vi/\vb))/\((vg.set i1 (ag.mk (aI vw.left) (aI vw.right) vl vw.ref vw.steps))=vh/\True)))))/\(∀ u8:Unit,(i1<xs.length->(ak vk vh.length/\((O (vi+v1)/\(∃ u9:Unit,(i1<xs.length/\((True/\((vi+v1)=vf/\vb))/\((vh.set i1 (ag.mk (aI vx.left) (aI vx.right) vx.aH vi vx.steps))=vo/\True)))))/\(∀ u9:Unit,(i1<xs.length->(ak vk vo.length/\((0<=vf/\vf+vz<=4611686018427387904)/\(O (vk+v1)/\(∃ i10:Nat,(i10<=xs.length/\(xs.length - i10<xs.length - i1/\((True/\((vf+vz)=(k+(aG aE (xs.take i10):Int))/\((vk+v1)=(i10:Int)/\True)))/\((vo.set i1 (ag.mk (aI va.left) (aI va.right) va.aH va.ref (iJ aD bj vf va.steps)))=(dW k xs i10)/\True)))))))))))))))))))))))))))))))))))))))/\(vy=false->(v6=(k+(aG aE xs:Int))/\v4=(iJ aE bG k xs)))))))))) ?_⟩;intro (xs:List ag) (k:Int) (hp:0<=k/\k+(aG aE xs:Int)<=4611686018427387904) hk;have f0:=V0 k xs;have f1:=ik aE xs;have f2:=Q2 aE (λ x=>by rw[sJ];omega) xs;refine⟨⟨0,?_,⟨ae,?_,?_,ae⟩,?_,ae⟩,λ i1 _=>have CO:=XS k xs i1;have pK:=XU k xs i1 (ag.mk zE zE (0:Int) (0:Int) []);have vX:=XT k xs i1 (ag.mk zE zE (0:Int) (0:Int) []);have HN:=VZ k xs i1 (ag.mk zE zE (0:Int) (0:Int) []);have SA:=Ly k xs i1;have Vg:=fj aE (ag.mk zE zE (0:Int) (0:Int) []) xs i1;have Yz:=bY aE xs i1;have YA:=bY aE xs (i1+1);have YB:=gT aE xs i1;have a0V:=sJ (xs.getD i1 (ag.mk zE zE (0:Int) (0:Int) []));⟨λ _=>⟨?_,⟨?_,(),?_,⟨ae,?_,rfl,ae⟩,?_,ae⟩,λ u2 _=>⟨?_,⟨?_,(),?_,⟨ae,?_,rfl,ae⟩,?_,ae⟩,λ u3 _=>⟨⟨?_,?_,(),?_,⟨ae,?_,rfl,ae⟩,?_,ae⟩,λ u4 _=>⟨?_,⟨?_,(),?_,⟨ae,?_,rfl,ae⟩,?_,ae⟩,λ u5 _=>⟨?_,⟨?_,(),?_,⟨ae,?_,rfl,ae⟩,?_,ae⟩,λ u6 _=>⟨⟨?_,?_,(),?_,⟨ae,?_,rfl,ae⟩,?_,ae⟩,λ u7 _=>⟨?_,⟨?_,(),?_,⟨ae,?_,rfl,ae⟩,?_,ae⟩,λ u8 _=>⟨?_,⟨?_,(),?_,⟨ae,?_,rfl,ae⟩,?_,ae⟩,λ u9 _=>⟨?_,?_,?_,i1+1,?_,?_,⟨ae,?_,?_,ae⟩,?_,ae⟩⟩⟩⟩⟩⟩⟩⟩⟩,λ _=>⟨?_,?_⟩⟩⟩;all_goals try and_intros
 all_goals try (first|with_reducible rfl|with_reducible assumption)
 all_goals try simp only[J.eta,ag.eta,au.eta,aJ,bm,bH] at *
 all_goals first|rfl|trivial|omega|(simp only[b6z,b4Y,b3v,b3u,ak,O] at *;first|omega|exact CO (by omega)|(simp only[pK _ (by omega)];rfl)|(simp only[pK _ (by omega),vX (by omega)];first|done|omega|rfl)|(simp only[vX (by omega)];first|done|omega|rfl)|(simp only[pK _ (by omega)];first|omega|exact HN (by omega))|(simp only[pK _ (by omega),NX,NY,NZ,N0,N1,N2,N3,N4,N5];first|done|omega)|grind)
def yT:MK:=⟨Bo,⟨(.st .proof),λ (x:aj) (k:Int)=>(some (0<=k/\k+(aG aE x.af:Int)<=4611686018427387904),(aj.mk x.sig (iJ aE bG k x.af)),k+(aG aE x.af:Int))⟩⟩
def Nr(x:aj)(k:Int):Nat->az:=bI
def Hw:MK.Good yT:=by
 refine⟨ar xw,tJ [] [] [wB] [] [8] [] [] [] trivial trivial ⟨Fg,ae⟩ trivial xw HZ (λ x k=>Nr x k) (λ (x:aj) (k:Int)=>(let v0:=(aG aE x.af:Int);let v1:=aj.mk x.sig (iJ aE bG k x.af);(((0<=k/\k+v0<=4611686018427387904)/\((k+v0)=(k+v0)/\v1=v1))))) ?_⟩;intro (x:aj) (k:Int) (hp:0<=k/\k+(aG aE x.af:Int)<=4611686018427387904) hk;refine⟨?_,⟨rfl,rfl⟩⟩;all_goals try and_intros
 all_goals first|rfl|trivial|omega|(simp only[b3v,b3u,ak,O,bS,cB,bJ,aY] at *;omega)|(simp[ak,O] at *;omega)|grind
end
end Go.Proofs.YtmjfpcajohhbeaaGreatDoor

set_option maxRecDepth 4000
set_option maxHeartbeats 4000000
namespace Go.Proofs.YtmjfpcajohhbeaaGreatDoor
noncomputable section
mutual
def a1b:∀ (k:Int) (x:J),bh (RZ k x)=bh x
 | k,⟨a,b,ks⟩=>by
  have:=Q1 (k+2) ks;simp only[RZ,bh,this]
def Q1:∀ (k:Int) (xs:List J),BJ (cX k xs)=BJ xs
 | _,[]=>rfl
 | k,x::xs=>by
  have h1:=a1b k x;have h2:=Q1 (k+(bh x:Int)) xs;simp only[cX,BJ,h1,h2]
end
mutual
def a8Q:∀ (k:Int) (x:J),RZ k (RZ k x)=RZ k x
 | k,⟨a,b,ks⟩=>by
  have:=Qa (k+2) ks;simp only[RZ,this]
def Qa:∀ (k:Int) (xs:List J),cX k (cX k xs)=cX k xs
 | _,[]=>rfl
 | k,x::xs=>by
  have h1:=a8Q k x;have h2:=a1b k x;have h3:=Qa (k+(bh x:Int)) xs;simp only[cX,h1,h2,h3]
end
def jA(k:Int)(xs:List J):Bool:=bF (cX k xs) xs
def qa(k:Int)(xs:List J):Int:=bif jA k xs then k+(aG bh xs:Int) else -1
def rY(k:Int)(xs:List J):(jA k xs=true/\qa k xs=k+(aG bh xs:Int))\/(jA k xs=false/\qa k xs = -1):=by
 unfold qa;cases jA k xs<;>simp
def WT(z:J):∀ (k:Int) (xs:List J) (i:Nat),i<xs.length->cX k (xs.take (i+1))=cX k (xs.take i)++[RZ (k+(aG bh (xs.take i):Int)) (xs.getD i z)]
 | k,[],i,h=>by simp at h
 | k,x::xs,0,h=>by simp[cX,aG]
 | k,x::xs,i+1,h=>by
  have:=WT z (k+(bh x:Int)) xs i (by simpa using h);simp only[List.take_succ_cons,cX,this,List.getD_cons_succ,aG,List.cons_append];congr 4;omega
def okX(k:Int)(x:J):Bool:=decide (x.aq=k)&&decide (x.aN=k+1)&&jA (k+2) x.M
def a1U(k:Int)(x:J):okX k x=true↔RZ k x=x:=by
 cases x;simp[okX,jA,RZ];constructor
 .rintro⟨⟨h1,h2⟩,h3⟩;exact⟨h1.symm,h2.symm,h3⟩
 .rintro⟨h1,h2,h3⟩;exact⟨⟨h1.symm,h2.symm⟩,h3⟩
def a3D(z:J)(k:Int)(xs:List J)(i:Nat)(h:i<xs.length):jA k (xs.take (i+1))=(jA k (xs.take i)&&okX (k+(aG bh (xs.take i):Int)) (xs.getD i z)):=by
 rw[b5w,b3A,a1U];simp only[jA,iA];rw[WT z k xs i h,cj z xs i h];constructor
 .intro e;have:=List.append_inj e (by rw[km]);exact⟨this.1,by simpa using this.2⟩
 .rintro⟨e1,e2⟩;rw[e1,e2]
def a5G(z:J)(k:Int)(xs:List J)(i:Nat)(h:i<xs.length)(e:okX (k+(aG bh (xs.take i):Int)) (xs.getD i z)=false):jA k xs=false:=by
 cases hb:jA k xs with
 | false=>rfl
 | true =>
  have h1:=Nz z k xs i h;simp only[jA,iA] at hb;rw[hb] at h1;have:=(a1U _ _).2 h1.symm;rw[e] at this;cases this
def a3C(k:Int)(xs:List J)(i:Nat)(h:xs.length<=i):jA k (xs.take i)=jA k xs:=by rw[b3U h]
def a3B(k:Int)(x:J):okX k x=(decide (x.aq=k)&&decide (x.aN=k+1)&&jA (k+1+1) x.M):=by
 rw[okX,show k+2=k+1+1 by omega]
def kg(n:Nat):aL:=⟨qq,[.v (.slice (.st .expr)), .v (.int .i64)],λ (xs:List J) (k:Int)=>⟨(some (cb xs<n/\0<=k/\k+(aG bh xs:Int)<=4611686018427387904),[⟨(.int .i64),qa k xs⟩])⟩⟩
def qk:aL:=⟨qq,[.v (.slice (.st .expr)), .v (.int .i64)],λ (xs:List J) (k:Int)=>⟨(some (0<=k/\k+(aG bh xs:Int)<=4611686018427387904),[⟨(.int .i64),qa k xs⟩])⟩⟩
def PT(xs:List J)(k:Int):Nat->az:=(cP 0 (.b (Nat) (λ i=>i<=xs.length/\jA k (xs.take i)=true) (λ i=>xs.length - i) [] (λ i=>[(5, .aF ⟨(.int .i64),((i:Int):Int)⟩),(1, .aF ⟨(.int .i64),((k+(aG bh (xs.take i):Int)):Int)⟩)])) bI)
def NI(n:Nat)(hE:bD [kg n]):aL.Good (kg (n+1)):=by
 refine⟨ar jS,?_⟩;intro (xs:List J) (k:Int) (hp:cb xs<n+1/\0<=k/\k+(aG bh xs:Int)<=4611686018427387904);refine aV [kg n] [] [] [] hE jS HW (PT xs k) (let v0:=(1:Int);let v1:=(xs.length:Int);let v2:=qa k xs;(((∃ i1:Nat,((i1<=xs.length/\jA k (xs.take i1)=true)/\((xs=xs/\(k=(k+(aG bh (xs.take i1):Int))/\((0:Int)=(i1:Int)/\True)))/\True)))/\(∀ i1:Nat,let v3:=k+(aG bh (xs.take i1):Int);let v4:=xs.getD i1 zE;let v6:=(i1:Int);let v7:=(v3+v0)+v0;let v5:=qa v7 v4.M;let v8 := !(decide (v4.aN=(v3+v0)));((i1<=xs.length/\jA k (xs.take i1)=true)->(O v1->(((decide (v6<v1))=true->(ak v6 xs.length/\(O v4.aq->(((!(decide (v4.aq=v3)))=true->(-1:Int)=v2)/\((!(decide (v4.aq=v3)))=false->(O (v3+v0)/\(ak v6 xs.length/\(O v4.aN->((v8=true->(-1:Int)=v2)/\(v8=false->(O v7/\(ak v6 xs.length/\(v4.M.length<=140737488355328->((cb v4.M<n/\0<=v7/\v7+(aG bh v4.M:Int)<=4611686018427387904)/\(O v5->(((decide (v5<(0:Int)))=true->(-1:Int)=v2)/\((decide (v5<(0:Int)))=false->(O (v6+v0)/\(∃ i2:Nat,((i2<=xs.length/\jA k (xs.take i2)=true)/\(xs.length - i2<xs.length - i1/\((xs=xs/\(v5=(k+(aG bh (xs.take i2):Int))/\((v6+v0)=(i2:Int)/\True)))/\True))))))))))))))))))))))/\((decide (v6<v1))=false->v3=v2)))))))) ?_;have f0:jA k (xs.take 0)=true:=by simp[jA,cX]
 have f1:=ik bh xs;have f2:=rY k xs;refine⟨⟨0,?_,⟨rfl,?_,?_,ae⟩,ae⟩,λ i1 _=>have CO:=a3D zE k xs i1;have pK:=a5G zE k xs i1;have vX:=a3C k xs i1;have HN:=a3B (k+(aG bh (xs.take i1):Int)) (xs.getD i1 zE);have SA:=rY ((k+(aG bh (xs.take i1):Int))+1+1) (xs.getD i1 zE).M;have Vg:=fj bh zE xs i1;have Yz:=bY bh xs i1;have YA:=bY bh xs (i1+1);have YB:=gT bh xs i1;have a0V:=Vr (xs.getD i1 zE);have ZN:=b9 zE xs i1;have ZO:=dj (xs.getD i1 zE);λ _=>⟨λ _=>⟨?_,λ _=>⟨λ _=>?_,λ _=>⟨?_,?_,λ _=>⟨λ _=>?_,λ _=>⟨?_,?_,λ _=>⟨?_,λ _=>⟨λ _=>?_,λ _=>⟨?_,i1+1,?_,?_,⟨rfl,?_,?_,ae⟩,ae⟩⟩⟩⟩⟩⟩⟩⟩,λ _=>?_⟩⟩;all_goals try and_intros
 all_goals first|rfl|trivial|omega|(simp only[b3v,b3u,ak,O,b3I,b3Q] at *;first|omega|grind)
def HF :∀ n,bD [kg n]
 | 0=>⟨⟨ar jS,λ _ _ h=>absurd h.1 (b4q _)⟩,ae⟩
 | n+1=>by
  have ih:=HF  n;exact⟨NI n ⟨ih.1,ae⟩,ae⟩
def td :aL.Good qk :=
 ⟨ar jS,λ xs k hp=>(HF  (cb xs+1)).1.2 xs k (⟨b4m _,hp⟩)⟩
end
end Go.Proofs.YtmjfpcajohhbeaaGreatDoor

set_option maxRecDepth 4000
set_option maxHeartbeats 4000000
namespace Go.Proofs.YtmjfpcajohhbeaaGreatDoor
noncomputable section
theorem Ze{α:Type}(cI:α->Nat)(mk:Int->α->α)(z:α):∀ (k:Int) (xs:List α) (i:Nat),i<xs.length->iJ cI mk k (xs.take (i+1))=iJ cI mk k (xs.take i)++[mk (k+(aG cI (xs.take i):Int)) (xs.getD i z)]
 | k,[],i,h=>by simp at h
 | k,x::xs,0,h=>by simp[iJ,aG]
 | k,x::xs,i+1,h=>by
  have:=Ze cI mk z (k+(cI x:Int)) xs i (by simpa using h);simp only[List.take_succ_cons,iJ,this,List.getD_cons_succ,aG,List.cons_append];congr 4;omega
theorem UG{α:Type}(cI:α->Nat)(mk:Int->α->α)(h1:∀ k x,mk k (mk k x)=mk k x)(h2:∀ k x,cI (mk k x)=cI x):∀ (k:Int) (xs:List α),iJ cI mk k (iJ cI mk k xs)=iJ cI mk k xs/\aG cI (iJ cI mk k xs)=aG cI xs
 | _,[]=>⟨rfl,rfl⟩
 | k,x::xs=>by
  obtain⟨i1,i2⟩:=UG cI mk h1 h2 (k+(cI x:Int)) xs;simp only[iJ,aG,h1,h2,i1,i2,and_self]
theorem JR(k:Int)(xs:List J):aG bh (cX k xs)=aG bh xs:=by
 have:=Q1 k xs;rw[C0,C0] at this;exact this
theorem WR:∀ (k:Int) (xs:List Int),eB k (eB k xs)=eB k xs
 | _,[]=>rfl
 | k,x::xs=>by simp only[eB,WR (k+1) xs]
theorem a3y(k:Int)(xs:List Int):eY k xs=bF (eB k xs) xs:=by
 rw[b5w,iA];refine⟨λ h=>?_,λ h=>by rw[<-h];exact a3z k xs⟩;have h1:=(Bu k xs).1 h;refine List.ext_getElem (fR k xs) λ i hi hi2=>?_;have h2:=wX k xs i 0 hi2;have h3:=h1 i hi2;rw[b3N,b3Z hi] at h2;rw[b3N,b3Z hi2] at h3;exact h2.trans h3.symm
theorem a5v(k:Int)(xs:List Int):(eY k xs=true/\Iu k xs=k+(xs.length:Int))\/(eY k xs=false/\Iu k xs = -1):=by
 unfold Iu;cases eY k xs<;>simp
section
variable {α:Type} (cI:α->Nat) (mk:Int->α->α)
def qJ(k:Int)(xs:List α):Bool:=bF (iJ cI mk k xs) xs
def nC(k:Int)(xs:List α):Int:=bif qJ cI mk k xs then k+(aG cI xs:Int) else -1
theorem JV(k:Int)(xs:List α):(qJ cI mk k xs=true/\nC cI mk k xs=k+(aG cI xs:Int))\/(qJ cI mk k xs=false/\nC cI mk k xs = -1):=by
 unfold nC;cases qJ cI mk k xs<;>simp
theorem Zg(z:α)(k:Int)(xs:List α)(i:Nat)(h:i<xs.length):qJ cI mk k (xs.take (i+1))=(qJ cI mk k (xs.take i)&&bF (mk (k+(aG cI (xs.take i):Int)) (xs.getD i z)) (xs.getD i z)):=by
 rw[b5w,b3A];simp only[qJ,iA];rw[Ze cI mk z k xs i h,cj z xs i h];constructor
 .intro e;have:=List.append_inj e (by rw[iK]);exact⟨this.1,by simpa using this.2⟩
 .rintro⟨e1,e2⟩;rw[e1,e2]
theorem a1T(z:α)(k:Int)(xs:List α)(i:Nat)(h:i<xs.length)(e:bF (mk (k+(aG cI (xs.take i):Int)) (xs.getD i z)) (xs.getD i z)=false):qJ cI mk k xs=false:=by
 cases hb:qJ cI mk k xs with
 | false=>rfl
 | true =>
  have h1:=RY cI mk z k xs i h;simp only[qJ,iA] at hb;rw[hb] at h1;have:=iA.2 h1.symm;rw[e] at this;cases this
theorem Zf(k:Int)(xs:List α)(i:Nat)(h:xs.length<=i):qJ cI mk k (xs.take i)=qJ cI mk k xs:=by rw[b3U h]
end
theorem a8O(k:Int)(x:U):bj k (bj k x)=bj k x:=by
 simp only[bj,JR,Qa,WR,fR]
theorem a6F(k:Int)(x:U):aD (bj k x)=aD x:=by
 simp only[bj,aD,JR,fR]
theorem WS(k:Int)(xs:List U):iJ aD bj k (iJ aD bj k xs)=iJ aD bj k xs/\aG aD (iJ aD bj k xs)=aG aD xs:=UG aD bj a8O a6F k xs
theorem a4F(k:Int)(x:ag):bG k (bG k x)=bG k x:=by
 simp only[bG,JR,Qa,(WS _ _).1,(WS _ _).2]
theorem a1a(k:Int)(x:ag):aE (bG k x)=aE x:=by
 simp only[bG,aE,JR,(WS _ _).2]
theorem a3e(k:Int)(xs:List ag):nC aE bG k (iJ aE bG k xs)=k+(aG aE xs:Int):=by
 obtain⟨h1,h2⟩:=UG aE bG a4F a1a k xs;have:qJ aE bG k (iJ aE bG k xs)=true:=by
  unfold qJ;rw[iA];exact h1
 unfold nC;rw[this,h2];rfl
theorem a3A(k:Int)(x:U):bF (bj k x) x=(decide (x.use=k)&&decide (x.back=decide ((k+1).tmod 3=0))&&eY (k+1+1) x.path&&jA (k+1+1+(x.path.length:Int)) x.av &&
  jA (k+1+1+(x.path.length:Int)+(aG bh x.av:Int)) x.bd):=by
 obtain⟨a,b,p,t,c⟩:=x;rw[b5w];simp only[jA,a3y,iA,bj,b3A,b3v,U.mk.injEq];constructor
 .rintro⟨h1,h2,h3,h4,h5⟩;exact⟨⟨⟨⟨h1.symm,h2.symm⟩,h3⟩,h4⟩,h5⟩
 .rintro⟨⟨⟨⟨h1,h2⟩,h3⟩,h4⟩,h5⟩;exact⟨h1.symm,h2.symm,h3,h4,h5⟩
theorem a3x(k:Int)(x:ag):bF (bG k x) x=(decide (x.left.aq=k)&&decide (x.left.aN=k+1)&&jA (k+1+1) x.left.M&&decide (x.right.aq=k+1+1+(aG bh x.left.M:Int)) &&
  decide (x.right.aN=k+1+1+(aG bh x.left.M:Int)+1)&&jA (k+1+1+(aG bh x.left.M:Int)+1+1) x.right.M&&decide (x.aH=k+1+1+(aG bh x.left.M:Int)+1+1+(aG bh x.right.M:Int)) &&
  decide (x.ref=k+1+1+(aG bh x.left.M:Int)+1+1+(aG bh x.right.M:Int)+1)&&qJ aD bj (k+1+1+(aG bh x.left.M:Int)+1+1+(aG bh x.right.M:Int)+1+1) x.steps):=by
 obtain⟨⟨a,b,l⟩,⟨c,d,r⟩,e,f,s⟩:=x;rw[b5w];simp only[qJ,jA,iA,bG,b3A,b3v,ag.mk.injEq,J.mk.injEq];constructor
 .rintro⟨⟨h1,h2,h3⟩,⟨h4,h5,h6⟩,h7,h8,h9⟩;exact⟨⟨⟨⟨⟨⟨⟨⟨h1.symm,h2.symm⟩,h3⟩,h4.symm⟩,h5.symm⟩,h6⟩,h7.symm⟩,h8.symm⟩,h9⟩
 .rintro⟨⟨⟨⟨⟨⟨⟨⟨h1,h2⟩,h3⟩,h4⟩,h5⟩,h6⟩,h7⟩,h8⟩,h9⟩;exact⟨⟨h1.symm,h2.symm,h3⟩,⟨h4.symm,h5.symm,h6⟩,h7.symm,h8.symm,h9⟩
def ql:aL:=⟨qs,[.v (.slice (.st .proofStep)), .v (.int .i64)],λ (xs:List U) (k:Int)=>⟨(some (0<=k/\k+(aG aD xs:Int)<=4611686018427387904),[⟨(.int .i64),nC aD bj k xs⟩])⟩⟩
def Fb(xs:List U)(k:Int):Nat->az:=(cP 0 (.b (Nat) (λ i=>i<=xs.length/\qJ aD bj k (xs.take i)=true) (λ i=>xs.length - i) [] (λ i=>[(5, .aF ⟨(.int .i64),((i:Int):Int)⟩),(1, .aF ⟨(.int .i64),((k+(aG aD (xs.take i):Int)):Int)⟩)])) bI)
theorem zT:aL.Good ql:=by
 refine⟨ar o5,?_⟩;intro (xs:List U) (k:Int) (hp:0<=k/\k+(aG aD xs:Int)<=4611686018427387904);refine aV [yM,qk] [] [] [] ⟨Hh,td,ae⟩ o5 zJ (Fb xs k) (let v1:=(1:Int);let v2:=nC aD bj k xs;let v3:=(0:Int);let v0:=U.mk v3 false [] [] [];let v4:=(xs.length:Int);(((∃ i1:Nat,((i1<=xs.length/\qJ aD bj k (xs.take i1)=true)/\((xs=xs/\(k=(k+(aG aD (xs.take i1):Int))/\(v3=(i1:Int)/\True)))/\True)))/\(∀ i1:Nat,let v6:=k+(aG aD (xs.take i1):Int);let v7:=xs.getD i1 v0;let v9 := !(v7.back == (decide (((v6+v1).tmod (3:Int))=v3)));let va:=(i1:Int);let vc:=(v6+v1)+v1;let v5:=Iu vc v7.path;let v8:=qa v5 v7.av;let vb:=qa v8 v7.bd;((i1<=xs.length/\qJ aD bj k (xs.take i1)=true)->(O v4->(((decide (va<v4))=true->(ak va xs.length/\(O v7.use->(((!(decide (v7.use=v6)))=true->(-1:Int)=v2)/\((!(decide (v7.use=v6)))=false->(O (v6+v1)/\(ak va xs.length/\(((3:Int)≠v3/\O ((v6+v1).tmod (3:Int)))/\((v9=true->(-1:Int)=v2)/\(v9=false->(O vc/\(ak va xs.length/\(v7.path.length<=140737488355328->((0<=vc/\vc+(v7.path.length:Int)<=4611686018427387904)/\(O v5->(((decide (v5<v3))=true->(-1:Int)=v2)/\((decide (v5<v3))=false->(ak va xs.length/\(v7.av.length<=140737488355328->((0<=v5/\v5+(aG bh v7.av:Int)<=4611686018427387904)/\(O v8->(((decide (v8<v3))=true->(-1:Int)=v2)/\((decide (v8<v3))=false->(ak va xs.length/\(v7.bd.length<=140737488355328->((0<=v8/\v8+(aG bh v7.bd:Int)<=4611686018427387904)/\(O vb->(((decide (vb<v3))=true->(-1:Int)=v2)/\((decide (vb<v3))=false->(O (va+v1)/\(∃ i2:Nat,((i2<=xs.length/\qJ aD bj k (xs.take i2)=true)/\(xs.length - i2<xs.length - i1/\((xs=xs/\(vb=(k+(aG aD (xs.take i2):Int))/\((va+v1)=(i2:Int)/\True)))/\True))))))))))))))))))))))))))))))))))/\((decide (va<v4))=false->v6=v2)))))))) ?_;have f0:qJ aD bj k (xs.take 0)=true:=by simp[qJ,iJ]
 have f1:=ik aD xs;have f2:=JV aD bj k xs;refine⟨⟨0,?_,⟨rfl,?_,?_,ae⟩,ae⟩,λ i1 _=>have CO:=Zg aD bj (U.mk (0:Int) false [] [] []) k xs i1;have pK:=a1T aD bj (U.mk (0:Int) false [] [] []) k xs i1;have vX:=Zf aD bj k xs i1;have HN:=a3A (k+(aG aD (xs.take i1):Int)) (xs.getD i1 (U.mk (0:Int) false [] [] []));have SA:=a5v ((k+(aG aD (xs.take i1):Int))+1+1) (xs.getD i1 (U.mk (0:Int) false [] [] [])).path;have Vg:=rY ((k+(aG aD (xs.take i1):Int))+1+1+((xs.getD i1 (U.mk (0:Int) false [] [] [])).path.length:Int)) (xs.getD i1 (U.mk (0:Int) false [] [] [])).av;have Yz:=rY ((k+(aG aD (xs.take i1):Int))+1+1+((xs.getD i1 (U.mk (0:Int) false [] [] [])).path.length:Int)+(aG bh (xs.getD i1 (U.mk (0:Int) false [] [] [])).av:Int)) (xs.getD i1 (U.mk (0:Int) false [] [] [])).bd;have YA:=fj aD (U.mk (0:Int) false [] [] []) xs i1;have YB:=bY aD xs i1;have a0V:=bY aD xs (i1+1);have ZN:=gT aD xs i1;have ZO:=ll (xs.getD i1 (U.mk (0:Int) false [] [] []));λ _=>⟨λ _=>⟨?_,λ _=>⟨λ _=>?_,λ _=>⟨?_,?_,⟨?_,?_⟩,λ _=>?_,λ _=>⟨?_,?_,λ _=>⟨?_,λ _=>⟨λ _=>?_,λ _=>⟨?_,λ _=>⟨?_,λ _=>⟨λ _=>?_,λ _=>⟨?_,λ _=>⟨?_,λ _=>⟨λ _=>?_,λ _=>⟨?_,i1+1,?_,?_,⟨rfl,?_,?_,ae⟩,ae⟩⟩⟩⟩⟩⟩⟩⟩⟩⟩⟩⟩⟩,λ _=>?_⟩⟩;all_goals try and_intros
 all_goals first|rfl|trivial|omega|(simp only[b3v,b3u,ak,O,b3I,b3Q] at *;first|omega|grind)
def yL:aL:=⟨y8,[.v (.slice (.st .claim)), .v (.int .i64)],λ (xs:List ag) (k:Int)=>⟨(some (0<=k/\k+(aG aE xs:Int)<=4611686018427387904),[⟨(.int .i64),nC aE bG k xs⟩])⟩⟩
def Nn(xs:List ag)(k:Int):Nat->az:=(cP 0 (.b (Nat) (λ i=>i<=xs.length/\qJ aE bG k (xs.take i)=true) (λ i=>xs.length - i) [] (λ i=>[(5, .aF ⟨(.int .i64),((i:Int):Int)⟩),(1, .aF ⟨(.int .i64),((k+(aG aE (xs.take i):Int)):Int)⟩)])) bI)
theorem Hg:aL.Good yL:=by
 refine⟨ar vQ,?_⟩;intro (xs:List ag) (k:Int) (hp:0<=k/\k+(aG aE xs:Int)<=4611686018427387904);refine aV [qk,ql] [] [] [] ⟨td,zT,ae⟩ vQ G5 (Nn xs k) (let v1:=(1:Int);let v2:=nC aE bG k xs;let v3:=(-1:Int);let v4:=(0:Int);let v0:=ag.mk zE zE v4 v4 [];let v5:=(xs.length:Int);(((∃ i1:Nat,((i1<=xs.length/\qJ aE bG k (xs.take i1)=true)/\((xs=xs/\(k=(k+(aG aE (xs.take i1):Int))/\(v4=(i1:Int)/\True)))/\True)))/\(∀ i1:Nat,let v8:=xs.getD i1 v0;let v9:=k+(aG aE (xs.take i1):Int);let vb:=(i1:Int);let vc:=(v9+v1)+v1;let v6:=qa vc v8.left.M;let vd:=(v6+v1)+v1;let v7:=qa vd v8.right.M;let ve:=(v7+v1)+v1;let va:=nC aD bj ve v8.steps;let vf := !(decide (v8.right.aN=(v6+v1)));let vg := !(decide (v8.left.aN=(v9+v1)));let vh := !(decide (v8.right.aq=v6));let vi := !(decide (v8.ref=(v7+v1)));let vj := !(decide (v8.left.aq=v9));((i1<=xs.length/\qJ aE bG k (xs.take i1)=true)->(O v5->(((decide (vb<v5))=true->(ak vb xs.length/\(O v8.left.aq->((vj=true->v3=v2)/\(vj=false->(O (v9+v1)/\(ak vb xs.length/\(O v8.left.aN->((vg=true->v3=v2)/\(vg=false->(O vc/\(ak vb xs.length/\(v8.left.M.length<=140737488355328->((0<=vc/\vc+(aG bh v8.left.M:Int)<=4611686018427387904)/\(O v6->(((decide (v6<v4))=true->v3=v2)/\((decide (v6<v4))=false->(ak vb xs.length/\(O v8.right.aq->((vh=true->v3=v2)/\(vh=false->(O (v6+v1)/\(ak vb xs.length/\(O v8.right.aN->((vf=true->v3=v2)/\(vf=false->(O vd/\(ak vb xs.length/\(v8.right.M.length<=140737488355328->((0<=vd/\vd+(aG bh v8.right.M:Int)<=4611686018427387904)/\(O v7->(((decide (v7<v4))=true->v3=v2)/\((decide (v7<v4))=false->(ak vb xs.length/\(O v8.aH->(((!(decide (v8.aH=v7)))=true->v3=v2)/\((!(decide (v8.aH=v7)))=false->(O (v7+v1)/\(ak vb xs.length/\(O v8.ref->((vi=true->v3=v2)/\(vi=false->(O ve/\(ak vb xs.length/\(v8.steps.length<=140737488355328->((0<=ve/\ve+(aG aD v8.steps:Int)<=4611686018427387904)/\(O va->(((decide (va<v4))=true->v3=v2)/\((decide (va<v4))=false->(O (vb+v1)/\(∃ i2:Nat,((i2<=xs.length/\qJ aE bG k (xs.take i2)=true)/\(xs.length - i2<xs.length - i1/\((xs=xs/\(va=(k+(aG aE (xs.take i2):Int))/\((vb+v1)=(i2:Int)/\True)))/\True))))))))))))))))))))))))))))))))))))))))))))))))))))))/\((decide (vb<v5))=false->v9=v2)))))))) ?_;have f0:qJ aE bG k (xs.take 0)=true:=by simp[qJ,iJ]
 have f1:=ik aE xs;have f2:=JV aE bG k xs;refine⟨⟨0,?_,⟨rfl,?_,?_,ae⟩,ae⟩,λ i1 _=>have CO:=Zg aE bG (ag.mk zE zE (0:Int) (0:Int) []) k xs i1;have pK:=a1T aE bG (ag.mk zE zE (0:Int) (0:Int) []) k xs i1;have vX:=Zf aE bG k xs i1;have HN:=a3x (k+(aG aE (xs.take i1):Int)) (xs.getD i1 (ag.mk zE zE (0:Int) (0:Int) []));have SA:=rY ((k+(aG aE (xs.take i1):Int))+1+1) (xs.getD i1 (ag.mk zE zE (0:Int) (0:Int) [])).left.M;have Vg:=rY ((k+(aG aE (xs.take i1):Int))+1+1+(aG bh (xs.getD i1 (ag.mk zE zE (0:Int) (0:Int) [])).left.M:Int)+1+1) (xs.getD i1 (ag.mk zE zE (0:Int) (0:Int) [])).right.M;have Yz:=JV aD bj ((k+(aG aE (xs.take i1):Int))+1+1+(aG bh (xs.getD i1 (ag.mk zE zE (0:Int) (0:Int) [])).left.M:Int)+1+1+(aG bh (xs.getD i1 (ag.mk zE zE (0:Int) (0:Int) [])).right.M:Int)+1+1) (xs.getD i1 (ag.mk zE zE (0:Int) (0:Int) [])).steps;have YA:=fj aE (ag.mk zE zE (0:Int) (0:Int) []) xs i1;have YB:=bY aE xs i1;have a0V:=bY aE xs (i1+1);have ZN:=gT aE xs i1;have ZO:=sJ (xs.getD i1 (ag.mk zE zE (0:Int) (0:Int) []));λ _=>⟨λ _=>⟨?_,λ _=>⟨λ _=>?_,λ _=>⟨?_,?_,λ _=>⟨λ _=>?_,λ _=>⟨?_,?_,λ _=>⟨?_,λ _=>⟨λ _=>?_,λ _=>⟨?_,λ _=>⟨λ _=>?_,λ _=>⟨?_,?_,λ _=>⟨λ _=>?_,λ _=>⟨?_,?_,λ _=>⟨?_,λ _=>⟨λ _=>?_,λ _=>⟨?_,λ _=>⟨λ _=>?_,λ _=>⟨?_,?_,λ _=>⟨λ _=>?_,λ _=>⟨?_,?_,λ _=>⟨?_,λ _=>⟨λ _=>?_,λ _=>⟨?_,i1+1,?_,?_,⟨rfl,?_,?_,ae⟩,ae⟩⟩⟩⟩⟩⟩⟩⟩⟩⟩⟩⟩⟩⟩⟩⟩⟩⟩⟩⟩⟩⟩,λ _=>?_⟩⟩;all_goals try and_intros
 all_goals first|rfl|trivial|omega|(simp only[b3v,b3u,ak,O,b3I,b3Q] at *;first|omega|grind)
def A5:aL:=⟨Bn,[.v (.st .proof), .v (.int .i64)],λ (x:aj) (k:Int)=>⟨(some (0<=k/\k+(aG aE x.af:Int)<=4611686018427387904),[⟨(.int .i64),nC aE bG k x.af⟩])⟩⟩
def PU(x:aj)(k:Int):Nat->az:=bI
theorem Ip:aL.Good A5:=by
 refine⟨ar xv,?_⟩;intro (x:aj) (k:Int) (hp:0<=k/\k+(aG aE x.af:Int)<=4611686018427387904);refine aV [yL] [] [] [2] ⟨Hg,ae⟩ xv HX (PU x k) (let v0:=nC aE bG k x.af;((x.af.length<=140737488355328->((0<=k/\k+(aG aE x.af:Int)<=4611686018427387904)/\(O v0->(((decide (v0<(0:Int)))=true->(-1:Int)=v0)/\((decide (v0<(0:Int)))=false->v0=v0))))))) ?_;have f2:=JV aE bG k x.af;refine λ _=>⟨?_,λ _=>⟨λ _=>?_,λ _=>rfl⟩⟩;all_goals try and_intros
 all_goals first|rfl|trivial|omega|(simp only[b3v,b3u,ak,O,b3I,b3Q] at *;first|omega|grind)
end
end Go.Proofs.YtmjfpcajohhbeaaGreatDoor

set_option maxRecDepth 4000
set_option maxHeartbeats 4000000
namespace Go.Proofs.YtmjfpcajohhbeaaGreatDoor
noncomputable section
mutual
def aM:J->Nat
 | ⟨_,_,ks⟩=>1+cY ks
def cY:List J->Nat
 | []=>0
 | k::ks=>aM k+cY ks
end
def S6:∀ xs,cY xs=aG aM xs
 | []=>rfl
 | x::xs=>by rw[cY,aG,S6 xs]
def zl(x:J):aM x=1+aG aM x.M:=by
 cases x;simp[aM,S6]
mutual
def bL:J->Nat
 | ⟨_,_,ks⟩=>1+xI ks
def xI:List J->Nat
 | []=>0
 | k::ks=>max (bL k) (xI ks)
end
def SG:∀ xs,xI xs=iI bL xs
 | []=>rfl
 | x::xs=>by rw[xI,iI,SG xs]
def gO(x:J):bL x=1+iI bL x.M:=by
 cases x;simp[bL,SG]
mutual
def OU:∀ x:J,bL x<=aM x
 | ⟨k,n,ks⟩=>by
  have:=Lq ks;simp only[bL,aM];omega
def Lq:∀ xs:List J,xI xs<=cY xs
 | []=>by simp[xI]
 | x::xs=>by
  have h1:=OU x;have h2:=Lq xs;simp only[xI,cY];omega
end
def Mt(k:Int):Bool:=decide (k=1)||decide (k=2)||decide (k=3)||decide (k=5)||decide (k=6)||decide (k=7)
mutual
def bq:J->Bool
 | ⟨k,_,ks⟩=>Mt k&&Uz ks
def Uz:List J->Bool
 | []=>true
 | k::ks=>bq k&&Uz ks
end
def Vt:∀ xs,Uz xs=bp bq xs
 | []=>rfl
 | x::xs=>by rw[Uz,bp,Vt xs]
def Q3(x:J):bq x=(Mt x.aq&&bp bq x.M):=by
 cases x;simp[bq,Vt]
def cV(k:Int):Int:=if k=1\/k=2\/k=3\/k=4 then 0 else if k=5\/k=8 then 1 else if k=6\/k=7 then 2 else -1
def fO:aL:=⟨Jc,[.v (.int .i64), .v (.int .i64), .v (.int .i64)],λ (n:Int) (least:Int) (most:Int)=>⟨(none,[⟨.bool,decide (least<=n/\n<=most)⟩])⟩⟩
def Wv(n:Int)(least:Int)(most:Int):Nat->az:=bI
def fW:aL.Good fO:=by
 refine⟨ar FL,?_⟩;intro (n:Int) (least:Int) (most:Int) _;refine aV [] [] [] [] trivial FL OE (Wv n least most) (let v0:=decide (least<=n/\n<=most);((((decide (least<=n))=true->((decide (n<=most))=v0))/\((decide (least<=n))=(!true)->(false=v0))))) ?_;refine⟨λ _=>?_,λ _=>?_⟩;all_goals try and_intros
 all_goals first|rfl|trivial|(simp_all;done)|(simp_all;omega)
def gD:aL:=⟨B8,[.v (.int .i64), .v (.int .i64), .v (.int .i64)],λ (n:Int) (low:Int) (high:Int)=>⟨(none,[⟨.bool,decide (low<=n/\n<=high)⟩])⟩⟩
def X7(n:Int)(low:Int)(high:Int):Nat->az:=bI
def jn:aL.Good gD:=by
 refine⟨ar HK,?_⟩;intro (n:Int) (low:Int) (high:Int) _;refine aV [] [] [] [] trivial HK QW (X7 n low high) (let v0:=decide (low<=n/\n<=high);((((decide (low<=n))=true->((decide (n<=high))=v0))/\((decide (low<=n))=(!true)->(false=v0))))) ?_;refine⟨λ _=>?_,λ _=>?_⟩;all_goals try and_intros
 all_goals first|rfl|trivial|(simp_all;done)|(simp_all;omega)
def ma:aL:=⟨Jd,[.v (.int .i64), .v (.int .i64)],λ (a:Int) (b:Int)=>⟨(none,[⟨(.int .i64),max a b⟩])⟩⟩
def WB(a:Int)(b:Int):Nat->az:=bI
def AE:aL.Good ma:=by
 refine⟨ar FM,?_⟩;intro (a:Int) (b:Int) _;refine aV [] [] [] [] trivial FM OH (WB a b) ((((decide (b<a))=true->a=(max a b))/\((decide (b<a))=false->b=(max a b)))) ?_;refine⟨λ _=>?_,λ _=>?_⟩;all_goals try and_intros
 all_goals first|rfl|trivial|(simp_all;omega)
def yI:aL:=⟨I8,[.v (.int .i64)],λ (k:Int)=>⟨(none,[⟨(.int .i64),cV k⟩])⟩⟩
def Wq(k:Int):Nat->az:=bI
abbrev Ds(k:Int):Prop:=(let v0:=decide (k=(6:Int));((v0=true ->
 ((v0=true ->
 (2:Int)=(cV k))/\(v0=false ->
 (-1:Int)=(cV k))))/\(v0=false ->
 (((decide (k=(7:Int)))=true ->
 (2:Int)=(cV k))/\((decide (k=(7:Int)))=false ->
 (-1:Int)=(cV k))))))
abbrev Rq(k:Int):Prop:=(let v0:=decide (k=(5:Int));((v0=true ->
 ((v0=true ->
 (1:Int)=(cV k))/\(v0=false ->
 (Ds k))))/\(v0=false ->
 (((decide (k=(8:Int)))=true ->
 (1:Int)=(cV k))/\((decide (k=(8:Int)))=false ->
 (Ds k))))))
def Pc:aL.Good yI:=by
 refine⟨ar FI,?_⟩;intro (k:Int) _;refine aV [] [] [] [] trivial FI OA (Wq k) (let v0:=decide (k=(1:Int));let v1:=decide (k=(2:Int));let v2:=decide (k=(3:Int));let v3:=Rq k;(((v0=true->((v0=true->(0:Int)=(cV k))/\(v0=false->v3)))/\(v0=false->((v1=true->((v1=true->(0:Int)=(cV k))/\(v1=false->v3)))/\(v1=false->((v2=true->((v2=true->(0:Int)=(cV k))/\(v2=false->v3)))/\(v2=false->(((decide (k=(4:Int)))=true->(0:Int)=(cV k))/\((decide (k=(4:Int)))=false->v3)))))))))) ?_;refine⟨λ _=>⟨λ _=>?_,λ _=>⟨λ _=>⟨λ _=>?_,λ _=>⟨λ _=>⟨λ _=>?_,λ _=>?_⟩,λ _=>⟨λ _=>?_,λ _=>?_⟩⟩⟩,λ _=>⟨λ _=>?_,λ _=>⟨λ _=>⟨λ _=>?_,λ _=>?_⟩,λ _=>⟨λ _=>?_,λ _=>?_⟩⟩⟩⟩⟩,λ _=>⟨λ _=>⟨λ _=>?_,λ _=>⟨λ _=>⟨λ _=>?_,λ _=>⟨λ _=>⟨λ _=>?_,λ _=>?_⟩,λ _=>⟨λ _=>?_,λ _=>?_⟩⟩⟩,λ _=>⟨λ _=>?_,λ _=>⟨λ _=>⟨λ _=>?_,λ _=>?_⟩,λ _=>⟨λ _=>?_,λ _=>?_⟩⟩⟩⟩⟩,λ _=>⟨λ _=>⟨λ _=>?_,λ _=>⟨λ _=>⟨λ _=>?_,λ _=>⟨λ _=>⟨λ _=>?_,λ _=>?_⟩,λ _=>⟨λ _=>?_,λ _=>?_⟩⟩⟩,λ _=>⟨λ _=>?_,λ _=>⟨λ _=>⟨λ _=>?_,λ _=>?_⟩,λ _=>⟨λ _=>?_,λ _=>?_⟩⟩⟩⟩⟩,λ _=>⟨λ _=>?_,λ _=>⟨λ _=>⟨λ _=>?_,λ _=>⟨λ _=>⟨λ _=>?_,λ _=>?_⟩,λ _=>⟨λ _=>?_,λ _=>?_⟩⟩⟩,λ _=>⟨λ _=>?_,λ _=>⟨λ _=>⟨λ _=>?_,λ _=>?_⟩,λ _=>⟨λ _=>?_,λ _=>?_⟩⟩⟩⟩⟩⟩⟩⟩;all_goals try and_intros
 all_goals first|rfl|trivial|(simp only[decide_eq_true_eq,decide_eq_false_iff_not] at *;simp[cV, *];done)|(simp only[decide_eq_true_eq,decide_eq_false_iff_not] at *;unfold cV;repeat (first|omega|split))
def uT:aL:=⟨GG,[.v (.int .i64)],λ (k:Int)=>⟨(none,[⟨(.int .i64),cV k⟩])⟩⟩
def TW(k:Int):Nat->az:=bI
abbrev AM(k:Int):Prop:=(let v0:=decide (k=(6:Int));((v0=true ->
 ((v0=true ->
 (2:Int)=(cV k))/\(v0=false ->
 (-1:Int)=(cV k))))/\(v0=false ->
 (((decide (k=(7:Int)))=true ->
 (2:Int)=(cV k))/\((decide (k=(7:Int)))=false ->
 (-1:Int)=(cV k))))))
abbrev PO(k:Int):Prop:=(let v0:=decide (k=(5:Int));((v0=true ->
 ((v0=true ->
 (1:Int)=(cV k))/\(v0=false ->
 (AM k))))/\(v0=false ->
 (((decide (k=(8:Int)))=true ->
 (1:Int)=(cV k))/\((decide (k=(8:Int)))=false ->
 (AM k))))))
def MO:aL.Good uT:=by
 refine⟨ar CD,?_⟩;intro (k:Int) _;refine aV [] [] [] [] trivial CD Md (TW k) (let v0:=decide (k=(1:Int));let v1:=decide (k=(2:Int));let v2:=decide (k=(3:Int));let v3:=PO k;(((v0=true->((v0=true->(0:Int)=(cV k))/\(v0=false->v3)))/\(v0=false->((v1=true->((v1=true->(0:Int)=(cV k))/\(v1=false->v3)))/\(v1=false->((v2=true->((v2=true->(0:Int)=(cV k))/\(v2=false->v3)))/\(v2=false->(((decide (k=(4:Int)))=true->(0:Int)=(cV k))/\((decide (k=(4:Int)))=false->v3)))))))))) ?_;refine⟨λ _=>⟨λ _=>?_,λ _=>⟨λ _=>⟨λ _=>?_,λ _=>⟨λ _=>⟨λ _=>?_,λ _=>?_⟩,λ _=>⟨λ _=>?_,λ _=>?_⟩⟩⟩,λ _=>⟨λ _=>?_,λ _=>⟨λ _=>⟨λ _=>?_,λ _=>?_⟩,λ _=>⟨λ _=>?_,λ _=>?_⟩⟩⟩⟩⟩,λ _=>⟨λ _=>⟨λ _=>?_,λ _=>⟨λ _=>⟨λ _=>?_,λ _=>⟨λ _=>⟨λ _=>?_,λ _=>?_⟩,λ _=>⟨λ _=>?_,λ _=>?_⟩⟩⟩,λ _=>⟨λ _=>?_,λ _=>⟨λ _=>⟨λ _=>?_,λ _=>?_⟩,λ _=>⟨λ _=>?_,λ _=>?_⟩⟩⟩⟩⟩,λ _=>⟨λ _=>⟨λ _=>?_,λ _=>⟨λ _=>⟨λ _=>?_,λ _=>⟨λ _=>⟨λ _=>?_,λ _=>?_⟩,λ _=>⟨λ _=>?_,λ _=>?_⟩⟩⟩,λ _=>⟨λ _=>?_,λ _=>⟨λ _=>⟨λ _=>?_,λ _=>?_⟩,λ _=>⟨λ _=>?_,λ _=>?_⟩⟩⟩⟩⟩,λ _=>⟨λ _=>?_,λ _=>⟨λ _=>⟨λ _=>?_,λ _=>⟨λ _=>⟨λ _=>?_,λ _=>?_⟩,λ _=>⟨λ _=>?_,λ _=>?_⟩⟩⟩,λ _=>⟨λ _=>?_,λ _=>⟨λ _=>⟨λ _=>?_,λ _=>?_⟩,λ _=>⟨λ _=>?_,λ _=>?_⟩⟩⟩⟩⟩⟩⟩⟩;all_goals try and_intros
 all_goals first|rfl|trivial|(simp only[decide_eq_true_eq,decide_eq_false_iff_not] at *;simp[cV, *];done)|(simp only[decide_eq_true_eq,decide_eq_false_iff_not] at *;unfold cV;repeat (first|omega|split))
def iG(n:Nat):aL:=⟨nJ,[.v (.st .expr)],λ (x:J)=>⟨(some (cb x<n),[⟨.bool,bq x⟩])⟩⟩
def fh:aL:=⟨nJ,[.v (.st .expr)],λ (x:J)=>⟨(none,[⟨.bool,bq x⟩])⟩⟩
def K0(x:J):Nat->az:=(cP 1 (.b (Nat) (λ k=>k<=x.M.length/\bp bq (x.M.take k)=true) (λ k=>x.M.length - k) [0,1,5,6,7,8,9,10,11,12,13,14] (λ k=>[(17, .aF ⟨(.int .i64),((k:Int):Int)⟩)])) bI)
abbrev Hp(n:Nat)(x:J):Prop:=(let v0:=(x.M.length:Int);(x.M.length<=140737488355328 ->
 (O v0 ->
 ((∃ k1:Nat,((k1<=x.M.length/\bp bq (x.M.take k1)=true)/\((x.M=x.M/\(v0=v0/\((0:Int)=(k1:Int)/\True)))/\True)))/\(∀ k1:Nat,let v1:=aI (x.M.getD k1 zE);((k1<=x.M.length/\bp bq (x.M.take k1)=true) ->
 (((decide ((k1:Int)<v0))=true ->
 (ak (k1:Int) x.M.length/\(cb v1<n/\(((!(bq v1))=true ->
 false=(bq x))/\((!(bq v1))=false ->
 (O ((k1:Int)+(1:Int))/\(∃ k2:Nat,((k2<=x.M.length/\bp bq (x.M.take k2)=true)/\(x.M.length - k2<x.M.length - k1/\((x.M=x.M/\(v0=v0/\(((k1:Int)+(1:Int))=(k2:Int)/\True)))/\True))))))))))/\((decide ((k1:Int)<v0))=false ->
 true=(bq x)))))))))
def Jw(n:Nat)(hE:bD [iG n]):aL.Good (iG (n+1)):=by
 refine⟨ar iv,?_⟩;intro (x:J) (hp:cb x<n+1);refine aV [iG n] [] [] [1] hE iv Ez (K0 x) (let v0:=Hp n x;let v1:=decide (x.aq=(1:Int));let v2:=decide (x.aq=(2:Int));let v3:=decide (x.aq=(3:Int));let v4:=decide (x.aq=(5:Int));let v5:=decide (x.aq=(6:Int));let v6:=bq x;((O x.aq->((v1=true->((v1=true->v0)/\(v1=false->false=v6)))/\(v1=false->((v2=true->((v2=true->v0)/\(v2=false->false=v6)))/\(v2=false->((v3=true->((v3=true->v0)/\(v3=false->false=v6)))/\(v3=false->((v4=true->((v4=true->v0)/\(v4=false->false=v6)))/\(v4=false->((v5=true->((v5=true->v0)/\(v5=false->false=v6)))/\(v5=false->(((decide (x.aq=(7:Int)))=true->v0)/\((decide (x.aq=(7:Int)))=false->false=v6))))))))))))))) ?_;have f0:=dj x;have f1:=all_zero bq x.M;refine λ _=>⟨λ _=>⟨λ _ _ _=>⟨⟨0,?_,⟨rfl,rfl,?_,ae⟩,ae⟩,λ k1 _=>have b1u:=di bq zE x.M k1;have b1v:=dL bq zE x.M k1;have b1w:=dU bq x.M k1;have b3e:=b9 zE x.M k1;⟨λ _=>⟨?_,?_,λ _=>?_,λ _=>⟨?_,k1+1,?_,?_,⟨rfl,rfl,?_,ae⟩,ae⟩⟩,λ _=>?_⟩⟩,λ _=>?_⟩,λ _=>⟨λ _=>⟨λ _ _ _=>⟨⟨0,?_,⟨rfl,rfl,?_,ae⟩,ae⟩,λ k1 _=>have b3f:=di bq zE x.M k1;have b3g:=dL bq zE x.M k1;have b3h:=dU bq x.M k1;have b3i:=b9 zE x.M k1;⟨λ _=>⟨?_,?_,λ _=>?_,λ _=>⟨?_,k1+1,?_,?_,⟨rfl,rfl,?_,ae⟩,ae⟩⟩,λ _=>?_⟩⟩,λ _=>?_⟩,λ _=>⟨λ _=>⟨λ _ _ _=>⟨⟨0,?_,⟨rfl,rfl,?_,ae⟩,ae⟩,λ k1 _=>have a6w:=di bq zE x.M k1;have a6x:=dL bq zE x.M k1;have a6y:=dU bq x.M k1;have a9o:=b9 zE x.M k1;⟨λ _=>⟨?_,?_,λ _=>?_,λ _=>⟨?_,k1+1,?_,?_,⟨rfl,rfl,?_,ae⟩,ae⟩⟩,λ _=>?_⟩⟩,λ _=>?_⟩,λ _=>⟨λ _=>⟨λ _ _ _=>⟨⟨0,?_,⟨rfl,rfl,?_,ae⟩,ae⟩,λ k1 _=>have b3j:=di bq zE x.M k1;have b3k:=dL bq zE x.M k1;have b3l:=dU bq x.M k1;have b3m:=b9 zE x.M k1;⟨λ _=>⟨?_,?_,λ _=>?_,λ _=>⟨?_,k1+1,?_,?_,⟨rfl,rfl,?_,ae⟩,ae⟩⟩,λ _=>?_⟩⟩,λ _=>?_⟩,λ _=>⟨λ _=>⟨λ _ _ _=>⟨⟨0,?_,⟨rfl,rfl,?_,ae⟩,ae⟩,λ k1 _=>have a9p:=di bq zE x.M k1;have a9q:=dL bq zE x.M k1;have a9r:=dU bq x.M k1;have b1D:=b9 zE x.M k1;⟨λ _=>⟨?_,?_,λ _=>?_,λ _=>⟨?_,k1+1,?_,?_,⟨rfl,rfl,?_,ae⟩,ae⟩⟩,λ _=>?_⟩⟩,λ _=>?_⟩,λ _=>⟨λ _ _ _=>⟨⟨0,?_,⟨rfl,rfl,?_,ae⟩,ae⟩,λ k1 _=>have a9p:=di bq zE x.M k1;have a9q:=dL bq zE x.M k1;have a9r:=dU bq x.M k1;have b1D:=b9 zE x.M k1;⟨λ _=>⟨?_,?_,λ _=>?_,λ _=>⟨?_,k1+1,?_,?_,⟨rfl,rfl,?_,ae⟩,ae⟩⟩,λ _=>?_⟩⟩,λ _=>?_⟩⟩⟩⟩⟩⟩;all_goals try and_intros
 all_goals try (first|with_reducible rfl|with_reducible assumption)
 all_goals try simp only[J.eta,ag.eta,au.eta,aJ,bm,bH] at *
 all_goals try rw[Q3 x]
 all_goals first|rfl|trivial|(simp only[b3v,b3u,ak,O] at *;omega)|(simp_all [Mt];done)|(simp_all [Mt,ak,O];omega)
def Sm :∀ n,bD [iG n]
 | 0=>⟨⟨ar iv,λ _ h=>absurd h (b4q _)⟩,ae⟩
 | n+1=>by
  have ih:=Sm  n;exact⟨Jw n ⟨ih.1,ae⟩,ae⟩
def gu :aL.Good fh :=
 ⟨ar iv,λ x hp=>(Sm  (cb x+1)).1.2 x (b4m _)⟩
def gW(n:Nat):aL:=⟨iL,[.r (.st .expr)],λ (x:J)=>⟨(some (cb x<n),[⟨.bool,bq x⟩])⟩⟩
def iF:aL:=⟨iL,[.r (.st .expr)],λ (x:J)=>⟨(none,[⟨.bool,bq x⟩])⟩⟩
def IU(x:J):Nat->az:=(cP 0 (.b (Nat) (λ k=>k<=x.M.length/\bp bq (x.M.take k)=true) (λ k=>x.M.length - k) [4,5,6,7,8,9,10,11,12,13,14,15,16] (λ k=>[(3, .aF ⟨(.int .i64),((k:Int):Int)⟩)])) bI)
abbrev qe(n:Nat)(x:J):Prop:=(let v0:=(x.M.length:Int);((∃ k1:Nat,((k1<=x.M.length/\bp bq (x.M.take k1)=true)/\((x=x/\((0:Int)=(k1:Int)/\True))/\True)))/\(∀ k1:Nat,let v1:=x.M.getD k1 zE;((k1<=x.M.length/\bp bq (x.M.take k1)=true) ->
 (x.M.length<=140737488355328 ->
 (O v0 ->
 (((decide ((k1:Int)<v0))=true ->
 (x.M.length<=140737488355328 ->
 (ak (k1:Int) x.M.length/\(cb v1<n/\(((!(bq v1))=true ->
 false=(bq x))/\((!(bq v1))=false ->
 (O ((k1:Int)+(1:Int))/\(∃ k2:Nat,((k2<=x.M.length/\bp bq (x.M.take k2)=true)/\(x.M.length - k2<x.M.length - k1/\((x=x/\(((k1:Int)+(1:Int))=(k2:Int)/\True))/\True)))))))))))/\((decide ((k1:Int)<v0))=false ->
 true=(bq x)))))))))
def HB(n:Nat)(hE:bD [gW n,gD]):aL.Good (gW (n+1)):=by
 refine⟨ar gV,?_⟩;intro (x:J) (hp:cb x<n+1);refine aV [gW n,gD] [] [] [] hE gV CV (IU x) (let v0 := !(decide ((1:Int)<=x.aq/\x.aq<=(7:Int)));((O x.aq->(((v0=false)->(O x.aq->(((decide (x.aq=(4:Int)))=true->false=(bq x))/\((decide (x.aq=(4:Int)))=false->(qe n x)))))/\((v0=(!false))->((true=true->false=(bq x))/\(true=false->(qe n x)))))))) ?_;have f0:=dj x;have f1:=all_zero bq x.M;refine λ _=>⟨λ _ _=>⟨λ _=>?_,λ _=>⟨⟨0,?_,⟨rfl,?_,ae⟩,ae⟩,λ k1 _=>have b1q:=di bq zE x.M k1;have b1r:=dL bq zE x.M k1;have b1s:=dU bq x.M k1;have b1t:=b9 zE x.M k1;λ _ _=>⟨λ _ _=>⟨?_,?_,λ _=>?_,λ _=>⟨?_,k1+1,?_,?_,⟨rfl,?_,ae⟩,ae⟩⟩,λ _=>?_⟩⟩⟩,λ _=>⟨λ _=>?_,λ _=>⟨⟨0,?_,⟨rfl,?_,ae⟩,ae⟩,λ k1 _=>have a4g:=di bq zE x.M k1;have a4h:=dL bq zE x.M k1;have b1p:=dU bq x.M k1;have b3d:=b9 zE x.M k1;λ _ _=>⟨λ _ _=>⟨?_,?_,λ _=>?_,λ _=>⟨?_,k1+1,?_,?_,⟨rfl,?_,ae⟩,ae⟩⟩,λ _=>?_⟩⟩⟩⟩;all_goals try and_intros
 all_goals try rw[Q3 x]
 all_goals first|rfl|trivial|(simp only[b3v,b3u,ak,O] at *;omega)|(simp_all [Mt];done)|(simp_all [Mt,ak,O];omega)
def Sn :∀ n,bD [gW n]
 | 0=>⟨⟨ar gV,λ _ h=>absurd h (b4q _)⟩,ae⟩
 | n+1=>by
  have ih:=Sn  n;exact⟨HB n ⟨ih.1,jn,ae⟩,ae⟩
def jo :aL.Good iF :=
 ⟨ar gV,λ x hp=>(Sn  (cb x+1)).1.2 x (b4m _)⟩
def oJ(t a:Int)(x:J):Bool:=decide (cV x.aq=(x.M.length:Int)) &&
 (if x.aq=3 then decide (0<=x.aN/\x.aN<=t) else if x.aq=4 then decide (0<=x.aN/\x.aN<=a) else decide (x.aN=0)) &&
 (!decide (x.aq=5)||bq (x.M.getD 0 ⟨0,0,[]⟩))
mutual
def bg(t a:Int):J->Bool
 | ⟨k,n,ks⟩=>oJ t a ⟨k,n,ks⟩&&na t a ks
def na(t a:Int):List J->Bool
 | []=>true
 | k::ks=>bg t a k&&na t a ks
end
def XC(t a:Int):∀ xs,na t a xs=bp (bg t a) xs
 | []=>rfl
 | x::xs=>by rw[na,bp,XC t a xs]
def il(t a:Int)(x:J):bg t a x=(oJ t a x&&bp (bg t a) x.M):=by
 cases x;simp[bg,XC]
def bo(n:Int):Int:=IntKind.wrap .i64 (n - 1)
def Ft(n:Int)(h : -9223372036854775807<=n/\n<=9223372036854775807):bo n=n - 1:=by
 simp[bo,IntKind.wrap,IntKind.signed,IntKind.bits];omega
def mN(n:Nat):aL:=⟨vE,[.r (.st .expr), .v (.int .i64)],λ (x:J) (left:Int)=>⟨(some (cb x<n/\0<=left/\left<=1048576),[⟨(.int .i64),fk (aM x) left⟩])⟩⟩
def Gf:aL:=⟨vE,[.r (.st .expr), .v (.int .i64)],λ (x:J) (left:Int)=>⟨(some (0<=left/\left<=1048576),[⟨(.int .i64),fk (aM x) left⟩])⟩⟩
def TX(x:J)(left:Int):Nat->az:=(cP 0 (.b (Nat) (λ k=>k<=x.M.length) (λ k=>x.M.length - k) [4,6,7] (λ k=>[(5, .aF ⟨(.int .i64),((k:Int):Int)⟩),(1, .aF ⟨(.int .i64),(fk (1+aG aM (x.M.take k)) left:Int)⟩)])) bI)
abbrev AN(n:Nat)(x:J)(left:Int)(k1:Nat):Prop:=(let v0:=fk (1+aG aM (x.M.take k1)) left;let v1:=fk (aM (x.M.getD k1 zE)) v0;(x.M.length<=140737488355328 ->
 (ak (k1:Int) x.M.length/\((cb (x.M.getD k1 zE)<n/\0<=v0/\v0<=1048576)/\(O v1 ->
 (O ((k1:Int)+(1:Int))/\(∃ k2:Nat,(k2<=x.M.length/\(x.M.length - k2<x.M.length - k1/\((x=x/\(v1=(fk (1+aG aM (x.M.take k2)) left)/\(((k1:Int)+(1:Int))=(k2:Int)/\True)))/\True))))))))))
def R8(n:Nat)(hE:bD [mN n]):aL.Good (mN (n+1)):=by
 refine⟨ar mz,?_⟩;intro (x:J) (left:Int) (hp:cb x<n+1/\0<=left/\left<=1048576);refine aV [mN n] [] [] [] hE mz Me (TX x left) (let v0:=(x.M.length:Int);((O (left - (1:Int))/\((∃ k1:Nat,(k1<=x.M.length/\((x=x/\((left - (1:Int))=(fk (1+aG aM (x.M.take k1)) left)/\((0:Int)=(k1:Int)/\True)))/\True)))/\(∀ k1:Nat,let v1:=fk (1+aG aM (x.M.take k1)) left;(k1<=x.M.length->(x.M.length<=140737488355328->(O v0->(((decide ((k1:Int)<v0))=true->(((decide ((0:Int)<=v1))=true->(AN n x left k1))/\((decide ((0:Int)<=v1))=false->v1=(fk (aM x) left))))/\((decide ((k1:Int)<v0))=(!true)->((false=true->(AN n x left k1))/\(false=false->v1=(fk (aM x) left))))))))))))) ?_;have f0:=dj x;have f1:=ik aM x.M;have f2:=dX (1+aG aM (x.M.take 0)) left;refine⟨?_,⟨0,?_,⟨rfl,?_,?_,ae⟩,ae⟩,λ k1 _=>have CO:=fj aM zE x.M k1;have pK:=bY aM x.M k1;have vX:=bY aM x.M (k1+1);have HN:=gT aM x.M k1;have SA:=b9 zE x.M k1;have Vg:=dX (1+aG aM (x.M.take k1)) left;have Yz:=dX (1+aG aM (x.M.take (k1+1))) left;have YA:=dX (aM (x.M.getD k1 zE)) (fk (1+aG aM (x.M.take k1)) left);have YB:=dX (1+aG aM x.M) left;λ _ _=>⟨λ _=>⟨λ _ _=>⟨?_,?_,λ _=>⟨?_,k1+1,?_,?_,⟨rfl,?_,?_,ae⟩,ae⟩⟩,λ _=>?_⟩,λ _=>⟨λ _ _=>⟨?_,?_,λ _=>⟨?_,k1+1,?_,?_,⟨rfl,?_,?_,ae⟩,ae⟩⟩,λ _=>?_⟩⟩⟩;all_goals try and_intros
 all_goals try rw[zl x]
 all_goals first|rfl|trivial|omega|(simp only[b3v,b3u,ak,O,bS,cB,bJ,aY] at *;omega)|(simp[ak,O] at *;omega)|grind
def So :∀ n,bD [mN n]
 | 0=>⟨⟨ar mz,λ _ _ h=>absurd h.1 (b4q _)⟩,ae⟩
 | n+1=>by
  have ih:=So  n;exact⟨R8 n ⟨ih.1,ae⟩,ae⟩
def MP :aL.Good Gf :=
 ⟨ar mz,λ x left hp=>(So  (cb x+1)).1.2 x left (⟨b4m _,hp⟩)⟩
def lA(n:Nat):aL:=⟨sr,[.r (.st .expr)],λ (x:J)=>⟨(some (cb x<n/\bL x<=1048576),[⟨(.int .i64),(bL x:Int)⟩])⟩⟩
def DD:aL:=⟨sr,[.r (.st .expr)],λ (x:J)=>⟨(some (bL x<=1048576),[⟨(.int .i64),(bL x:Int)⟩])⟩⟩
def RJ(x:J):Nat->az:=(cP 0 (.b (Nat) (λ k=>k<=x.M.length) (λ k=>x.M.length - k) [2] (λ k=>[(4, .aF ⟨(.int .i64),((k:Int):Int)⟩),(3, .aF ⟨(.int .i64),((iI bL (x.M.take k):Int):Int)⟩)])) bI)
def Qk(n:Nat)(hE:bD [lA n,ma]):aL.Good (lA (n+1)):=by
 refine⟨ar lj,?_⟩;intro (x:J) (hp:cb x<n+1/\bL x<=1048576);refine aV [lA n,ma] [] [] [] hE lj Ku (RJ x) (let v0:=(x.M.length:Int);(((∃ k1:Nat,(k1<=x.M.length/\((x=x/\((0:Int)=(iI bL (x.M.take k1):Int)/\((0:Int)=(k1:Int)/\True)))/\True)))/\(∀ k1:Nat,let v1:=(iI bL (x.M.take k1):Int);let v3:=x.M.getD k1 zE;let v2:=(bL v3:Int);(k1<=x.M.length->(x.M.length<=140737488355328->(O v0->(((decide ((k1:Int)<v0))=true->(x.M.length<=140737488355328->(ak (k1:Int) x.M.length/\((cb v3<n/\bL v3<=1048576)/\(O v2->(O (max v1 v2)->(O ((k1:Int)+(1:Int))/\(∃ k2:Nat,(k2<=x.M.length/\(x.M.length - k2<x.M.length - k1/\((x=x/\((max v1 v2)=(iI bL (x.M.take k2):Int)/\(((k1:Int)+(1:Int))=(k2:Int)/\True)))/\True)))))))))))/\((decide ((k1:Int)<v0))=false->(O (v1+(1:Int))/\(v1+(1:Int))=(bL x:Int))))))))))) ?_;rw[gO x] at hp;have f0:=dj x;have f1:=WO bL x.M;refine⟨⟨0,?_,⟨rfl,?_,?_,ae⟩,ae⟩,λ k1 _=>have CO:=si bL zE x.M k1;have pK:=iY bL x.M k1;have vX:=iY bL x.M (k1+1);have HN:=DW bL x.M k1;have SA:=b9 zE x.M k1;have Vg:=sf bL zE x.M k1;λ _ _=>⟨λ _ _=>⟨?_,?_,λ _ _=>⟨?_,k1+1,?_,?_,⟨rfl,?_,?_,ae⟩,ae⟩⟩,λ _=>⟨?_,?_⟩⟩⟩;all_goals try and_intros
 all_goals try rw[gO x]
 all_goals first|rfl|trivial|omega|(simp only[b3v,b3u,ak,O,bS,cB,bJ,aY] at *;omega)|(simp[ak,O] at *;omega)|grind
def Ok :∀ n,bD [lA n]
 | 0=>⟨⟨ar lj,λ _ h=>absurd h.1 (b4q _)⟩,ae⟩
 | n+1=>by
  have ih:=Ok  n;exact⟨Qk n ⟨ih.1,AE,ae⟩,ae⟩
def KM :aL.Good DD :=
 ⟨ar lj,λ x hp=>(Ok  (cb x+1)).1.2 x (⟨b4m _,hp⟩)⟩
def mQ(n:Nat):aL:=⟨vH,[.v (.st .sig), .r (.st .expr)],λ (gg:aU) (x:J)=>⟨(some (cb x<n),[⟨.bool,bg (bo gg.av) (bo gg.bc) x⟩])⟩⟩
def Gg:aL:=⟨vH,[.v (.st .sig), .r (.st .expr)],λ (gg:aU) (x:J)=>⟨(none,[⟨.bool,bg (bo gg.av) (bo gg.bc) x⟩])⟩⟩
def T0(gg:aU)(x:J):Nat->az:=(cP 1 (.b (Nat) (λ k=>k<=x.M.length/\bp (bg (bo gg.av) (bo gg.bc)) (x.M.take k)=true) (λ k=>x.M.length - k) [0,6,7,8,9,10,11,12,13,14,15,16,17,18,19,20,21,22,31,32,41,42,43,44,45,46,47,48,49,50,51,52,53,54,55,56,57,58,59,60,61] (λ k=>[(5, .aF ⟨(.int .i64),((k:Int):Int)⟩)])) bI)
abbrev PQ(n:Nat)(gg:aU)(x:J):Prop:=(let v0:=bo gg.bc;let v1:=bo gg.av;let v2:=(x.M.length:Int);((∃ k1:Nat,((k1<=x.M.length/\bp (bg v1 v0) (x.M.take k1)=true)/\((x=x/\(gg=gg/\((0:Int)=(k1:Int)/\True)))/\True)))/\(∀ k1:Nat,let v3 := !(bg v1 v0 (x.M.getD k1 zE));((k1<=x.M.length/\bp (bg v1 v0) (x.M.take k1)=true) ->
 (x.M.length<=140737488355328 ->
 (O v2 ->
 (((decide ((k1:Int)<v2))=true ->
 (ak (k1:Int) x.M.length/\(x.M.length<=140737488355328 ->
 (cb (x.M.getD k1 zE)<n/\((v3=true ->
 false=(bg v1 v0 x))/\(v3=false ->
 (O ((k1:Int)+(1:Int))/\(∃ k2:Nat,((k2<=x.M.length/\bp (bg v1 v0) (x.M.take k2)=true)/\(x.M.length - k2<x.M.length - k1/\((x=x/\(gg=gg/\(((k1:Int)+(1:Int))=(k2:Int)/\True)))/\True)))))))))))/\((decide ((k1:Int)<v2))=false ->
 true=(bg v1 v0 x)))))))))
def Sb(n:Nat)(hE:bD [mQ n,uT,gD,iF]):aL.Good (mQ (n+1)):=by
 refine⟨ar mC,?_⟩;intro (gg:aU) (x:J) (hp:cb x<n+1);refine aV [mQ n,uT,gD,iF] [29,39] [] [2] hE mC Mh (T0 gg x) (let v0:=bg (bo gg.av) (bo gg.bc) x;let v1 := !(decide (((x.M.length:Int))=(cV x.aq)));let v2:=PQ n gg x;let v3 := !(decide (x.aN=(0:Int)));((x.M.length<=140737488355328->(O ((x.M.length:Int))->(O x.aq->(O (cV x.aq)->((v1=true->false=v0)/\(v1=false->(O x.aq->(((decide (x.aq=(3:Int)))=true->(O x.aN->(O gg.av->((decide ((0:Int)<=x.aN/\x.aN<=(IntKind.wrap .i64 (gg.av - (1:Int)))))=v0))))/\((decide (x.aq=(3:Int)))=false->(((decide (x.aq=(4:Int)))=true->(O x.aN->(O gg.bc->((decide ((0:Int)<=x.aN/\x.aN<=(IntKind.wrap .i64 (gg.bc - (1:Int)))))=v0))))/\((decide (x.aq=(4:Int)))=false->(O x.aN->((v3=false->(O x.aq->(((decide (x.aq=(5:Int)))=true->(x.M.length<=140737488355328->(ak (0:Int) x.M.length/\(((!(bq (x.M.getD 0 zE)))=true->false=v0)/\((!(bq (x.M.getD 0 zE)))=false->v2)))))/\((decide (x.aq=(5:Int)))=(!true)->((false=true->false=v0)/\(false=false->v2))))))/\(v3=(!false)->((true=true->false=v0)/\(true=false->v2)))))))))))))))))) ?_;have f0:=dj x;have f1:=all_zero (bg (bo gg.av) (bo gg.bc)) x.M;refine λ _ _ _ _=>⟨λ _=>?_,λ _ _=>⟨λ _ _ _=>?_,λ _=>⟨λ _ _ _=>?_,λ _ _=>⟨λ _ _=>⟨λ _ _=>⟨?_,λ _=>?_,λ _=>⟨⟨0,?_,⟨rfl,rfl,?_,ae⟩,ae⟩,λ k1 _=>have b2V:=di (bg (bo gg.av) (bo gg.bc)) zE x.M k1;have b2W:=dL (bg (bo gg.av) (bo gg.bc)) zE x.M k1;have b2X:=dU (bg (bo gg.av) (bo gg.bc)) x.M k1;have b2Y:=b9 zE x.M k1;λ _ _=>⟨λ _=>⟨?_,λ _=>⟨?_,λ _=>?_,λ _=>⟨?_,k1+1,?_,?_,⟨rfl,rfl,?_,ae⟩,ae⟩⟩⟩,λ _=>?_⟩⟩⟩,λ _=>⟨λ _=>?_,λ _=>⟨⟨0,?_,⟨rfl,rfl,?_,ae⟩,ae⟩,λ k1 _=>have b2R:=di (bg (bo gg.av) (bo gg.bc)) zE x.M k1;have b2S:=dL (bg (bo gg.av) (bo gg.bc)) zE x.M k1;have b2T:=dU (bg (bo gg.av) (bo gg.bc)) x.M k1;have b2U:=b9 zE x.M k1;λ _ _=>⟨λ _=>⟨?_,λ _=>⟨?_,λ _=>?_,λ _=>⟨?_,k1+1,?_,?_,⟨rfl,rfl,?_,ae⟩,ae⟩⟩⟩,λ _=>?_⟩⟩⟩⟩,λ _=>⟨λ _=>?_,λ _=>⟨⟨0,?_,⟨rfl,rfl,?_,ae⟩,ae⟩,λ k1 _=>have a2F:=di (bg (bo gg.av) (bo gg.bc)) zE x.M k1;have a2G:=dL (bg (bo gg.av) (bo gg.bc)) zE x.M k1;have a2H:=dU (bg (bo gg.av) (bo gg.bc)) x.M k1;have a6v:=b9 zE x.M k1;λ _ _=>⟨λ _=>⟨?_,λ _=>⟨?_,λ _=>?_,λ _=>⟨?_,k1+1,?_,?_,⟨rfl,rfl,?_,ae⟩,ae⟩⟩⟩,λ _=>?_⟩⟩⟩⟩⟩⟩⟩;all_goals try and_intros
 all_goals try rw[il _ _ x]
 all_goals first|rfl|trivial|(simp only[decide_eq_true_eq,decide_eq_false_iff_not,ak,O] at *;omega)|(simp_all [oJ,bo];done)|(simp_all [oJ,bo,ak,O];omega)|grind [oJ,bo,cV,ak,O]
def Sr :∀ n,bD [mQ n]
 | 0=>⟨⟨ar mC,λ _ _ h=>absurd h (b4q _)⟩,ae⟩
 | n+1=>by
  have ih:=Sr  n;exact⟨Sb n ⟨ih.1,MO,jn,jo,ae⟩,ae⟩
def MR :aL.Good Gg :=
 ⟨ar mC,λ gg x hp=>(Sr  (cb x+1)).1.2 gg x (b4m _)⟩
end
end Go.Proofs.YtmjfpcajohhbeaaGreatDoor

set_option maxRecDepth 4000
set_option maxHeartbeats 4000000
namespace Go.Proofs.YtmjfpcajohhbeaaGreatDoor
noncomputable section
def bP(gg:aU):Bool:=decide (0<=gg.av/\gg.av<=3)&&decide (0<=gg.bc/\gg.bc<=4)
def Li(gg:aU)(x:J)(bO depth:Int):Bool:=bg (bo gg.av) (bo gg.bc) x&&decide ((aM x:Int)<=bO)&&decide ((bL x:Int)<=depth)
def Ur(gg:aU)(x:J)(bO depth:Int):Int:=bif Li gg x bO depth then bO - aM x else 0
def sa:aL:=⟨DX,[.v (.st .sig)],λ (gg:aU)=>⟨(none,[⟨.bool,bP gg⟩])⟩⟩
def Ry(gg:aU):Nat->az:=bI
def we:aL.Good sa:=by
 refine⟨ar Ah,?_⟩;intro (gg:aU) _;refine aV [fO] [] [] [1] ⟨fW,ae⟩ Ah Kg (Ry gg) (let v0:=decide ((0:Int)<=gg.av/\gg.av<=(3:Int));((O gg.av->(((v0=true)->(O gg.bc->((decide ((0:Int)<=gg.bc/\gg.bc<=(4:Int)))=(bP gg))))/\((v0=(!true))->false=(bP gg)))))) ?_;refine λ _=>⟨λ _ _=>?_,λ _=>?_⟩;all_goals try and_intros
 all_goals first|rfl|trivial|(simp_all [bP];done)|(simp_all [bP];omega)
def qm:aL:=⟨Je,[.v (.st .sig)],λ (gg:aU)=>⟨(none,[⟨.bool,bP gg⟩])⟩⟩
def WC(gg:aU):Nat->az:=bI
def pZ:aL.Good qm:=by
 refine⟨ar FO,?_⟩;intro (gg:aU) _;refine aV [gD] [] [] [1] ⟨jn,ae⟩ FO OJ (WC gg) (let v0:=decide ((0:Int)<=gg.av/\gg.av<=(3:Int));((O gg.av->(((v0=true)->(O gg.bc->((decide ((0:Int)<=gg.bc/\gg.bc<=(4:Int)))=(bP gg))))/\((v0=(!true))->false=(bP gg)))))) ?_;refine λ _=>⟨λ _ _=>?_,λ _=>?_⟩;all_goals try and_intros
 all_goals first|rfl|trivial|(simp_all [bP];done)|(simp_all [bP];omega)
end
end Go.Proofs.YtmjfpcajohhbeaaGreatDoor

set_option maxRecDepth 4000
set_option maxHeartbeats 4000000
namespace Go.Proofs.YtmjfpcajohhbeaaGreatDoor
noncomputable section
def Jm(t a:Int)(x:J):Bool:=if x.aq=3 then decide (0<=x.aN/\x.aN<=t) else if x.aq=4 then decide (0<=x.aN/\x.aN<=a) else decide (x.aN=0)
def xd(t a:Int)(x:J):oJ t a x=(decide (cV x.aq=(x.M.length:Int))&&Jm t a x&&(!decide (x.aq=5)||bq (x.M.getD 0 ⟨0,0,[]⟩))):=rfl
def zq(gg:aU)(x:J)(bO depth:Int) :
  (bg (bo gg.av) (bo gg.bc) x=true/\(aM x:Int)<=bO/\(bL x:Int)<=depth/\Li gg x bO depth=true/\Ur gg x bO depth=bO - aM x) \/
  ((bg (bo gg.av) (bo gg.bc) x=false\/bO<(aM x:Int)\/depth<(bL x:Int))/\Li gg x bO depth=false/\Ur gg x bO depth=0):=by
 unfold Ur Li;cases bg (bo gg.av) (bo gg.bc) x
 .right;simp
 .rcases b7x bO (aM x) with h|h
  .right;simp[h,Int.not_le.2 h]
  .rcases b7x depth (bL x) with h'|h'
   .right;simp[h',Int.not_le.2 h']
   .left;simp[h,h']
def oe(n:Nat):aL:=⟨yY,[.v (.st .sig), .v (.st .expr), .v (.int .i64), .v (.int .i64)],λ (gg:aU) (x:J) (bO:Int) (depth:Int)=>⟨(some (cb x<n/\0<=bO/\bO<=1048576/\0<=depth/\depth<=1048576),[⟨(.int .i64),Ur gg x bO depth⟩,⟨.bool,Li gg x bO depth⟩])⟩⟩
def IG:aL:=⟨yY,[.v (.st .sig), .v (.st .expr), .v (.int .i64), .v (.int .i64)],λ (gg:aU) (x:J) (bO:Int) (depth:Int)=>⟨(some (0<=bO/\bO<=1048576/\0<=depth/\depth<=1048576),[⟨(.int .i64),Ur gg x bO depth⟩,⟨.bool,Li gg x bO depth⟩])⟩⟩
def Wt(gg:aU)(x:J)(bO:Int)(depth:Int):Nat->az:=(cP 100012 (.u (cV x.aq=(x.M.length:Int)/\1<=bO/\1<=depth/\Jm (bo gg.av) (bo gg.bc) x=true) [0,1,14,15,16,17,18,19,20,21,22,23,24,25,26,27,28] [] [] [] (cP 100014 (.u (oJ (bo gg.av) (bo gg.bc) x=true/\1<=bO/\1<=depth) [] [] [] [] (cP 1 (.b (Nat) (λ k=>k<=x.M.length/\bp (bg (bo gg.av) (bo gg.bc)) (x.M.take k)=true/\1+(aG aM (x.M.take k):Int)<=bO/\1+(iI bL (x.M.take k):Int)<=depth) (λ k=>x.M.length - k) [5,63,64,65] (λ k=>[(68, .aF ⟨(.int .i64),((k:Int):Int)⟩),(2, .aF ⟨(.int .i64),(bO - (1+(aG aM (x.M.take k):Int)):Int)⟩)])) bI)) bI)) bI)
abbrev Rr(gg:aU)(x:J)(bO:Int)(depth:Int):Prop:=(∃ u1:Unit,((cV x.aq=(x.M.length:Int)/\1<=bO/\1<=depth/\Jm (bo gg.av) (bo gg.bc) x=true)/\((bO=bO/\(depth=depth/\(gg=gg/\(x=x/\True))))/\True)))
abbrev Rs(gg:aU)(x:J)(bO:Int)(depth:Int):Prop:=(∃ u2:Unit,((oJ (bo gg.av) (bo gg.bc) x=true/\1<=bO/\1<=depth)/\((bO=bO/\(depth=depth/\(gg=gg/\(x=x/\True))))/\True)))
abbrev Du(n:Nat)(gg:aU)(x:J)(bO:Int)(depth:Int):Prop:=(let v1:=(x.M.length:Int);let v6:=Rr gg x bO depth;let v7:=(0:Int);let v0:=v7=(Ur gg x bO depth)/\false=(Li gg x bO depth);let v8:=(1:Int);let v2:=depth - v8;let v3 := !(decide (v7<=x.aN/\x.aN<=(IntKind.wrap .i64 (gg.bc - v8))));let v4 := !(decide (v7<=x.aN/\x.aN<=(IntKind.wrap .i64 (gg.av - v8))));let v9:=bo gg.bc;let va:=Rs gg x bO depth;let vb:=bo gg.av;let v5:=bg vb v9;((O x.aq ->
 (((decide (x.aq=(3:Int)))=true ->
 (O x.aN ->
 (O gg.av ->
 (((v4=true) ->
 v0)/\((v4=false) ->
 v6)))))/\((decide (x.aq=(3:Int)))=false ->
 (((decide (x.aq=(4:Int)))=true ->
 (O x.aN ->
 (O gg.bc ->
 (((v3=true) ->
 v0)/\((v3=false) ->
 v6)))))/\((decide (x.aq=(4:Int)))=false ->
 (O x.aN ->
 (((!(decide (x.aN=v7)))=true ->
 v0)/\((!(decide (x.aN=v7)))=false ->
 v6))))))))/\(∀ u1:Unit,((cV x.aq=v1/\1<=bO/\1<=depth/\Jm vb v9 x=true) ->
 ((O x.aq ->
 (((decide (x.aq=(5:Int)))=true ->
 (x.M.length<=140737488355328 ->
 (ak v7 x.M.length/\(((!(bq (x.M.getD 0 zE)))=true ->
 v0)/\((!(bq (x.M.getD 0 zE)))=false ->
 va)))))/\((decide (x.aq=(5:Int)))=(!true) ->
 ((false=true ->
 v0)/\(false=false ->
 va)))))/\(∀ u2:Unit,((oJ vb v9 x=true/\1<=bO/\1<=depth) ->
 (O (bO - v8)/\(x.M.length<=140737488355328 ->
 (O (v1) ->
 ((∃ k3:Nat,let vc:=x.M.take k3;((k3<=x.M.length/\bp v5 vc=true/\1+(aG aM vc:Int)<=bO/\1+(iI bL vc:Int)<=depth)/\(((bO - v8)=(bO - (1+(aG aM vc:Int)))/\(depth=depth/\(gg=gg/\(x.M=x.M/\((v1)=(v1)/\(v7=(k3:Int)/\True))))))/\True)))/\(∀ k3:Nat,let vd:=aI (x.M.getD k3 zE);let ve:=x.M.take k3;let vc:=bO - (1+(aG aM ve:Int));((k3<=x.M.length/\bp v5 ve=true/\1+(aG aM ve:Int)<=bO/\1+(iI bL ve:Int)<=depth) ->
 (((decide ((k3:Int)<(v1)))=true ->
 (ak (k3:Int) x.M.length/\(O v2/\((cb vd<n/\0<=vc/\vc<=1048576/\0<=v2/\v2<=1048576)/\(O (Ur gg vd vc v2) ->
 (((!(Li gg vd vc v2))=true ->
 v0)/\((!(Li gg vd vc v2))=false ->
 (O ((k3:Int)+v8)/\(∃ k4:Nat,let vf:=x.M.take k4;((k4<=x.M.length/\bp v5 vf=true/\1+(aG aM vf:Int)<=bO/\1+(iI bL vf:Int)<=depth)/\(x.M.length - k4<x.M.length - k3/\(((Ur gg vd vc v2)=(bO - (1+(aG aM vf:Int)))/\(depth=depth/\(gg=gg/\(x.M=x.M/\((v1)=(v1)/\(((k3:Int)+v8)=(k4:Int)/\True))))))/\True))))))))))))/\((decide ((k3:Int)<(v1)))=false ->
 (vc=(Ur gg x bO depth)/\true=(Li gg x bO depth)))))))))))))))))
abbrev Rt(n:Nat)(gg:aU)(x:J)(bO:Int)(depth:Int):Prop:=(let v0 := !(decide ((cV x.aq)=((x.M.length:Int))));(O x.aq ->
 (O (cV x.aq) ->
 (x.M.length<=140737488355328 ->
 (O ((x.M.length:Int)) ->
 ((v0=true ->
 ((0:Int)=(Ur gg x bO depth)/\false=(Li gg x bO depth)))/\(v0=false ->
 (Du n gg x bO depth))))))))
abbrev Ru(n:Nat)(gg:aU)(x:J)(bO:Int)(depth:Int):Prop:=((true=true ->
 ((0:Int)=(Ur gg x bO depth)/\false=(Li gg x bO depth)))/\(true=false ->
 (Du n gg x bO depth)))
def Ul(n:Nat)(hE:bD [oe n,yI,fO,fh]):aL.Good (oe (n+1)):=by
 refine⟨ar nZ,?_⟩;intro (gg:aU) (x:J) (bO:Int) (depth:Int) (hp:cb x<n+1/\0<=bO/\bO<=1048576/\0<=depth/\depth<=1048576);refine aV [oe n,yI,fO,fh] [40,49] [] [4,5] hE nZ OC (Wt gg x bO depth) (let v0:=Rt n gg x bO depth;let v1:=Ru n gg x bO depth;((((decide (bO=(0:Int)))=false->(((decide (depth=(0:Int)))=false->v0)/\((decide (depth=(0:Int)))=(!false)->v1)))/\((decide (bO=(0:Int)))=(!false)->((true=false->v0)/\(true=(!false)->v1)))))) ?_;have fs:=zq gg x bO depth;rw[il _ _ x,zl x,gO x] at fs;have f0:=dj x;have f1:=ik aM x.M;have f2:=WO bL x.M;have f3:=all_zero (bg (bo gg.av) (bo gg.bc)) x.M;refine⟨λ _=>⟨λ _ _ _ _ _=>⟨λ _=>⟨?_,?_⟩,λ _=>⟨λ _=>⟨λ _ _ _=>⟨λ _=>⟨?_,?_⟩,λ _=>⟨(),?_,⟨rfl,rfl,rfl,rfl,ae⟩,ae⟩⟩,λ _=>⟨λ _ _ _=>⟨λ _=>⟨?_,?_⟩,λ _=>⟨(),?_,⟨rfl,rfl,rfl,rfl,ae⟩,ae⟩⟩,λ _ _=>⟨λ _=>⟨?_,?_⟩,λ _=>⟨(),?_,⟨rfl,rfl,rfl,rfl,ae⟩,ae⟩⟩⟩⟩,λ u1 _=>⟨λ _=>⟨λ _ _=>⟨?_,λ _=>⟨?_,?_⟩,λ _=>⟨(),?_,⟨rfl,rfl,rfl,rfl,ae⟩,ae⟩⟩,λ _=>⟨λ _=>⟨?_,?_⟩,λ _=>⟨(),?_,⟨rfl,rfl,rfl,rfl,ae⟩,ae⟩⟩⟩,λ u2 _=>⟨?_,λ _ _=>⟨⟨0,?_,⟨?_,rfl,rfl,rfl,rfl,?_,ae⟩,ae⟩,λ k3 _=>have a2F:=di (bg (bo gg.av) (bo gg.bc)) zE x.M k3;have a2G:=dL (bg (bo gg.av) (bo gg.bc)) zE x.M k3;have a2H:=dU (bg (bo gg.av) (bo gg.bc)) x.M k3;have a6v:=b9 zE x.M k3;have b0j:=fj aM zE x.M k3;have b0k:=bY aM x.M (k3+1);have b0l:=gT aM x.M k3;have b0m:=si bL zE x.M k3;have b0n:=iY bL x.M (k3+1);have b0o:=DW bL x.M k3;have a8s:=zq gg (x.M.getD k3 zE) (bO - (1+(aG aM (x.M.take k3):Int))) (depth - 1);⟨λ _=>⟨?_,?_,?_,λ _=>⟨λ _=>⟨?_,?_⟩,λ _=>⟨?_,k3+1,?_,?_,⟨?_,rfl,rfl,rfl,rfl,?_,ae⟩,ae⟩⟩⟩,λ _=>⟨?_,?_⟩⟩⟩⟩⟩⟩⟩,λ _=>⟨λ _=>⟨?_,?_⟩,λ _=>⟨λ _=>⟨λ _ _ _=>⟨λ _=>⟨?_,?_⟩,λ _=>⟨(),?_,⟨rfl,rfl,rfl,rfl,ae⟩,ae⟩⟩,λ _=>⟨λ _ _ _=>⟨λ _=>⟨?_,?_⟩,λ _=>⟨(),?_,⟨rfl,rfl,rfl,rfl,ae⟩,ae⟩⟩,λ _ _=>⟨λ _=>⟨?_,?_⟩,λ _=>⟨(),?_,⟨rfl,rfl,rfl,rfl,ae⟩,ae⟩⟩⟩⟩,λ u1 _=>⟨λ _=>⟨λ _ _=>⟨?_,λ _=>⟨?_,?_⟩,λ _=>⟨(),?_,⟨rfl,rfl,rfl,rfl,ae⟩,ae⟩⟩,λ _=>⟨λ _=>⟨?_,?_⟩,λ _=>⟨(),?_,⟨rfl,rfl,rfl,rfl,ae⟩,ae⟩⟩⟩,λ u2 _=>⟨?_,λ _ _=>⟨⟨0,?_,⟨?_,rfl,rfl,rfl,rfl,?_,ae⟩,ae⟩,λ k3 _=>have a6w:=di (bg (bo gg.av) (bo gg.bc)) zE x.M k3;have a6x:=dL (bg (bo gg.av) (bo gg.bc)) zE x.M k3;have a6y:=dU (bg (bo gg.av) (bo gg.bc)) x.M k3;have a9o:=b9 zE x.M k3;have b1x:=fj aM zE x.M k3;have b1y:=bY aM x.M (k3+1);have b1z:=gT aM x.M k3;have b1A:=si bL zE x.M k3;have b1B:=iY bL x.M (k3+1);have b1C:=DW bL x.M k3;have b0p:=zq gg (x.M.getD k3 zE) (bO - (1+(aG aM (x.M.take k3):Int))) (depth - 1);⟨λ _=>⟨?_,?_,?_,λ _=>⟨λ _=>⟨?_,?_⟩,λ _=>⟨?_,k3+1,?_,?_,⟨?_,rfl,rfl,rfl,rfl,?_,ae⟩,ae⟩⟩⟩,λ _=>⟨?_,?_⟩⟩⟩⟩⟩⟩⟩⟩,λ _=>⟨λ _ _ _ _ _=>⟨λ _=>⟨?_,?_⟩,λ _=>⟨λ _=>⟨λ _ _ _=>⟨λ _=>⟨?_,?_⟩,λ _=>⟨(),?_,⟨rfl,rfl,rfl,rfl,ae⟩,ae⟩⟩,λ _=>⟨λ _ _ _=>⟨λ _=>⟨?_,?_⟩,λ _=>⟨(),?_,⟨rfl,rfl,rfl,rfl,ae⟩,ae⟩⟩,λ _ _=>⟨λ _=>⟨?_,?_⟩,λ _=>⟨(),?_,⟨rfl,rfl,rfl,rfl,ae⟩,ae⟩⟩⟩⟩,λ u1 _=>⟨λ _=>⟨λ _ _=>⟨?_,λ _=>⟨?_,?_⟩,λ _=>⟨(),?_,⟨rfl,rfl,rfl,rfl,ae⟩,ae⟩⟩,λ _=>⟨λ _=>⟨?_,?_⟩,λ _=>⟨(),?_,⟨rfl,rfl,rfl,rfl,ae⟩,ae⟩⟩⟩,λ u2 _=>⟨?_,λ _ _=>⟨⟨0,?_,⟨?_,rfl,rfl,rfl,rfl,?_,ae⟩,ae⟩,λ k3 _=>have a2F:=di (bg (bo gg.av) (bo gg.bc)) zE x.M k3;have a2G:=dL (bg (bo gg.av) (bo gg.bc)) zE x.M k3;have a2H:=dU (bg (bo gg.av) (bo gg.bc)) x.M k3;have a6v:=b9 zE x.M k3;have b0j:=fj aM zE x.M k3;have b0k:=bY aM x.M (k3+1);have b0l:=gT aM x.M k3;have b0m:=si bL zE x.M k3;have b0n:=iY bL x.M (k3+1);have b0o:=DW bL x.M k3;have a8s:=zq gg (x.M.getD k3 zE) (bO - (1+(aG aM (x.M.take k3):Int))) (depth - 1);⟨λ _=>⟨?_,?_,?_,λ _=>⟨λ _=>⟨?_,?_⟩,λ _=>⟨?_,k3+1,?_,?_,⟨?_,rfl,rfl,rfl,rfl,?_,ae⟩,ae⟩⟩⟩,λ _=>⟨?_,?_⟩⟩⟩⟩⟩⟩⟩,λ _=>⟨λ _=>⟨?_,?_⟩,λ _=>⟨λ _=>⟨λ _ _ _=>⟨λ _=>⟨?_,?_⟩,λ _=>⟨(),?_,⟨rfl,rfl,rfl,rfl,ae⟩,ae⟩⟩,λ _=>⟨λ _ _ _=>⟨λ _=>⟨?_,?_⟩,λ _=>⟨(),?_,⟨rfl,rfl,rfl,rfl,ae⟩,ae⟩⟩,λ _ _=>⟨λ _=>⟨?_,?_⟩,λ _=>⟨(),?_,⟨rfl,rfl,rfl,rfl,ae⟩,ae⟩⟩⟩⟩,λ u1 _=>⟨λ _=>⟨λ _ _=>⟨?_,λ _=>⟨?_,?_⟩,λ _=>⟨(),?_,⟨rfl,rfl,rfl,rfl,ae⟩,ae⟩⟩,λ _=>⟨λ _=>⟨?_,?_⟩,λ _=>⟨(),?_,⟨rfl,rfl,rfl,rfl,ae⟩,ae⟩⟩⟩,λ u2 _=>⟨?_,λ _ _=>⟨⟨0,?_,⟨?_,rfl,rfl,rfl,rfl,?_,ae⟩,ae⟩,λ k3 _=>have a6w:=di (bg (bo gg.av) (bo gg.bc)) zE x.M k3;have a6x:=dL (bg (bo gg.av) (bo gg.bc)) zE x.M k3;have a6y:=dU (bg (bo gg.av) (bo gg.bc)) x.M k3;have a9o:=b9 zE x.M k3;have b1x:=fj aM zE x.M k3;have b1y:=bY aM x.M (k3+1);have b1z:=gT aM x.M k3;have b1A:=si bL zE x.M k3;have b1B:=iY bL x.M (k3+1);have b1C:=DW bL x.M k3;have b0p:=zq gg (x.M.getD k3 zE) (bO - (1+(aG aM (x.M.take k3):Int))) (depth - 1);⟨λ _=>⟨?_,?_,?_,λ _=>⟨λ _=>⟨?_,?_⟩,λ _=>⟨?_,k3+1,?_,?_,⟨?_,rfl,rfl,rfl,rfl,?_,ae⟩,ae⟩⟩⟩,λ _=>⟨?_,?_⟩⟩⟩⟩⟩⟩⟩⟩⟩;all_goals try and_intros
 all_goals try (first|with_reducible rfl|with_reducible assumption)
 all_goals try simp only[J.eta,ag.eta,au.eta,aJ,bm,bH] at *
 all_goals ((try simp only[bo] at *);generalize IntKind.wrap .i64 (gg.av - 1)=T at *;generalize IntKind.wrap .i64 (gg.bc - 1)=A at *;first|rfl|trivial|(simp only[decide_eq_true_eq,decide_eq_false_iff_not,ak,O] at *;omega)|(rcases fs with ⟨t1,t2,t3,t4,t5⟩|⟨t1,t4,t5⟩<;>(try rw[t4])<;>(try rw[t5])<;>clear t4 t5<;>simp only[decide_eq_true_eq,decide_eq_false_iff_not,xd,Jm,Bool.and_eq_true,Bool.and_eq_false_iff,Bool.not_eq_true',Bool.not_eq_false',O] at *<;>first|rfl|omega|grind|grind [cV]))
def Ll :∀ n,bD [oe n]
 | 0=>⟨⟨ar nZ,λ _ _ _ _ h=>absurd h.1 (b4q _)⟩,ae⟩
 | n+1=>by
  have ih:=Ll  n;exact⟨Ul n ⟨ih.1,Pc,fW,gu,ae⟩,ae⟩
def Pd :aL.Good IG :=
 ⟨ar nZ,λ gg x bO depth hp=>(Ll  (cb x+1)).1.2 gg x bO depth (⟨b4m _,hp⟩)⟩
end
end Go.Proofs.YtmjfpcajohhbeaaGreatDoor

namespace Go.Proofs.YtmjfpcajohhbeaaGreatDoor
noncomputable section
end
end Go.Proofs.YtmjfpcajohhbeaaGreatDoor

set_option maxRecDepth 4000
set_option maxHeartbeats 4000000
namespace Go.Proofs.YtmjfpcajohhbeaaGreatDoor
noncomputable section
def Xr(gg:aU):bP gg=true↔(0<=gg.av/\gg.av<=3)/\(0<=gg.bc/\gg.bc<=4):=by
 simp[bP]
def cD(gg:aU)(x:J):Bool:=Li gg x 200 40
def z6(gg:aU)(x:J):Bool:=bP gg&&cD gg x
def yq(gg:aU)(x:J):cD gg x=true↔bg (bo gg.av) (bo gg.bc) x=true/\aM x<=200/\bL x<=40:=by
 simp only[cD,Li,b3A,b3v];constructor
 .rintro⟨⟨a,b⟩,c⟩;exact⟨a,by omega,by omega⟩
 .rintro⟨a,b,c⟩;exact⟨⟨a,by omega⟩,by omega⟩
def a1w(t a t' a':Int)(h1:t<=t')(h2:a<=a')(x:J)(h:oJ t a x=true):oJ t' a' x=true:=by
 rw[xd] at h ⊢;simp only[Bool.and_eq_true] at h ⊢;refine⟨⟨h.1.1,?_⟩,h.2⟩;have:=h.1.2;unfold Jm at this ⊢;split
 .rename_i e;rw[b4d e] at this;simp only[b3v] at this ⊢;omega
 .rename_i e;rw[b3H e] at this;split
  .rename_i e';rw[b4d e'] at this;simp only[b3v] at this ⊢;omega
  .rename_i e';rw[b3H e'] at this;exact this
mutual
def JK(t a t' a':Int)(h1:t<=t')(h2:a<=a'):∀ x:J,bg t a x=true->bg t' a' x=true
 | ⟨k,n,ks⟩=>λ h=>by
  simp only[bg,b3A] at h ⊢;exact⟨a1w t a t' a' h1 h2 _ h.1,QH t a t' a' h1 h2 ks h.2⟩
def QH(t a t' a':Int)(h1:t<=t')(h2:a<=a'):∀ xs:List J,na t a xs=true->na t' a' xs=true
 | []=>λ _=>rfl
 | x::xs=>λ h=>by
  simp only[na,b3A] at h ⊢;exact⟨JK t a t' a' h1 h2 x h.1,QH t a t' a' h1 h2 xs h.2⟩
end
def Yu(p:Nat->Bool):Nat->Bool
 | 0=>true
 | n+1=>Yu p n&&p n
def l9:aL:=⟨I6,[.v (.st .sig), .v (.st .expr)],λ (gg:aU) (x:J)=>⟨(none,[⟨.bool,cD gg x⟩])⟩⟩
def Wo(gg:aU)(x:J):Nat->az:=bI
def lp:aL.Good l9:=by
 refine⟨ar FG,?_⟩;intro (gg:aU) (x:J) _;refine aV [IG] [] [] [2,3] ⟨Pd,ae⟩ FG Oy (Wo gg x) (((0<=(200:Int)/\(200:Int)<=1048576/\0<=(40:Int)/\(40:Int)<=1048576)/\(O (Ur gg x (200:Int) (40:Int))->(Li gg x (200:Int) (40:Int))=(cD gg x)))) ?_;refine⟨?_,λ _=>?_⟩;all_goals try and_intros
 all_goals first|rfl|trivial|omega|(simp only[b3v,b3u,ak,O,bS,cB,bJ,aY] at *;omega)|(simp[ak,O] at *;omega)|grind
def sK:aL:=⟨B9,[.v (.st .sig), .r (.st .expr)],λ (gg:aU) (x:J)=>⟨(none,[⟨.bool,z6 gg x⟩])⟩⟩
def X8(gg:aU)(x:J):Nat->az:=bI
abbrev F0(gg:aU)(x:J):Prop:=(let v0:=decide (((bL x:Int))<=(40:Int));(bL x<=1048576/\(O ((bL x:Int)) ->
 ((v0=true ->
 (bg (bo gg.av) (bo gg.bc) x)=(z6 gg x))/\(v0=(!true) ->
 false=(z6 gg x))))))
def mH:aL.Good sK:=by
 refine⟨ar HL,?_⟩;intro (gg:aU) (x:J) _;refine aV [qm,Gf,DD,Gg] [] [] [2] ⟨pZ,MP,KM,MR,ae⟩ HL QX (X8 gg x) (let v0:=decide ((0:Int)<=(fk (aM x) (200:Int)));let v1:=bg (bo gg.av) (bo gg.bc) x;((((bP gg)=true->((0<=(200:Int)/\(200:Int)<=1048576)/\(O (fk (aM x) (200:Int))->((v0=true->(F0 gg x))/\(v0=(!true)->((false=true->v1=(z6 gg x))/\(false=(!true)->false=(z6 gg x))))))))/\((bP gg)=(!true)->((false=true->(F0 gg x))/\(false=(!true)->((false=true->v1=(z6 gg x))/\(false=(!true)->false=(z6 gg x))))))))) ?_;have f1:=dX (aM x) 200;have f2:=OU x;have f3:z6 gg x=(bP gg&&(bg (bo gg.av) (bo gg.bc) x&&decide ((aM x:Int)<=200)&&decide ((bL x:Int)<=40))):=rfl;refine⟨λ _=>⟨?_,λ _=>⟨λ _=>⟨?_,λ _=>⟨λ _=>?_,λ _=>?_⟩⟩,λ _=>⟨λ _=>?_,λ _=>?_⟩⟩⟩,λ _=>⟨λ _=>⟨?_,λ _=>⟨λ _=>?_,λ _=>?_⟩⟩,λ _=>⟨λ _=>?_,λ _=>?_⟩⟩⟩;all_goals try and_intros
 all_goals try rw[f3]
 all_goals first|rfl|trivial|omega|(simp only[b3v,b3u,b3I,b3Q] at *;omega)|grind
def oL:aL:=⟨yZ,[.v (.st .sig), .v (.slice (.st .expr))],λ (gg:aU) (xs:List J)=>⟨(none,[⟨.bool,bp (cD gg) xs&&bP gg⟩])⟩⟩
def Nl(gg:aU)(xs:List J):Nat->az:=(cP 0 (.b (Nat) (λ k=>k<=xs.length/\bp (cD gg) (xs.take k)=true) (λ k=>xs.length - k) [0,1] (λ k=>[(9, .aF ⟨(.int .i64),((k:Int):Int)⟩)])) bI)
def qS:aL.Good oL:=by
 refine⟨ar vP,?_⟩;intro (gg:aU) (xs:List J) _;refine aV [l9,sa] [] [] [2] ⟨lp,we,ae⟩ vP GZ (Nl gg xs) (let v0:=(xs.length:Int);((O v0->((∃ k1:Nat,((k1<=xs.length/\bp (cD gg) (xs.take k1)=true)/\((gg=gg/\(xs=xs/\(v0=v0/\((0:Int)=(k1:Int)/\True))))/\True)))/\(∀ k1:Nat,let v1 := !(cD gg (aI (xs.getD k1 zE)));((k1<=xs.length/\bp (cD gg) (xs.take k1)=true)->(((decide ((k1:Int)<v0))=true->(ak (k1:Int) xs.length/\((v1=true->false=(bp (cD gg) xs&&bP gg))/\(v1=false->(O ((k1:Int)+(1:Int))/\(∃ k2:Nat,((k2<=xs.length/\bp (cD gg) (xs.take k2)=true)/\(xs.length - k2<xs.length - k1/\((gg=gg/\(xs=xs/\(v0=v0/\(((k1:Int)+(1:Int))=(k2:Int)/\True))))/\True)))))))))/\((decide ((k1:Int)<v0))=false->(bP gg)=(bp (cD gg) xs&&bP gg))))))))) ?_;have f1:=all_zero (cD gg) xs;refine λ _=>⟨⟨0,?_,⟨rfl,rfl,rfl,?_,ae⟩,ae⟩,λ k1 _=>have HO:=di (cD gg) zE xs k1;have HP:=dL (cD gg) zE xs k1;have HQ:=dU (cD gg) xs k1;⟨λ _=>⟨?_,λ _=>?_,λ _=>⟨?_,k1+1,?_,?_,⟨rfl,rfl,rfl,?_,ae⟩,ae⟩⟩,λ _=>?_⟩⟩;all_goals try and_intros
 all_goals try (first|with_reducible rfl|with_reducible assumption)
 all_goals try simp only[J.eta,ag.eta,au.eta,aJ,bm,bH] at *
 all_goals first|rfl|trivial|(simp only[b3v,b3u,ak,O] at *;omega)|(simp_all;done)|(simp_all [ak,O];omega)
end
end Go.Proofs.YtmjfpcajohhbeaaGreatDoor

namespace Go.Proofs.YtmjfpcajohhbeaaGreatDoor
noncomputable section
mutual
def dr(ts as_:List J):J->J
 | ⟨k,n,ks⟩=>if k=3 then ts.getD n.toNat zE else if k=4 then as_.getD n.toNat zE else ⟨k,n,jJ ts as_ ks⟩
def jJ(ts as_:List J):List J->List J
 | []=>[]
 | x::xs=>dr ts as_ x::jJ ts as_ xs
end
mutual
def dm:J->Int×Int
 | ⟨k,n,ks⟩=>if k=3 then (n+1,0) else if k=4 then (0,n+1) else cu ks
def cu:List J->Int×Int
 | []=>(0,0)
 | x::xs=>(max (dm x).1 (cu xs).1,max (dm x).2 (cu xs).2)
end
def YR(ts as_:List J):∀ xs,jJ ts as_ xs=xs.map (dr ts as_)
 | []=>by rw[jJ];rfl
 | x::xs=>by rw[jJ,YR ts as_ xs];rfl
def Z1(ts as_:List J)(x:J):dr ts as_ x=if x.aq=3 then ts.getD x.aN.toNat zE else if x.aq=4 then as_.getD x.aN.toNat zE else ⟨x.aq,x.aN,x.M.map (dr ts as_)⟩:=by
 cases x with
 | mk k n ks=>rw[dr,YR]
def Em(x:J):dm x=if x.aq=3 then (x.aN+1,0) else if x.aq=4 then (0,x.aN+1) else cu x.M:=by
 cases x with
 | mk k n ks=>rw[dm]
structure gb(ts as_:List J)(x:J):Prop where
 t:(dm x).1<=(ts.length:Int)
 a:(dm x).2<=(as_.length:Int)
def O3(ts as_:List J)(xs:List J):Prop:=(cu xs).1<=(ts.length:Int)/\(cu xs).2<=(as_.length:Int)
def Z0(ts as_:List J)(x:J)(xs:List J):O3 ts as_ (x::xs)↔gb ts as_ x/\O3 ts as_ xs:=by
 have e:gb ts as_ x↔(dm x).1<=(ts.length:Int)/\(dm x).2<=(as_.length:Int):=⟨λ h=>⟨h.t,h.a⟩,λ h=>⟨h.1,h.2⟩⟩;rw[e];unfold O3;rw[cu];dsimp only;omega
def a2V{ts as_:List J}{x:J}(h:gb ts as_ x)(h3:¬ x.aq=3)(h4:¬ x.aq=4):O3 ts as_ x.M:=by
 have h1:=h.t;have h2:=h.a;rw[Em,b3H h3,b3H h4] at h1 h2;exact⟨h1,h2⟩
def YQ{ts as_:List J}:∀ {xs:List J},O3 ts as_ xs->∀ x∈xs,gb ts as_ x
 | [],_,_,h=>by cases h
 | y::ys,h,x,hx=>by
  rw[Z0] at h;rcases b3S.1 hx with rfl|hx
  .exact h.1
  .exact YQ h.2 x hx
def a4o{ts as_:List J}{x:J}(h:gb ts as_ x)(h3:x.aq=3):x.aN<(ts.length:Int):=by
 have:=h.t;rw[Em,if_pos h3] at this;dsimp only at this;omega
def a4n{ts as_:List J}{x:J}(h:gb ts as_ x)(h4:x.aq=4):x.aN<(as_.length:Int):=by
 have:=h.a;rw[Em,if_neg (by omega),if_pos h4] at this;dsimp only at this;omega
mutual
def e9(ts as_:List J):J->Int->J×Int
 | ⟨k,n,ks⟩,l=>if l - 1<0 then (zE,l - 1) else
   if k=3\/k=4 then (let e:=(if k=4 then as_ else ts).getD n.toNat zE;(e,l - 1 - ((aM e:Int) - 1))) else
   (⟨k,n,(dS ts as_ ks (l - 1)).1⟩,(dS ts as_ ks (l - 1)).2)
def dS(ts as_:List J):List J->Int->List J×Int
 | [],l=>([],l)
 | x::xs,l=>((e9 ts as_ x l).1::(dS ts as_ xs (e9 ts as_ x l).2).1,(dS ts as_ xs (e9 ts as_ x l).2).2)
end
def Bs(x:J):1<=aM x:=by cases x;rw[aM];omega
mutual
def a2a(ts as_:List J):∀ (x:J) (l:Int),(e9 ts as_ x l).2<=l - 1/\(0<=(e9 ts as_ x l).2->(e9 ts as_ x l).1=dr ts as_ x/\(e9 ts as_ x l).2=l - (aM (dr ts as_ x):Int))/\((e9 ts as_ x l).2<0->l<(aM (dr ts as_ x):Int))
 | ⟨k,n,ks⟩,l=>by
  rw[e9,dr];have hp:=Bs;by_cases h0:l - 1<0
  .rw[if_pos h0];have:=hp (if k=3 then ts.getD n.toNat zE else if k=4 then as_.getD n.toNat zE else ⟨k,n,jJ ts as_ ks⟩);refine⟨Int.le_refl _,λ h=>by dsimp only at h;omega,λ _=>by omega⟩
  .rw[b3H h0];by_cases h3:k=3
   .subst h3;have:=hp (ts.getD n.toNat zE);rw[if_pos (Or.inl rfl:(3:Int)=3\/(3:Int)=4),if_pos rfl,if_neg (show ¬ (3:Int)=4 by decide)];dsimp only;exact⟨by omega,λ h=>⟨rfl,by omega⟩,λ h=>by omega⟩
   .by_cases h4:k=4
    .subst h4;have:=hp (as_.getD n.toNat zE);rw[if_pos (Or.inr rfl:(4:Int)=3\/(4:Int)=4),if_neg h3,if_pos rfl,if_pos rfl];dsimp only;exact⟨by omega,λ h=>⟨rfl,by omega⟩,λ h=>by omega⟩
    .rw[b3H (by omega),b3H h3,b3H h4,aM];obtain⟨s1,s2,s3⟩:=J4 ts as_ ks (l - 1);refine⟨s1,λ h=>?_,λ h=>?_⟩
     .obtain⟨g1,g2⟩:=s2 h;rw[g1];exact⟨rfl,by rw[g2];omega⟩
     .have:=s3 (by omega) h;omega
def J4(ts as_:List J):∀ (xs:List J) (l:Int),(dS ts as_ xs l).2<=l/\(0<=(dS ts as_ xs l).2->(dS ts as_ xs l).1=jJ ts as_ xs/\(dS ts as_ xs l).2=l - (cY (jJ ts as_ xs):Int))/\(0<=l->(dS ts as_ xs l).2<0->l<(cY (jJ ts as_ xs):Int))
 | [],l=>by
  rw[dS,jJ,cY];exact⟨Int.le_refl _,λ _=>⟨rfl,by dsimp only;omega⟩,λ h h'=>by dsimp only at h';omega⟩
 | x::xs,l=>by
  rw[dS,jJ,cY];obtain⟨a1,a2,a3⟩:=a2a ts as_ x l;obtain⟨b1,b2,b3⟩:=J4 ts as_ xs (e9 ts as_ x l).2;dsimp only;refine⟨by omega,λ h=>?_,λ h h'=>?_⟩
  .obtain⟨c1,c2⟩:=b2 h;obtain⟨d1,d2⟩:=a2 (by omega);rw[c1,d1];exact⟨rfl,by omega⟩
  .rcases b7x (e9 ts as_ x l).2 0 with g|g
   .have:=a3 g;omega
   .have:=b3 g h';obtain⟨d1,d2⟩:=a2 g;omega
end
def UL(gg:aU)(ts as_:List J)(x:J):(decide (0<=(e9 ts as_ x 200).2)&&cD gg (e9 ts as_ x 200).1)=cD gg (dr ts as_ x)/\(0<=(e9 ts as_ x 200).2->(e9 ts as_ x 200).1=dr ts as_ x):=by
 obtain⟨s1,s2,s3⟩:=a2a ts as_ x 200;refine⟨?_,λ h=>(s2 h).1⟩;by_cases h:0<=(e9 ts as_ x 200).2
 .rw[b4k h,(s2 h).1,b4F]
 .have:=s3 (by omega);have e:cD gg (dr ts as_ x)=false:=by
   unfold cD Li;rw[show decide ((aM (dr ts as_ x):Int)<=200)=false from decide_eq_false (by omega)];simp
  rw[b3K h,e];rfl
def fU(y:J):J->List Int->J
 | _,[]=>y
 | x,k::ks=>⟨x.aq,x.aN,x.M.set k.toNat (fU y (x.M.getD k.toNat zE) ks)⟩
structure Cq(x:J)(ks:List Int)(k:Nat):Prop where
 le:k<=ks.length
 ok:eC x (ks.take k)=true
def Cq.zero(x:J)(ks:List Int):Cq x ks 0:=⟨b4G _,rfl⟩
def Cq.bad{x:J}{ks:List Int}{k:Nat}(h:Cq x ks k)(hk:k<ks.length)(hb:¬ (0<=ks.getD k 0/\ks.getD k 0<=((dN x (ks.take k)).M.length:Int) - 1)):eC x ks=false :=
 a4K x ks (k+1) (by rw[(zk x ks k hk).1,show Ro (dN x (ks.take k)) (ks.getD k 0)=false from b3K hb,b4U])
def Cq.next{x:J}{ks:List Int}{k:Nat}(h:Cq x ks k)(hk:k<ks.length)(hb:0<=ks.getD k 0/\ks.getD k 0<=((dN x (ks.take k)).M.length:Int) - 1):Cq x ks (k+1) :=
 ⟨hk,by rw[(zk x ks k hk).1,show Ro (dN x (ks.take k)) (ks.getD k 0)=true from b4k hb,h.ok];rfl⟩
def Cq.done{x:J}{ks:List Int}{k:Nat}(h:Cq x ks k)(hk:ks.length<=k):eC x ks=true:=by rw[<-(a0u x ks k hk).1];exact h.ok
end
end Go.Proofs.YtmjfpcajohhbeaaGreatDoor

set_option maxRecDepth 4000
set_option maxHeartbeats 4000000
namespace Go.Proofs.YtmjfpcajohhbeaaGreatDoor
noncomputable section
def B4:aL:=⟨Qd,[.v (.int .i64), .v (.int .i64)],λ (k:Int) (m:Int)=>⟨(none,[⟨(.st .expr),J.mk k m []⟩])⟩⟩
def Yb(k:Int)(m:Int):Nat->az:=bI
def R3:aL.cS B4:=by
 refine⟨ar Lm,?_⟩;intro (k:Int) (m:Int) _;refine bX [] [] [] [] [] [] [] [] trivial trivial trivial trivial Lm To (Yb k m) ((J.mk k m [])=(J.mk k m [])) ?_;refine rfl;all_goals try and_intros
 all_goals first|rfl|trivial|omega|(simp only[b3v,b3u,ak,O,bS,cB,bJ,aY] at *;omega)|(simp[ak,O] at *;omega)|grind
def nT:aL:=⟨Fj,[.v (.int .i64), .o (.slice (.st .expr))],λ (k:Int) (ks:List J)=>⟨(none,[⟨(.st .expr),J.mk k 0 ks⟩])⟩⟩
def Yc(k:Int)(ks:List J):Nat->az:=bI
def Eg:aL.cS nT:=by
 refine⟨ar sH,?_⟩;intro (k:Int) (ks:List J) _;refine bX [] [] [] [] [] [] [] [] trivial trivial trivial trivial sH FT (Yc k ks) ((J.mk k (0:Int) ks)=(J.mk k 0 ks)) ?_;refine ?_;all_goals try and_intros
 all_goals first|rfl|trivial|omega|(simp only[b3v,b3u,ak,O,bS,cB,bJ,aY] at *;omega)|(simp[ak,O] at *;omega)|grind
def kh(n:Nat):aL:=⟨sj,[.v (.st .expr)],λ (e:J)=>⟨(some (cb e<n/\aB e<=1048576),[⟨(.st .expr),e⟩])⟩⟩
def eU:aL:=⟨sj,[.v (.st .expr)],λ (e:J)=>⟨(some (aB e<=1048576),[⟨(.st .expr),e⟩])⟩⟩
def P0(e:J):Nat->az:=(cP 0 (.a (Nat) (λ i=>i<=e.M.length) (λ i=>e.M.length - i) [0,1,6,7,8,9,10,11] (λ i=>[(14, .aF ⟨(.int .i64),((i:Int):Int)⟩)]) [2] (λ i=>[(3, .box [.aF ⟨(.int .i64),(e.aq:Int)⟩, .aF ⟨(.int .i64),(e.aN:Int)⟩, .aw 2400]),(2400, .aw (.st .expr) (e.M.take i:List J))])) bI)
def NJ(n:Nat)(hE:bD [])(hO:hJ [kh n])(hM:jF [])(hS:im []):aL.cS (kh (n+1)):=by
 refine⟨ar ld,?_⟩;intro (e:J) (hp:cb e<n+1/\aB e<=1048576);refine bX [] [kh n] [] [] [21,22,23] [] [] [1] hE hO hM hS ld Ki (P0 e) (let v0:=(e.M.length:Int);let v1:=((0:Int)=(0:Int)/\((0:Int)=(0:Int)/\(True/\True)))/\True;let v2:=(3:Nat)=3/\(2:Nat)=2;let v3:=e.aq=e.aq/\(e.aN=e.aN/\(True/\True));((O e.aq->(O e.aN->(e.M.length<=140737488355328->(O v0->((∃ i1:Nat,(i1<=e.M.length/\((True/\(True/\(e.M=e.M/\(v0=v0/\((0:Int)=(i1:Int)/\True)))))/\(v3/\((e.M.take i1)=[]/\v1)))))/\(∀ i1:Nat,let v4:=e.M.getD i1 zE;(i1<=e.M.length->(((decide ((i1:Int)<v0))=true->(ak (i1:Int) e.M.length/\(v2/\((2400:Nat)=2400/\((v4.aq=v4.aq/\(v4.aN=v4.aN/\(v4.M=v4.M/\True)))/\((cb (aI v4)<n/\aB (aI v4)<=1048576)/\(v2/\((2400:Nat)=2400/\(v2/\((2400:Nat)=2400/\(aY ((e.M.take i1).length+([(aI v4)]).length) 40/\(O ((i1:Int)+(1:Int))/\(∃ i2:Nat,(i2<=e.M.length/\(e.M.length - i2<e.M.length - i1/\((True/\(True/\(e.M=e.M/\(v0=v0/\(((i1:Int)+(1:Int))=(i2:Int)/\True)))))/\(v3/\(((e.M.take i1)++([(aI v4)]))=(e.M.take i2)/\v1))))))))))))))))))/\((decide ((i1:Int)<v0))=false->(J.mk e.aq e.aN (e.M.take i1))=e))))))))))) ?_;rw[jO] at hp;have f0:=dj e;have f1:=λ i (h:i<e.M.length)=>dK aB zE e.M i h;have f2:=λ i (h:i<e.M.length)=>b9 zE e.M i h;have f3:=λ i (h:i<e.M.length)=>cj zE e.M i h;have f4:e.M.take 0=[]:=by simp
 have f5:∀ i,e.M.length<=i->e.M.take i=e.M:=λ i h=>b3U h;have f6:∀ i,(e.M.take i).length<=e.M.length:=λ i=>by simp;omega
 have f7:∀ ks,ks=e.M->J.mk e.aq e.aN ks=e:=λ ks h=>by subst h;cases e;rfl
 refine λ _ _ _ _=>⟨⟨0,?_,⟨ae,ae,rfl,rfl,?_,ae⟩,⟨rfl,rfl,ae,ae⟩,?_,⟨rfl,rfl,ae,ae⟩,ae⟩,λ i1 _=>⟨λ _=>⟨?_,⟨?_,?_⟩,?_,⟨rfl,rfl,rfl,?_⟩,?_,⟨?_,?_⟩,?_,⟨?_,?_⟩,?_,?_,?_,i1+1,?_,?_,⟨ae,ae,rfl,rfl,?_,ae⟩,⟨rfl,rfl,ae,ae⟩,?_,⟨rfl,rfl,ae,ae⟩,ae⟩,λ _=>?_⟩⟩;all_goals try and_intros
 all_goals try (first|with_reducible rfl|with_reducible assumption)
 all_goals try simp only[J.eta,ag.eta,au.eta,aJ,bm,bH] at *
 all_goals first|rfl|trivial|omega|(simp only[b3v,b3u,ak,O,aY,b3G,b3T] at *;first|omega|(have:=f6 i1;omega)|exact f7 _ (f5 _ (by omega))|grind)|grind
def Ss:∀ n,hJ [kh n]
 | 0=>⟨⟨ar ld,λ _ h=>absurd h.1 (b4q _)⟩,ae⟩
 | n+1=>by
  have ih:=Ss n;exact⟨NJ n trivial ⟨ih.1,ae⟩ trivial trivial,ae⟩
def iM:aL.cS eU :=
 ⟨ar ld,λ e hp=>(Ss (cb e+1)).1.2 e (⟨b4m _,hp⟩)⟩
end
end Go.Proofs.YtmjfpcajohhbeaaGreatDoor

set_option maxRecDepth 4000
set_option maxHeartbeats 4000000
namespace Go.Proofs.YtmjfpcajohhbeaaGreatDoor
noncomputable section
def mT(n:Nat):aL:=⟨qv,[.r (.st .expr)],λ (e:J)=>⟨(some (cb e<n/\aB e<=1048576),[⟨(.st .expr),e⟩])⟩⟩
def eA:aL:=⟨qv,[.r (.st .expr)],λ (e:J)=>⟨(some (aB e<=1048576),[⟨(.st .expr),e⟩])⟩⟩
def Ue(e:J):Nat->az:=(cP 0 (.a (Nat) (λ i=>i<=e.M.length) (λ i=>e.M.length - i) [5,6,7,8,9,10,11,12,13] (λ i=>[(4, .aF ⟨(.int .i64),((i:Int):Int)⟩)]) [2] (λ i=>[(3, .box [.aF ⟨(.int .i64),(e.aq:Int)⟩, .aF ⟨(.int .i64),(e.aN:Int)⟩, .aw 3400]),(3400, .aw (.st .expr) (e.M.take i:List J))])) bI)
def Se(n:Nat)(hE:bD [])(hO:hJ [mT n])(hM:jF [])(hS:im []):aL.cS (mT (n+1)):=by
 refine⟨ar n7,?_⟩;intro (e:J) (hp:cb e<n+1/\aB e<=1048576);refine bX [] [mT n] [] [] [31,32,33] [] [] [] hE hO hM hS n7 OI (Ue e) (let v0:=((0:Int)=(0:Int)/\((0:Int)=(0:Int)/\(True/\True)))/\True;let v1:=(3:Nat)=3/\(2:Nat)=2;let v2:=e.aq=e.aq/\(e.aN=e.aN/\(True/\True));let v3:=(e.M.length:Int);((O e.aq->(O e.aN->((∃ i1:Nat,(i1<=e.M.length/\((e=e/\(True/\(True/\((0:Int)=(i1:Int)/\True))))/\(v2/\((e.M.take i1)=[]/\v0)))))/\(∀ i1:Nat,let v4:=e.M.getD i1 zE;let v5:=(i1:Int);(i1<=e.M.length->(e.M.length<=140737488355328->(O v3->(((decide (v5<v3))=true->(e.M.length<=140737488355328->(O v5->(ak v5 e.M.length/\(v1/\((3400:Nat)=3400/\(e=e/\(e=e/\(e.M=e.M/\(e.M=e.M/\(v5=v5/\(ak v5 e.M.length/\(v4=v4/\((cb v4<n/\aB v4<=1048576)/\(v1/\((3400:Nat)=3400/\(v1/\((3400:Nat)=3400/\(aY ((e.M.take i1).length+([(aI v4)]).length) 40/\(O (v5+(1:Int))/\(∃ i2:Nat,(i2<=e.M.length/\(e.M.length - i2<e.M.length - i1/\((e=e/\(True/\(True/\((v5+(1:Int))=(i2:Int)/\True))))/\(v2/\(((e.M.take i1)++([(aI v4)]))=(e.M.take i2)/\v0))))))))))))))))))))))))))/\((decide (v5<v3))=false->(J.mk e.aq e.aN (e.M.take i1))=e))))))))))) ?_;rw[jO] at hp;have f0:=dj e;have f1:=λ i (h:i<e.M.length)=>dK aB zE e.M i h;have f2:=λ i (h:i<e.M.length)=>b9 zE e.M i h;have f3:=λ i (h:i<e.M.length)=>cj zE e.M i h;have f4:e.M.take 0=[]:=by simp
 have f5:∀ i,e.M.length<=i->e.M.take i=e.M:=λ i h=>b3U h;have f6:∀ i,(e.M.take i).length<=e.M.length:=λ i=>by simp;omega
 have f7:∀ ks,ks=e.M->J.mk e.aq e.aN ks=e:=λ ks h=>by subst h;cases e;rfl
 refine λ _ _=>⟨⟨0,?_,⟨rfl,ae,ae,?_,ae⟩,⟨rfl,rfl,ae,ae⟩,?_,⟨rfl,rfl,ae,ae⟩,ae⟩,λ i1 _ _ _=>⟨λ _ _ _=>⟨?_,⟨?_,?_⟩,?_,rfl,rfl,rfl,rfl,rfl,?_,rfl,?_,⟨?_,?_⟩,?_,⟨?_,?_⟩,?_,?_,?_,i1+1,?_,?_,⟨rfl,ae,ae,?_,ae⟩,⟨rfl,rfl,ae,ae⟩,?_,⟨rfl,rfl,ae,ae⟩,ae⟩,λ _=>?_⟩⟩;all_goals try and_intros
 all_goals try (first|with_reducible rfl|with_reducible assumption)
 all_goals try simp only[J.eta,ag.eta,au.eta,aJ,bm,bH] at *
 all_goals first|rfl|trivial|omega|(simp only[b3v,b3u,ak,O,aY,b3G,b3T] at *;first|omega|(have:=f6 i1;omega)|exact f7 _ (f5 _ (by omega))|grind)|grind
def UY:∀ n,hJ [mT n]
 | 0=>⟨⟨ar n7,λ _ h=>absurd h.1 (b4q _)⟩,ae⟩
 | n+1=>by
  have ih:=UY n;exact⟨Se n trivial ⟨ih.1,ae⟩ trivial trivial,ae⟩
def fD:aL.cS eA :=
 ⟨ar n7,λ e hp=>(UY (cb e+1)).1.2 e (⟨b4m _,hp⟩)⟩
def AF:aL.Good eA:=fD.plain
mutual
def J9:∀ x:J,aB x+1=aM x
 | ⟨_,_,ks⟩=>by
  have:=Xw ks;simp only[aB,aM];omega
def Xw:∀ xs:List J,xs.length+xh xs=cY xs
 | []=>rfl
 | x::xs=>by
  have h1:=J9 x;have h2:=Xw xs;simp only[xh,cY,b3G];omega
end
def E8(gg:aU)(x:J)(h:cD gg x=true):aB x<=1048576:=by
 rw[yq] at h;have:=J9 x;omega
end
end Go.Proofs.YtmjfpcajohhbeaaGreatDoor

namespace Go.Proofs
open Go.Shelf
def Tryz.PX:Go.Shelf.Ren:=⟨λ|169=>157|n=>n,λ|70=>193|9=>9|0=>0|72=>196|37=>194|127=>212|3=>3|5=>5|n=>n,λ|n=>n⟩
def Tryz.a7s:Go.Proofs.Lays.n169 Tryz.prog Tryz.PX:={
 mixed:=by kernel_rfl
 f169:=Tryz.func157.trans (congrArg some (by kernel_rfl))
 t0:=Tryz.underlying0
 a0:=Tryz.isAgg0
 z0:=Tryz.sizeOf0
 v0:=Tryz.zeroValue0
 t3:=Tryz.underlying3
 a3:=Tryz.isAgg3
 z3:=Tryz.sizeOf3
 v3:=Tryz.zeroValue3
 t9:=Tryz.underlying9
 a9:=Tryz.isAgg9
 z9:=Tryz.sizeOf9
 v9:=Tryz.zeroValue9
 t37:=Tryz.underlying194
 a37:=Tryz.isAgg194
 z37:=Tryz.sizeOf194
 v37:=Tryz.zeroValue194
 t70:=Tryz.underlying193
 a70:=Tryz.isAgg193
 z70:=Tryz.sizeOf193
 v70:=Tryz.zeroValue193
 t72:=Tryz.underlying196
 a72:=Tryz.isAgg196
 z72:=Tryz.sizeOf196
 v72:=Tryz.zeroValue196
 t127:=Tryz.underlying212
 a127:=Tryz.isAgg212
 z127:=Tryz.sizeOf212
 v127:=Tryz.zeroValue212 }
def Tryz.LX:Builder.Extra Tryz.prog Tryz.PX:={
 sizeBuilder:=by kernel_rfl
 liesBuilder:=by kernel_rfl
 t5:=Tryz.underlying5
 a5:=Tryz.isAgg5
 z5:=Tryz.sizeOf5
 v5:=Tryz.zeroValue5
 infoByte:=by kernel_rfl
 cellsByte:=by kernel_rfl
 sizeByte:=by kernel_rfl
 neB5:=by decide }
open Go.RowKit in
def Tryz.Builder_String_any(B b:Nat)(l:List UInt8)(w:World)(h:Lib.IsBuilder 196 5 B b (Lib.byteCells l) w)(iU:B<=w.heap.size) :
  Calls Tryz.prog 157 #[.pointer (some ⟨b,0,none⟩)] w λ e w'=>e = .returned (.string ⟨l.toArray⟩)/\Below B w w':=Any.Builder_String_any Tryz.a7s Tryz.LX B b l w h iU
def Tryz.a0n:Go.Shelf.Ren:=⟨λ|246=>175|283=>176|284=>177|285=>178|286=>179|129=>181|317=>180|318=>182|319=>183|320=>184|337=>185|338=>186|n=>n,λ|2=>2|3=>3|9=>9|4=>4|171=>220|0=>0|53=>221|37=>194|5=>5|173=>224|212=>227|51=>213|20=>20|213=>228|46=>203|232=>232|233=>233|n=>n,λ|17=>1|18=>2|19=>3|n=>n⟩
def Tryz.a7t:Go.Proofs.Lays.n246 Tryz.prog Tryz.a0n:={
 mixed:=by kernel_rfl
 f129:=Tryz.func181.trans (congrArg some (by kernel_rfl))
 f246:=Tryz.func175.trans (congrArg some (by kernel_rfl))
 f283:=Tryz.func176.trans (congrArg some (by kernel_rfl))
 f284:=Tryz.func177.trans (congrArg some (by kernel_rfl))
 f285:=Tryz.func178.trans (congrArg some (by kernel_rfl))
 f286:=Tryz.func179.trans (congrArg some (by kernel_rfl))
 f317:=Tryz.func180.trans (congrArg some (by kernel_rfl))
 f318:=Tryz.func182.trans (congrArg some (by kernel_rfl))
 f319:=Tryz.func183.trans (congrArg some (by kernel_rfl))
 f320:=Tryz.func184.trans (congrArg some (by kernel_rfl))
 f337:=Tryz.func185.trans (congrArg some (by kernel_rfl))
 f338:=Tryz.func186.trans (congrArg some (by kernel_rfl))
 t0:=Tryz.underlying0
 a0:=Tryz.isAgg0
 z0:=Tryz.sizeOf0
 v0:=Tryz.zeroValue0
 t2:=Tryz.underlying2
 a2:=Tryz.isAgg2
 z2:=Tryz.sizeOf2
 v2:=Tryz.zeroValue2
 t3:=Tryz.underlying3
 a3:=Tryz.isAgg3
 z3:=Tryz.sizeOf3
 v3:=Tryz.zeroValue3
 t4:=Tryz.underlying4
 a4:=Tryz.isAgg4
 z4:=Tryz.sizeOf4
 v4:=Tryz.zeroValue4
 t5:=Tryz.underlying5
 a5:=Tryz.isAgg5
 z5:=Tryz.sizeOf5
 v5:=Tryz.zeroValue5
 t9:=Tryz.underlying9
 a9:=Tryz.isAgg9
 z9:=Tryz.sizeOf9
 v9:=Tryz.zeroValue9
 t20:=Tryz.underlying20
 a20:=Tryz.isAgg20
 z20:=Tryz.sizeOf20
 v20:=Tryz.zeroValue20
 t37:=Tryz.underlying194
 a37:=Tryz.isAgg194
 z37:=Tryz.sizeOf194
 v37:=Tryz.zeroValue194
 t46:=Tryz.underlying203
 a46:=Tryz.isAgg203
 z46:=Tryz.sizeOf203
 v46:=Tryz.zeroValue203
 t51:=Tryz.underlying213
 a51:=Tryz.isAgg213
 z51:=Tryz.sizeOf213
 v51:=Tryz.zeroValue213
 t53:=Tryz.underlying221
 a53:=Tryz.isAgg221
 z53:=Tryz.sizeOf221
 v53:=Tryz.zeroValue221
 t171:=Tryz.underlying220
 a171:=Tryz.isAgg220
 z171:=Tryz.sizeOf220
 v171:=Tryz.zeroValue220
 t173:=Tryz.underlying224
 a173:=Tryz.isAgg224
 z173:=Tryz.sizeOf224
 v173:=Tryz.zeroValue224
 t212:=Tryz.underlying227
 a212:=Tryz.isAgg227
 z212:=Tryz.sizeOf227
 v212:=Tryz.zeroValue227
 t213:=Tryz.underlying228
 a213:=Tryz.isAgg228
 z213:=Tryz.sizeOf228
 t232:=Tryz.underlying232
 a232:=Tryz.isAgg232
 z232:=Tryz.sizeOf232
 v232:=Tryz.zeroValue232
 t233:=Tryz.underlying233
 a233:=Tryz.isAgg233
 z233:=Tryz.sizeOf233
 v233:=Tryz.zeroValue233
 g17:=by kernel_rfl
 g18:=by kernel_rfl
 g19:=by kernel_rfl }
open Go.RowKit Go.Sort Go.Lib in
def Tryz.internal_strconv_FormatInt_10_small(i:Nat)(hi:i<100)(w:World) :
  Calls Tryz.prog 175 #[.int .i64 i, .int .i64 10] w λ e w'=>e = .returned (.string ⟨(Lib.decDigits i).toArray⟩)/\w'=w:=Any.internal_strconv_FormatInt_10_small Tryz.a7t i hi w
end Go.Proofs



set_option maxRecDepth 4000
set_option maxHeartbeats 4000000
namespace Go.Proofs.YtmjfpcajohhbeaaGreatDoor
open Go.RowKit Go.Proofs
def a0W:(Tryz.prog.info? 196).map (·.size)=some 2:=by kernel_rfl
def a6A:liesAt Tryz.prog Tryz.prog.depth 196 (2 / Tryz.prog.cellsOf 196) 0 196 1=true:=by kernel_rfl
def a6z:(Tryz.prog.info? 5).map (λ i=>(i.zero,i.size,i.bytes))=some (some (.int .u8 0),1,1):=by kernel_rfl
def jg(b:Nat)(w w':World):Prop:=∀ k cs T fz,w.heap[k]?=some (.cells cs T fz)->T≠5->k≠b->w'.heap[k]?=w.heap[k]?
def jg.refl(b:Nat)(w:World):jg b w w:=λ _ _ _ _ _ _ _=>rfl
def jg.trans{b:Nat}{w w1 w2:World}(h:jg b w w1)(k:jg b w1 w2):jg b w w2:=λ i cs T fz hi hT hb=>by
 have e:=h i cs T fz hi hT hb;rw[k i cs T fz (e.trans hi) hT hb,e]
def jg.setCell{b:Nat}{w w1:World}(h:jg b w w1)(o:Nat)(v:Value):jg b w (w1.setCell ⟨b,o,none⟩ v):=λ i cs T fz hi hT hb=>by
 rw[Below.heap_setCell w1 _ v i hb];exact h i cs T fz hi hT hb
def bB{w:World}{k:Nat}{x:Obj}(h:w.heap[k]?=some x):k<w.heap.size:=by
 rcases b4y k w.heap.size with h'|h'
 .exact h'
 .simp[b4X h'] at h
def jg.alloc{b:Nat}{w w1:World}(h:jg b w w1)(o:Obj):jg b w (w1.alloc o):=λ i cs T fz hi hT hb=>by
 have e:=h i cs T fz hi hT hb;rw[<-e];exact Lib.alloc_old w1 o i (bB (e.trans hi))
set_option maxRecDepth 100000 in
def Tp(b:Nat)(w:World)(h0:w.cell? ⟨b,0,none⟩=some (.pointer (some ⟨b,0,none⟩))) :
  Calls Tryz.prog 172 #[.pointer (some ⟨b,0,none⟩)] w λ e w'=>e = .returned (.tuple #[])/\w'=w:=by
 obtain⟨j,hj,_⟩:=b4t.1 a0W;go_enter Tryz.func172,Tryz.ntmps172;go_wp2;rw[Lib.run_neq_ptr_same w _ Tryz.underlying193 hj];go_wp2;go_end0;exact⟨rfl,rfl⟩
set_option maxRecDepth 100000 in
def Q4(b:Nat)(w:World)(h0:w.cell? ⟨b,0,none⟩=some (.pointer none))(Hm:w.shape? b=some (196,2))(hfz:w.frozen? ⟨b,0,none⟩=false) :
  Calls Tryz.prog 172 #[.pointer (some ⟨b,0,none⟩)] w λ e w'=>e = .returned (.tuple #[])/\w'=w.setCell ⟨b,0,none⟩ (.pointer (some ⟨b,0,none⟩)):=by
 obtain⟨j,hj,hjs⟩:=b4t.1 a0W;go_enter Tryz.func172,Tryz.ntmps172;go_wp2;rw[Lib.run_to_unsafe w ⟨b,0,none⟩ Tryz.underlying193 Tryz.underlying217 hj (by rw[hjs];decide) Hm (Nat.zero_lt_succ 1)];simp only[Result.andThen];rw[b7d];go_wp2;rw[run_callFunc_extern Tryz.func174 (by kernel_rfl) (by kernel_rfl) (by kernel_rfl) (e:=Extern.AbiNoEscape.same) (by kernel_rfl)];rw[Lib.run_noEscape];simp only[Result.andThen];rw[b7d];go_wp2;rw[Lib.run_from_unsafe w ⟨b,0,none⟩ Tryz.underlying217 Tryz.underlying193 hj Hm a6A];simp only[Result.andThen];rw[b7d];go_wp2;go_end0;exact⟨rfl,rfl⟩
def a2Q(B b:Nat)(bs:List Value)(w:World)(h:Lib.IsBuilder 196 5 B b bs w) :
  Calls Tryz.prog 172 #[.pointer (some ⟨b,0,none⟩)] w λ e w'=>e = .returned (.tuple #[])/\(Lib.BuilderAt 196 5 B b (.pointer (some ⟨b,0,none⟩)) bs w'/\Below B w w'/\jg b w w'):=by
 rcases h with h|h
 .refine (Q4 b w h.cell0 h.shape h.frozen0).mono ?_;rintro e w' ⟨rfl,rfl⟩;exact⟨rfl,h.used _,(b6W B w).setCell (p:=⟨b,0,none⟩) h.1 _,(jg.refl b w).setCell 0 _⟩
 .refine (Tp b w h.cell0).mono ?_;rintro e w' ⟨rfl,rfl⟩;exact⟨rfl,h,b6W B _,jg.refl b _⟩
set_option maxRecDepth 100000 in
def writeString(B b:Nat)(bs:List Value)(s:ByteArray)(w:World)(h:Lib.IsBuilder 196 5 B b bs w)(hlen:bs.length+s.size<=140737488355328)(iU:B<=w.heap.size) :
  Calls Tryz.prog 167 #[.pointer (some ⟨b,0,none⟩), .string s] w λ e w'=>e = .returned (.tuple #[.int .i64 s.size, .nilIface])/\(Lib.IsBuilder 196 5 B b (bs++Lib.strCells s) w'/\Below B w w'/\jg b w w'):=by
 obtain⟨i0,hi,hz⟩:=b4t.1 a6z;simp only[b3w] at hz;obtain⟨hz0,X3,hz2⟩:=hz;go_enter Tryz.func167,Tryz.ntmps167;go_wp2_with (go_at_call 172;refine (a2Q B b bs _ h).mono ?_);rintro e w1 ⟨rfl,h1,yi,Rl⟩;obtain⟨hB,v,hbk,nR,eQ⟩:=h1;have c0:w1.cell? ⟨b,0,none⟩=some (.pointer (some ⟨b,0,none⟩)):=by rw[b6i hbk];rfl
 have c1:w1.cell? ⟨b,1,none⟩=some v:=by rw[b6i hbk];rfl
 go_wp2_with (at_builtin;refine Lib.wpList_append_own_string _ rfl _ _ 194 9 rfl B 5 i0 Tryz.underlying194 Tryz.underlying9 hi hz0 X3 hz2 _ _ _ rfl nR s rfl ?c3 ?c4 ?c5 ?_);case c3=>unfold maxLen;omega
 case c4=>omega
 case c5=>have:=yi.size;omega
 intro v' w2 a7d M8 _;have bK:b<w1.heap.size:=bB hbk;have EW:w2.heap[b]?=some (.cells #[.pointer (some ⟨b,0,none⟩),v] 196 (0,0)):=by
  rw[M8.block b bK (λ e=>eQ e.symm)];exact hbk
 have d0:w2.cell? ⟨b,0,none⟩=some (.pointer (some ⟨b,0,none⟩)):=by rw[b6i EW];rfl
 have d1:w2.cell? ⟨b,1,none⟩=some v:=by rw[b6i EW];rfl
 have f1:w2.frozen? ⟨b,1,none⟩=false:=Lib.frozen_of_heap EW 1;have hk2:jg b w1 w2:=λ i cs T fz hi hT hib=>M8.block i (bB hi) λ e=>by
  rcases nR.2 with ⟨hv,_⟩|⟨g,cap,cur,hv,_,hg,_⟩
  .rw[hv] at e;cases e
  .rw[hv] at e;injection e with e;subst e;rw[hg] at hi;simp only[b3t,Obj.cells.injEq] at hi;exact hT hi.2.1.symm
 obtain⟨ao,n',cap,rfl⟩:∃ ao n' cap,v' = .slice ao n' cap:=by
  rcases a7d.2 with ⟨hv,_⟩|⟨g,cap,cur,hv,_⟩
  .exact⟨_,_,_,hv⟩
  .exact⟨_,_,_,hv⟩
 go_wp2;go_ret2;refine⟨rfl,?_,?_,?_⟩
 .exact Or.inr (Lib.BuilderAt.put (T:=196) (e:=5) hB EW (bs':=bs++Lib.strCells s) (by simpa [Lib.strCells_length] using a7d) (by decide))
 .exact (yi.grown M8 (by have:=yi.size;omega) (λ k hk=>(nR.lt k hk).1)).setCell (p:=⟨b,1,none⟩) hB _
 .exact (Rl.trans hk2).setCell 1 _
end Go.Proofs.YtmjfpcajohhbeaaGreatDoor

set_option maxRecDepth 4000
set_option maxHeartbeats 4000000
namespace Go.Proofs.YtmjfpcajohhbeaaGreatDoor
noncomputable section
open Go.RowKit Go.Proofs
def bt(n:Int):UInt8:=UInt8.ofNat n.toNat
def ia:aL:=⟨ib,[.v .str, .v .str],λ (s:List UInt8) (p:List UInt8)=>⟨(none,[⟨.bool,decide (p.length<=s.length)&&decide (s.take p.length=p)⟩])⟩⟩
def pC(s:List UInt8)(p:List UInt8):Nat->az:=bI
def ny:aL.Good ia:=by
 refine⟨ar gN,?_⟩;intro (s:List UInt8) (p:List UInt8) _;refine aV [] [] [] [] trivial gN np (pC s p) (let v0:=(p.length:Int);let v1:=decide (p.length<=s.length)&&decide (s.take p.length=p);let v2:=decide (v0<=((s.length:Int)));((O ((s.length:Int))->(O v0->((v2=true->(O v0->(cB (0:Int) v0 s.length/\(decide (((s.take (Int.toNat v0)).drop 0)=p))=v1)))/\(v2=(!true)->false=v1)))))) ?_;refine λ _ _=>⟨λ _ _=>⟨?_,?_⟩,λ _=>?_⟩;all_goals try and_intros
 all_goals first|rfl|trivial|omega|(simp only[b3v,b3u,ak,O,cB,aY,b3J,b3G,b3T] at *;first|omega|grind)|grind
def tE:aL:=⟨tO,[.v .str, .v .str],λ (s:List UInt8) (p:List UInt8)=>⟨(none,[⟨.bool,decide (p.length<=s.length)&&decide (s.take p.length=p)⟩])⟩⟩
def IV(s:List UInt8)(p:List UInt8):Nat->az:=bI
def De:aL.Good tE:=by
 refine⟨ar qR,?_⟩;intro (s:List UInt8) (p:List UInt8) _;refine aV [ia] [] [] [] ⟨ny,ae⟩ qR CW (IV s p) (let v0:=decide (p.length<=s.length)&&decide (s.take p.length=p);(v0=v0)) ?_;refine ?_;all_goals try and_intros
 all_goals first|rfl|trivial|omega|(simp only[b3v,b3u,ak,O,bS,cB,bJ,aY] at *;omega)|(simp[ak,O] at *;omega)|grind
end
end Go.Proofs.YtmjfpcajohhbeaaGreatDoor

set_option maxRecDepth 4000
set_option maxHeartbeats 4000000
namespace Go.Proofs.YtmjfpcajohhbeaaGreatDoor
noncomputable section
def fA(b:UInt8):Bool:=decide (48<=b.toNat)&&decide (b.toNat<=57)
def gC(s:List UInt8):Int:=s.foldl (λ n b=>n * 10+((b.toNat:Int) - 48)) 0
def ni(m:Int)(s:List UInt8):Bool:=decide (1<=s.length)&&decide ((s.length:Int)<=m) && !(decide (1<s.length)&&decide ((s.getD 0 0).toNat=48))&&bp fA s
def kH(m:Int)(s:List UInt8):Int:=bif ni m s then gC s else 0
def Vv(s:List UInt8)(k:Nat)(h:k<s.length):gC (s.take (k+1))=gC (s.take k) * 10+(((s.getD k 0).toNat:Int) - 48):=by
 rw[cj 0 s k h];simp[gC,List.foldl_append]
def a1h:∀ (k:Nat) (s:List UInt8),k<=s.length->bp fA (s.take k)=true->0<=gC (s.take k)/\gC (s.take k)<10 ^ k
 | 0,s,_,_=>by simp[gC]
 | k+1,s,h,ha=>by
  have h1:=di fA 0 s k (by omega);rw[ha] at h1;have h1':=h1.symm;simp only[b3A] at h1';obtain⟨h2,h3⟩:=h1';have ih:=a1h k s (by omega) h2;rw[Vv s k (by omega)];simp only[fA,b3A,b3v] at h3;have:(10:Int) ^ (k+1)=10 ^ k * 10:=by rw[Int.pow_succ]
  omega
def a1i(s:List UInt8)(k:Nat)(h:k<=s.length)(h9:s.length<=9)(ha:bp fA (s.take k)=true):0<=gC (s.take k)/\gC (s.take k)<=1000000000:=by
 have:=a1h k s h ha;have h2:(10:Int) ^ k<=10 ^ 9:=by
  have:(10:Nat) ^ k<=10 ^ 9:=Nat.pow_le_pow_right (by decide) (by omega);exact_mod_cast this
 omega
def a4m(s:List UInt8)(k:Nat):fA (s.getD k 0)=(decide (48<=(s.getD k 0).toNat)&&decide ((s.getD k 0).toNat<=57)):=rfl
def a9h:IntKind.u8.min=0:=rfl
def a9g:IntKind.u8.max=255:=rfl
def a3j(n:Int):bS .u8 n↔0<=n/\n<=255:=b5z
def a0h(n:Int):bS .i64 n↔O n:=b5z
def Ef(m:Int)(s:List UInt8):ni m s=(decide (1<=s.length)&&decide ((s.length:Int)<=m) && !(decide (1<s.length)&&decide ((s.getD 0 0).toNat=48))&&bp fA s):=rfl
def a4L(m:Int)(s:List UInt8)(h:¬ (1<=s.length/\(s.length:Int)<=m/\¬ (1<s.length/\(s.getD 0 0).toNat=48))):kH m s=0/\ni m s=false:=by
 have e:ni m s=false:=by
  cases hb:ni m s with
  | false=>rfl
  | true =>
   rw[Ef] at hb;simp only[b3A,b3v,b3I,b5K,b3u] at hb;exact absurd ⟨hb.1.1.1,hb.1.1.2,λ h=>by rcases hb.1.2 with g|g<;>omega⟩ h
 exact⟨by simp[kH,e],e⟩
structure Jn(m:Int)(s:List UInt8)(k:Nat):Prop where
 len:k<=s.length/\s.length<=9
 ok:1<=s.length/\(s.length:Int)<=m/\¬ (1<s.length/\(s.getD 0 0).toNat=48)
 all:bp fA (s.take k)=true
def a5F(m:Int)(s:List UInt8)(h:1<=s.length/\(s.length:Int)<=m/\¬ (1<s.length/\(s.getD 0 0).toNat=48))(hm:m<=9):Jn m s 0 :=
 ⟨⟨by omega,by omega⟩,h,by simp[bp]⟩
def a1P(m:Int)(s:List UInt8)(k:Nat)(h:Jn m s k)(hk:k<s.length)(hb:(s.getD k 0).toNat<48\/57<(s.getD k 0).toNat):kH m s=0/\ni m s=false:=by
 have e:bp fA s=false:=dL fA 0 s k hk (by rw[a4m,b5K,b3u,b3u];omega);have e':ni m s=false:=by rw[Ef,e];simp
 exact⟨by simp[kH,e'],e'⟩
def R2(m:Int)(s:List UInt8)(k:Nat)(h:Jn m s k)(hk:k<s.length)(h1:48<=(s.getD k 0).toNat)(h2:(s.getD k 0).toNat<=57):Jn m s (k+1)/\gC (s.take (k+1))=gC (s.take k) * 10+(((s.getD k 0).toNat:Int) - 48) :=
 ⟨⟨⟨hk,h.len.2⟩,h.ok,by rw[di fA 0 s k hk,h.all,a4m,b4k h1,b4k h2];rfl⟩,Vv s k hk⟩
def a1Q(m:Int)(s:List UInt8)(k:Nat)(h:Jn m s k)(hk:s.length<=k):kH m s=gC (s.take k)/\ni m s=true:=by
 have e:s.take k=s:=b3U hk;have ha:=h.all;rw[e] at ha;have e':ni m s=true:=by
  rw[Ef,ha];have:=h.ok;simp only[b3A,b3v,b3I,b5K,b3u];exact⟨⟨⟨this.1,this.2.1⟩,(b4y 1 s.length).elim (λ g => .inr (by omega)) (λ g => .inl (by omega))⟩,ae⟩
 exact⟨by rw[e];simp[kH,e'],e'⟩
def a8T(m:Int)(s:List UInt8)(k:Nat)(h:Jn m s k):k<=s.length/\0<=gC (s.take k)/\gC (s.take k)<=1000000000 :=
 ⟨h.len.1,a1i s k h.len.1 h.len.2 h.all⟩
def A6:aL:=⟨Bp,[.v .str],λ (s:List UInt8)=>⟨(none,[⟨(.int .i64),kH 9 s⟩,⟨.bool,ni 9 s⟩])⟩⟩
def PW(s:List UInt8):Nat->az:=(cP 0 (.b (Nat) (λ k=>Jn 9 s k) (λ k=>s.length - k) [6,7,8,9,10,11,12,13,14,15,16,17,18,19,20,21,22,23] (λ k=>[(5, .aF ⟨(.int .i64),((k:Int):Int)⟩),(4, .aF ⟨(.int .i64),(gC (s.take k):Int)⟩)])) bI)
abbrev wk(s:List UInt8)(k1:Nat):Prop:=(let v0:=(((s.getD k1 0).toNat:Int)) - (48:Int);let v1:=(gC (s.take k1)) * (10:Int);(O v1/\(ak (k1:Int) s.length/\(bS .u8 v0/\(O v0/\(O (v1+v0)/\(O ((k1:Int)+(1:Int))/\(∃ k2:Nat,(Jn 9 s k2/\(s.length - k2<s.length - k1/\((s=s/\((v1+v0)=(gC (s.take k2))/\(((k1:Int)+(1:Int))=(k2:Int)/\True)))/\True)))))))))))
abbrev jd(s:List UInt8):Prop:=(let v0:=(0:Int)=(kH 9 s)/\false=(ni 9 s);let v1:=(s.length:Int);((∃ k1:Nat,(Jn 9 s k1/\((s=s/\((0:Int)=(gC (s.take k1))/\((0:Int)=(k1:Int)/\True)))/\True)))/\(∀ k1:Nat,let v2:=((s.getD k1 0).toNat:Int);(Jn 9 s k1 ->
 (O v1 ->
 (((decide ((k1:Int)<v1))=true ->
 (ak (k1:Int) s.length/\(((decide (v2<(48:Int)))=false ->
 (ak (k1:Int) s.length/\(((decide ((57:Int)<v2))=true ->
 v0)/\((decide ((57:Int)<v2))=false ->
 (wk s k1)))))/\((decide (v2<(48:Int)))=(!false) ->
 ((true=true ->
 v0)/\(true=false ->
 (wk s k1)))))))/\((decide ((k1:Int)<v1))=false ->
 ((gC (s.take k1))=(kH 9 s)/\true=(ni 9 s)))))))))
abbrev wm(s:List UInt8):Prop:=(let v0:=decide ((((s.getD 0 0).toNat:Int))=(48:Int));let v1:=(0:Int)=(kH 9 s)/\false=(ni 9 s);let v2:=decide ((1:Int)<((s.length:Int)));(ak (0:Int) s.length/\((v0=true ->
 (O ((s.length:Int)) ->
 ((v2=true ->
 v1)/\(v2=false ->
 (jd s)))))/\(v0=(!true) ->
 ((false=true ->
 v1)/\(false=false ->
 (jd s)))))))
def Iq:aL.Good A6:=by
 refine⟨ar xx,?_⟩;intro (s:List UInt8) _;refine aV [] [] [] [] trivial xx H0 (PW s) (let v0:=(s.length:Int);let v1:=(0:Int)=(kH 9 s)/\false=(ni 9 s);((O v0->(((decide (v0<(1:Int)))=false->(O v0->(((decide ((9:Int)<v0))=false->(wm s))/\((decide ((9:Int)<v0))=(!false)->((true=true->v1)/\(true=false->(jd s)))))))/\((decide (v0<(1:Int)))=(!false)->((true=false->(wm s))/\(true=(!false)->((true=true->v1)/\(true=false->(jd s)))))))))) ?_;have f1:gC (s.take 0)=0:=by simp[gC]
 refine λ _=>⟨λ _ _=>⟨λ _=>⟨?_,λ _ _=>⟨λ _=>⟨?_,?_⟩,λ _=>⟨⟨0,?_,⟨rfl,?_,?_,ae⟩,ae⟩,λ k1 _ _=>⟨λ _=>⟨?_,λ _=>⟨?_,λ _=>⟨?_,?_⟩,λ _=>⟨?_,?_,?_,?_,?_,?_,k1+1,?_,?_,⟨rfl,?_,?_,ae⟩,ae⟩⟩,λ _=>⟨λ _=>⟨?_,?_⟩,λ _=>⟨?_,?_,?_,?_,?_,?_,k1+1,?_,?_,⟨rfl,?_,?_,ae⟩,ae⟩⟩⟩,λ _=>⟨?_,?_⟩⟩⟩⟩,λ _=>⟨λ _=>⟨?_,?_⟩,λ _=>⟨⟨0,?_,⟨rfl,?_,?_,ae⟩,ae⟩,λ k1 _ _=>⟨λ _=>⟨?_,λ _=>⟨?_,λ _=>⟨?_,?_⟩,λ _=>⟨?_,?_,?_,?_,?_,?_,k1+1,?_,?_,⟨rfl,?_,?_,ae⟩,ae⟩⟩,λ _=>⟨λ _=>⟨?_,?_⟩,λ _=>⟨?_,?_,?_,?_,?_,?_,k1+1,?_,?_,⟨rfl,?_,?_,ae⟩,ae⟩⟩⟩,λ _=>⟨?_,?_⟩⟩⟩⟩⟩,λ _=>⟨λ _=>⟨?_,?_⟩,λ _=>⟨⟨0,?_,⟨rfl,?_,?_,ae⟩,ae⟩,λ k1 _ _=>⟨λ _=>⟨?_,λ _=>⟨?_,λ _=>⟨?_,?_⟩,λ _=>⟨?_,?_,?_,?_,?_,?_,k1+1,?_,?_,⟨rfl,?_,?_,ae⟩,ae⟩⟩,λ _=>⟨λ _=>⟨?_,?_⟩,λ _=>⟨?_,?_,?_,?_,?_,?_,k1+1,?_,?_,⟨rfl,?_,?_,ae⟩,ae⟩⟩⟩,λ _=>⟨?_,?_⟩⟩⟩⟩⟩,λ _=>⟨λ _=>⟨?_,λ _ _=>⟨λ _=>⟨?_,?_⟩,λ _=>⟨⟨0,?_,⟨rfl,?_,?_,ae⟩,ae⟩,λ k1 _ _=>⟨λ _=>⟨?_,λ _=>⟨?_,λ _=>⟨?_,?_⟩,λ _=>⟨?_,?_,?_,?_,?_,?_,k1+1,?_,?_,⟨rfl,?_,?_,ae⟩,ae⟩⟩,λ _=>⟨λ _=>⟨?_,?_⟩,λ _=>⟨?_,?_,?_,?_,?_,?_,k1+1,?_,?_,⟨rfl,?_,?_,ae⟩,ae⟩⟩⟩,λ _=>⟨?_,?_⟩⟩⟩⟩,λ _=>⟨λ _=>⟨?_,?_⟩,λ _=>⟨⟨0,?_,⟨rfl,?_,?_,ae⟩,ae⟩,λ k1 _ _=>⟨λ _=>⟨?_,λ _=>⟨?_,λ _=>⟨?_,?_⟩,λ _=>⟨?_,?_,?_,?_,?_,?_,k1+1,?_,?_,⟨rfl,?_,?_,ae⟩,ae⟩⟩,λ _=>⟨λ _=>⟨?_,?_⟩,λ _=>⟨?_,?_,?_,?_,?_,?_,k1+1,?_,?_,⟨rfl,?_,?_,ae⟩,ae⟩⟩⟩,λ _=>⟨?_,?_⟩⟩⟩⟩⟩,λ _=>⟨λ _=>⟨?_,?_⟩,λ _=>⟨⟨0,?_,⟨rfl,?_,?_,ae⟩,ae⟩,λ k1 _ _=>⟨λ _=>⟨?_,λ _=>⟨?_,λ _=>⟨?_,?_⟩,λ _=>⟨?_,?_,?_,?_,?_,?_,k1+1,?_,?_,⟨rfl,?_,?_,ae⟩,ae⟩⟩,λ _=>⟨λ _=>⟨?_,?_⟩,λ _=>⟨?_,?_,?_,?_,?_,?_,k1+1,?_,?_,⟨rfl,?_,?_,ae⟩,ae⟩⟩⟩,λ _=>⟨?_,?_⟩⟩⟩⟩⟩⟩;all_goals try and_intros
 all_goals first|rfl|trivial|omega|((try simp only[b3B,b3z,b3v,b3u,ak,a3j,a0h,O,a9h,a9g] at *);first|omega|exact (a4L 9 s (by omega)).1.symm|exact (a4L 9 s (by omega)).2.symm|exact a5F 9 s (by omega) (by omega)|(have hq:Jn 9 s k1:=(by with_reducible assumption);have hl:=a8T 9 s k1 hq;first|omega|exact (a1P 9 s k1 hq (by omega) (by omega)).1.symm|exact (a1P 9 s k1 hq (by omega) (by omega)).2.symm|exact (R2 9 s k1 hq (by omega) (by omega) (by omega)).1|exact (R2 9 s k1 hq (by omega) (by omega) (by omega)).2.symm|(rw[(R2 9 s k1 hq (by omega) (by omega) (by omega)).2];omega)|exact (a1Q 9 s k1 hq (by omega)).1.symm|exact (a1Q 9 s k1 hq (by omega)).2.symm))
def wi(b n:Int):Bool:=decide (0<=n/\n<=b - 1)
def a7h(b n:Int):wi b n=decide (0<=n/\n<=b - 1):=rfl
def F3:aL:=⟨Gy,[.v (.slice (.int .i64)), .v (.int .i64)],λ (xs:List Int) (below:Int)=>⟨(some (0<=below/\below<=4096),[⟨.bool,bp (wi below) xs⟩])⟩⟩
def TH(xs:List Int)(below:Int):Nat->az:=(cP 0 (.b (Nat) (λ k=>k<=xs.length/\bp (wi below) (xs.take k)=true) (λ k=>xs.length - k) [0] (λ k=>[(9, .aF ⟨(.int .i64),((k:Int):Int)⟩)])) bI)
def MB:aL.Good F3:=by
 refine⟨ar Cw,?_⟩;intro (xs:List Int) (below:Int) (hp:0<=below/\below<=4096);refine aV [fO] [] [] [] ⟨fW,ae⟩ Cw L4 (TH xs below) (let v0:=(xs.length:Int);let v1:=(0:Int);let v2:=wi below;let v3:=below - (1:Int);((O v0->((∃ k1:Nat,((k1<=xs.length/\bp v2 (xs.take k1)=true)/\((below=below/\(xs=xs/\(v0=v0/\(v1=(k1:Int)/\True))))/\True)))/\(∀ k1:Nat,let v4 := !(decide (v1<=(xs.getD k1 v1)/\(xs.getD k1 v1)<=v3));((k1<=xs.length/\bp v2 (xs.take k1)=true)->(((decide ((k1:Int)<v0))=true->(ak (k1:Int) xs.length/\(O (xs.getD k1 v1)->(O v3/\(((v4=true)->false=(bp v2 xs))/\((v4=false)->(O ((k1:Int)+(1:Int))/\(∃ k2:Nat,((k2<=xs.length/\bp v2 (xs.take k2)=true)/\(xs.length - k2<xs.length - k1/\((below=below/\(xs=xs/\(v0=v0/\(((k1:Int)+(1:Int))=(k2:Int)/\True))))/\True)))))))))))/\((decide ((k1:Int)<v0))=false->true=(bp v2 xs))))))))) ?_;have f0:=all_zero (wi below) xs;refine λ _=>⟨⟨0,?_,⟨rfl,rfl,rfl,?_,ae⟩,ae⟩,λ k1 _=>have HO:=di (wi below) 0 xs k1;have HP:=dL (wi below) 0 xs k1;have HQ:=dU (wi below) xs k1;have Vh:=a7h below (xs.getD k1 0);⟨λ _=>⟨?_,λ _=>⟨?_,λ _=>?_,λ _=>⟨?_,k1+1,?_,?_,⟨rfl,rfl,rfl,?_,ae⟩,ae⟩⟩⟩,λ _=>?_⟩⟩;all_goals try and_intros
 all_goals first|rfl|trivial|omega|(simp only[decide_eq_true_eq,decide_eq_false_iff_not,ak,O] at *;first|omega|grind)|grind [ak,O]
end
end Go.Proofs.YtmjfpcajohhbeaaGreatDoor

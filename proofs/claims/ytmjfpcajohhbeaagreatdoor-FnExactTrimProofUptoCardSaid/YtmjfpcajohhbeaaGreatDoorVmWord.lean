/- VmUse, VmOpen, VmRow, VmLib, VmSz, VmTo, VmEq, VmOwnFam, VmOwnFam2, VmOwnFam4, VmHeld, VmHeldpf, VmExpr, VmExpr2, VmShaped, VmTruth, VmValid, VmPfe, VmBld, VmBld2, VmShelf, VmShelf2, VmBw, VmSplit, VmWord. -/
import Derived.Test.YtmjfpcajohhbeaaGreatDoorVmNew
import Derived.Test.YtmjfpcajohhbeaaGreatDoorRows
import Derived.WalkKit
import Derived.ProofKit
import Derived.OpenShut
import Derived.JoinedCond
import Derived.Carry
import Derived.ChangeSame
import Derived.Shelf.Vars
import Derived.Shelf.Strings.Builder1
import Derived.Shelf.Strconv.Itoa0
import Derived.Shelf.Strconv.Itoa1
import Derived.Shelf.LaysM
import Derived.Shelf.Strconv.Itoa2
import Derived.Shelf.Strconv.Itoa3
import Derived.Shelf.Strings.Search1
import Derived.Shelf.Strings.Search2
import Derived.Shelf.Strings.Cut
import Derived.Shelf.Strings.Shaped
import Derived.Shelf.Strings.Prefix
import Derived.Test.YtmjfpcajohhbeaaGreatDoorProg
import Derived.Lib.Builder
import Derived.Lib.AppendStr
import Derived.Lib.UnsafeStr
import Derived.Lib.Walk
import Derived.Lib.Strings
import Derived.Lib.Slices
import Derived.Lib.MakeNoZero
import Derived.Laws.Externs
import Derived.Laws.IdiomCopy
import Derived.BigCall
import Derived.OwnWalk
set_option linter.all false
set_option maxHeartbeats 4000000
set_option maxRecDepth 100000
namespace Go.Proofs.YtmjfpcajohhbeaaGreatDoor
def b7a:=@Bool.and_eq_true_iff
def b5H:=@Nat.not_lt_zero
def b6Q:=@List.replicate_succ
def b5C:=@Nat.lt_succ_self
def b5k:=@Bool.not_eq_false'
def b8J:=@decide_not
def b7V:=@List.set_set
def b8R:=@Int.lt_or_le
def b8z:=@Go.Oper.upon_value
def b8r:=@Go.RowKit.Below.refl
def b7B:=@Go.Lib.cell_of_heap
def b7g:=@Bool.and_eq_false_iff
abbrev cd{α:Type}[SizeOf α](x:α):Nat:=SizeOf.sizeOf x
def ca{α:Type}[SizeOf α](d:α):∀ (xs:List α) (i:Nat),i<xs.length->cd (xs.getD i d)<cd xs
 | [],i,h=>by simp at h
 | x::xs,0,h=>by simp[cd];omega
 | x::xs,i+1,h=>by
  have:=ca d xs i (by simpa using h);simp[cd] at this ⊢;omega
def dk(e:J):cd e.M<cd e:=by
 cases e;simp[cd];omega
inductive PK where
 | v (τ:Ty)
 | r (τ:Ty)
 | f
 | c (ps:List Ty) (r:Ty)
 | o (τ:Ty)
 | b (k:Nat)
@[reducible] def KT:List PK->Type 1
 | []=>ULift (Vc×List TV)
 | .v τ::l=>τ.den->KT l
 | .r τ::l=>τ.den->KT l
 | .f::l=>FuncId->KT l
 | .c ps r::l=>FN ps r->KT l
 | .o τ::l=>τ.den->KT l
 | .b _::l=>KT l
def di:(l:List PK)->KT l->List Arg->Option (Vc×List TV)
 | [],x,[]=>some x.down
 | .v τ::l,g, .val a::zs=>match a.Z9 τ with
  | some x=>di l (g x) zs
  | none=>none
 | .r τ::l,g, .ref a::zs=>match a.Z9 τ with
  | some x=>di l (g x) zs
  | none=>none
 | .f::l,g, .fn a::zs=>di l (g a) zs
 | .c ps r::l,g, .dc a::zs=>match a.Z9 ps r with
  | some x=>di l (g x) zs
  | none=>none
 | .o τ::l,g, .own a::zs=>match a.Z9 τ with
  | some x=>di l (g x) zs
  | none=>none
 | _,_,_=>none
def KOk(P:Program)(f:FuncId):(l:List PK)->KT l->List Arg->Prop
 | [],x,acc=>x.down.1.ok->gw P f acc (·=x.down.2)
 | .v τ::l,g,acc=>∀ x,KOk P f l (g x) (acc++[.val ⟨τ,x⟩])
 | .r τ::l,g,acc=>∀ x,KOk P f l (g x) (acc++[.ref ⟨τ,x⟩])
 | .f::l,g,acc=>∀ x,KOk P f l (g x) (acc++[.fn x])
 | .c ps r::l,g,acc=>∀ x,KOk P f l (g x) (acc++[.dc ⟨ps,r,x⟩])
 | .o τ::l,g,acc=>∀ x,KOk P f l (g x) (acc++[.own ⟨τ,x⟩])
 | .b _::_,_,_=>True
def sO{P:Program}{f:FuncId}:∀ (l:List PK) (g:KT l) (acc zs:List Arg) (pre:Vc) (res:List TV),KOk P f l g acc->di l g zs=some (pre,res)->pre.ok->gw P f (acc++zs) (·=res)
 | [],g,acc,zs,pre,res,h,e,hp=>by
  cases zs with
  | nil =>
   simp only[di,b4L] at e;have h':g.down.1.ok->gw P f acc (·=g.down.2):=h;rw[e] at h';rw[b6a];exact h' hp
  | cons a zs=>simp[di] at e
 | .v τ::l,g,acc,zs,pre,res,h,e,hp=>by
  cases zs with
  | nil=>simp[di] at e
  | cons a zs =>
   cases a with
   | val a =>
    rw[di] at e;split at e
    .rename_i x hx;have:=sO l (g x) (acc++[.val ⟨τ,x⟩]) zs pre res (h x) e hp;rw[TV.aU hx];simpa using this
    .cases e
   | ref a=>simp[di] at e
   | dc a=>simp[di] at e
   | own a=>simp[di] at e
   | fn a=>simp[di] at e
   | box a=>simp[di] at e
 | .r τ::l,g,acc,zs,pre,res,h,e,hp=>by
  cases zs with
  | nil=>simp[di] at e
  | cons a zs =>
   cases a with
   | ref a =>
    rw[di] at e;split at e
    .rename_i x hx;have:=sO l (g x) (acc++[.ref ⟨τ,x⟩]) zs pre res (h x) e hp;rw[TV.aU hx];simpa using this
    .cases e
   | val a=>simp[di] at e
   | dc a=>simp[di] at e
   | own a=>simp[di] at e
   | fn a=>simp[di] at e
   | box a=>simp[di] at e
 | .f::l,g,acc,zs,pre,res,h,e,hp=>by
  cases zs with
  | nil=>simp[di] at e
  | cons a zs =>
   cases a with
   | fn a =>
    rw[di] at e;have:=sO l (g a) (acc++[.fn a]) zs pre res (h a) e hp;simpa using this
   | val a=>simp[di] at e
   | dc a=>simp[di] at e
   | own a=>simp[di] at e
   | ref a=>simp[di] at e
   | box a=>simp[di] at e
 | .c ps r::l,g,acc,zs,pre,res,h,e,hp=>by
  cases zs with
  | nil=>simp[di] at e
  | cons a zs =>
   cases a with
   | dc a =>
    rw[di] at e;split at e
    .rename_i x hx;have:=sO l (g x) (acc++[.dc ⟨ps,r,x⟩]) zs pre res (h x) e hp;rw[FV.aU hx];simpa using this
    .cases e
   | val a=>simp[di] at e
   | ref a=>simp[di] at e
   | fn a=>simp[di] at e
   | own a=>simp[di] at e
   | box a=>simp[di] at e
 | .o τ::l,g,acc,zs,pre,res,h,e,hp=>by
  cases zs with
  | nil=>simp[di] at e
  | cons a zs =>
   cases a with
   | own a =>
    rw[di] at e;split at e
    .rename_i x hx;have:=sO l (g x) (acc++[.own ⟨τ,x⟩]) zs pre res (h x) e hp;rw[TV.aU hx];simpa using this
    .cases e
   | val a=>simp[di] at e
   | ref a=>simp[di] at e
   | fn a=>simp[di] at e
   | dc a=>simp[di] at e
   | box a=>simp[di] at e
 | .b k::l,g,acc,zs,pre,res,h,e,hp=>by
  cases zs<;>simp[di] at e
structure aN where
 n:Nat
 l:List PK
 g:KT l
def aN.Good(c:aN):Prop:=iw prog c.n/\KOk prog c.n c.l c.g []
def ju:List aN->Nat->List Arg->Option (Vc×List TV)
 | [],_,_=>none
 | c::r,f,zs=>match Nat.beq c.n f with
  | true=>di c.l c.g zs
  | false=>ju r f zs
def PK.own:PK->Bool
 | .o _=>true
 | _=>false
def Yg:List aN->Nat->List Bool
 | [],_=>[]
 | c::r,f=>match Nat.beq c.n f with
  | true=>match c.l.any PK.own with
   | true=>c.l.map PK.own
   | false=>[]
  | false=>Yg r f
def MZ(l:List aN)(wr:List Nat:=[])(cl:List (Nat×nz):=[])(ro:List Nat:=[]):Env:=Env.mk CG QY (ju l) wr [] (λ _ _=>none) (λ _=>none) (ah cl) ro (λ _=>[]) (λ _=>none) (λ _ _ _=>none) Kj qX Pt
 (λ _ _ _ _=>none)
def bC:List aN->Prop
 | []=>True
 | c::r=>c.Good/\bC r
def J9:∀ (l:List aN),bC l->∀ f args pre res,ju l f args=some (pre,res)->pre.ok->iw prog f/\gw prog f args (·=res)
 | [],_,f,args,pre,res,e,_=>by cases e
 | c::r,h,f,args,pre,res,e,hp=>by
  rw[ju] at e;split at e
  .rename_i hb;have hb:=b4O hb;subst hb;exact⟨h.1.1,sO c.l c.g [] args pre res h.1.2 e hp⟩
  .exact J9 r h.2 f args pre res e hp
def zl{α:Type}:∀ (l:List (Nat×α)) (n:Nat) (v:α),ah l n=some v->(n,v)∈l
 | [],n,v,h=>by cases h
 | (k,u)::r,n,v,h=>by
  rw[ah] at h;split at h
  .rename_i hb;cases h;rw[b4O hb];exact b7p ..
  .exact b6l _ (zl r n v h)
def RR{l:List aN}{wr:List Nat}{cl:List (Nat×nz)}{ro:List Nat}(h:bC l):bF prog (MZ l wr cl ro) where
 ty T τ b e ht:=by
  have h1:=b5F.mp (b7a.1 (xD (ju l) wr [] (λ _ _=>none) (λ _=>none) (ah cl) ro (λ _=>[]) (λ _=>none) (λ _ _ _=>none) qX
 (λ _ _ _ _=>none)
 )).1 _ (zl _ _ _ ht)
  exact h1
 mty T κ ε ht:=by
  have h1:=b5F.mp (b7a.1 (xD (ju l) wr [] (λ _ _=>none) (λ _=>none) (ah cl) ro (λ _=>[]) (λ _=>none) (λ _ _ _=>none) qX
 (λ _ _ _ _=>none)
 )).2 _ (zl _ _ _ ht)
  exact h1
 pty _ _ _:=trivial
 Pv:=J9 l h
 Mg _ _ _ _ h:=by cases h
 mark _ _ h:=by cases h
 TT:=N7
 Yc _ _ _ _ _ _ h:=by cases h
 XZ _ _ _ _ _ _ _ h:=by cases h
def ar {f:FuncId} {fn:Func} (h:prog.funcs[f]?=some fn) (hb:fn.body.isNone=false:=by rfl) (hn:(fn.name == "runtime.NumGoroutine")=false:=by decide):iw prog f:=⟨fn,h,hb,hn⟩
def mB:∀ {l m:List TV},uC l m->l=m
 | [],[],_=>rfl
 | [v],[u],h=>by rw[kH h]
 | v::v'::vs,[u],h=>by
  have:=mB (l:=v'::vs) (m:=[]) h.2;cases this
 | [v],u::u'::us,h=>by
  have:=mB (l:=[]) (m:=u'::us) h.2;cases this
 | v::v'::vs,u::u'::us,h=>by rw[kH h.1,mB (l:=v'::vs) (m:=u'::us) h.2]
 | [],u::us,h=>by cases h
 | v::vs,[],h=>by
  cases vs<;>cases h
def gw.mono{P:Program}{f:FuncId}{args:List Arg}{p q:List TV->Prop}(h:gw P f args p)(hpq:∀ r,p r->q r):gw P f args q:=by
 intro w S b9 hS ha;refine (h w S b9 hS ha).mono λ e w'=>?_;rintro⟨x,S',res,h1,h2,h3⟩;exact⟨x,S',res,h1,hpq _ h2,h3⟩
def a4o{f:FuncId}{fn:Func}{dd:Code}{l:List aN}{wr:List Nat}{cl:List (Nat×nz)}{ro:List Nat}(hl:bC l)(hf:prog.funcs[f]?=some fn)(hb:fn.body=some dd)(Λ:Nat->aA){args:List Arg}{res:List TV}
  (h:p6 (MZ l wr cl ro) dd Λ 0 (yy (MZ l wr cl ro) fn λ r=>uC r res) (dO fn args)):gw prog f args (·=res) :=
 (Zx (RR hl) mw hf hb Λ h).mono λ _=>mB
def xG(P:Program)(f:FuncId):(l:List PK)->KT l->List Arg->Prop
 | [],x,acc=>x.down.1.ok->pT P f acc x.down.2
 | .v τ::l,g,acc=>∀ x,xG P f l (g x) (acc++[.val ⟨τ,x⟩])
 | .r τ::l,g,acc=>∀ x,xG P f l (g x) (acc++[.ref ⟨τ,x⟩])
 | .f::l,g,acc=>∀ x,xG P f l (g x) (acc++[.fn x])
 | .c ps r::l,g,acc=>∀ x,xG P f l (g x) (acc++[.dc ⟨ps,r,x⟩])
 | .o τ::l,g,acc=>∀ x,xG P f l (g x) (acc++[.own ⟨τ,x⟩])
 | .b _::_,_,_=>True
def pJ{P:Program}{f:FuncId}:∀ (l:List PK) (g:KT l) (acc zs:List Arg) (pre:Vc) (res:List TV),xG P f l g acc->di l g zs=some (pre,res)->pre.ok->pT P f (acc++zs) res
 | [],g,acc,zs,pre,res,h,e,hp=>by
  cases zs with
  | nil =>
   simp only[di,b4L] at e;have h':g.down.1.ok->pT P f acc g.down.2:=h;rw[e] at h';rw[b6a];exact h' hp
  | cons a zs=>simp[di] at e
 | .v τ::l,g,acc,zs,pre,res,h,e,hp=>by
  cases zs with
  | nil=>simp[di] at e
  | cons a zs =>
   cases a with
   | val a =>
    rw[di] at e;split at e
    .rename_i x hx;have:=pJ l (g x) (acc++[.val ⟨τ,x⟩]) zs pre res (h x) e hp;rw[TV.aU hx];simpa using this
    .cases e
   | ref a=>simp[di] at e
   | dc a=>simp[di] at e
   | own a=>simp[di] at e
   | fn a=>simp[di] at e
   | box a=>simp[di] at e
 | .r τ::l,g,acc,zs,pre,res,h,e,hp=>by
  cases zs with
  | nil=>simp[di] at e
  | cons a zs =>
   cases a with
   | ref a =>
    rw[di] at e;split at e
    .rename_i x hx;have:=pJ l (g x) (acc++[.ref ⟨τ,x⟩]) zs pre res (h x) e hp;rw[TV.aU hx];simpa using this
    .cases e
   | val a=>simp[di] at e
   | dc a=>simp[di] at e
   | own a=>simp[di] at e
   | fn a=>simp[di] at e
   | box a=>simp[di] at e
 | .f::l,g,acc,zs,pre,res,h,e,hp=>by
  cases zs with
  | nil=>simp[di] at e
  | cons a zs =>
   cases a with
   | fn a =>
    rw[di] at e;have:=pJ l (g a) (acc++[.fn a]) zs pre res (h a) e hp;simpa using this
   | val a=>simp[di] at e
   | dc a=>simp[di] at e
   | own a=>simp[di] at e
   | ref a=>simp[di] at e
   | box a=>simp[di] at e
 | .c ps r::l,g,acc,zs,pre,res,h,e,hp=>by
  cases zs with
  | nil=>simp[di] at e
  | cons a zs =>
   cases a with
   | dc a =>
    rw[di] at e;split at e
    .rename_i x hx;have:=pJ l (g x) (acc++[.dc ⟨ps,r,x⟩]) zs pre res (h x) e hp;rw[FV.aU hx];simpa using this
    .cases e
   | val a=>simp[di] at e
   | ref a=>simp[di] at e
   | fn a=>simp[di] at e
   | own a=>simp[di] at e
   | box a=>simp[di] at e
 | .o τ::l,g,acc,zs,pre,res,h,e,hp=>by
  cases zs with
  | nil=>simp[di] at e
  | cons a zs =>
   cases a with
   | own a =>
    rw[di] at e;split at e
    .rename_i x hx;have:=pJ l (g x) (acc++[.own ⟨τ,x⟩]) zs pre res (h x) e hp;rw[TV.aU hx];simpa using this
    .cases e
   | val a=>simp[di] at e
   | ref a=>simp[di] at e
   | fn a=>simp[di] at e
   | dc a=>simp[di] at e
   | box a=>simp[di] at e
 | .b k::l,g,acc,zs,pre,res,h,e,hp=>by
  cases zs<;>simp[di] at e
def aN.cZ(c:aN):Prop:=iw prog c.n/\xG prog c.n c.l c.g []
def xH.pb{w:World}{S:Nat->Prop}{v:TV}{x:Value}{fp:List Nat}(h:xH w v x fp)(hb:∀ b∈fp,S b):dV w S v x:=by
 obtain⟨τ,y⟩:=v;cases τ with
 | st s =>
  obtain⟨cs,h1,h2⟩:=h;exact⟨cs,h1,h2.rd _ hb⟩
 | _=>exact Ow.rd _ h hb
def OP.pb{w:World}{S:Nat->Prop}:∀ {vs:List TV} {xs:List Value} {fp:List Nat},OP w vs xs fp->(∀ b∈fp,S b)->aT (dV w S) vs xs
 | [],[],_,_,_=>trivial
 | v::vs,x::xs,fp,h,hb=>by
  obtain⟨f1,f2,rfl,h1,h2⟩:=h;exact⟨h1.pb λ b cA=>hb b (b6Z _ cA),OP.pb h2 λ b cA=>hb b (List.mem_append_right _ cA)⟩
 | [],_::_,_,h,_=>h.elim
 | _::_,[],_,h,_=>h.elim
def pT.plain{P:Program}{f:FuncId}{args:List Arg}{res:List TV}(h:pT P f args res):gw P f args (·=res):=by
 intro w S b9 hS ha;refine (h w S b9 [] hS (uy.XJ ha) (.inl rfl) b6b (λ b hb=>by cases hb)).mono ?_;rintro e w' ⟨x,fp,rfl,hk,hr,_,jM⟩;have hn:∀ b∈fp,w.heap.size<=b/\b<w'.heap.size:=λ b hb=>(jM b hb).elim (λ q=>by cases q) id;refine⟨x,λ b=>S b\/b∈fp,res,rfl,rfl,⟨hk.os,hk.tape,hk.output,hk.size,λ b hb _=>hk.block b hb λ q=>by cases q⟩,λ b hb=>⟨λ q=>q.elim id λ q=>absurd (hn b q).1 (by omega), .inl⟩,λ b q=>q.elim (λ q=>b5i (hS.1 b q) hk.size) λ q=>(hn b q).2,?_⟩;match res,hr with
 | [v],hr=>exact xH.pb (v:=v) hr λ b hb => .inr hb
 | [],hr =>
  obtain⟨l,h1,h2⟩:=hr;exact⟨l,h1,h2.pb λ b hb => .inr hb⟩
 | v::u::vs,hr =>
  obtain⟨l,h1,h2⟩:=hr;exact⟨l,h1,h2.pb λ b hb => .inr hb⟩
def xG.plain{P:Program}{f:FuncId}:∀ (l:List PK) (g:KT l) (acc:List Arg),xG P f l g acc->KOk P f l g acc
 | [],_,_,h=>λ hp=>(h hp).plain
 | .v _::l,g,_,h=>λ x=>xG.plain l (g x) _ (h x)
 | .r _::l,g,_,h=>λ x=>xG.plain l (g x) _ (h x)
 | .f::l,g,_,h=>λ x=>xG.plain l (g x) _ (h x)
 | .c _ _::l,g,_,h=>λ x=>xG.plain l (g x) _ (h x)
 | .o _::l,g,_,h=>λ x=>xG.plain l (g x) _ (h x)
 | .b _::_,_,_,_=>trivial
def aN.cZ.plain{k:aN}(h:k.cZ):k.Good:=⟨h.1,xG.plain k.l k.g [] h.2⟩
def gn:List aN->Prop
 | []=>True
 | c::r=>c.cZ/\gn r
def N8:∀ (l:List aN),gn l->∀ f args pre res,ju l f args=some (pre,res)->pre.ok->iw prog f/\pT prog f args res
 | [],_,f,args,pre,res,e,_=>by cases e
 | c::r,h,f,args,pre,res,e,hp=>by
  rw[ju] at e;split at e
  .rename_i hb;have hb:=b4O hb;subst hb;exact⟨h.1.1,pJ c.l c.g [] args pre res h.1.2 e hp⟩
  .exact N8 r h.2 f args pre res e hp
structure MK where
 n:Nat
 m:CI
def MK.Good(c:MK):Prop:=iw prog c.n/\J2 prog c.n c.m
def iv:List MK->Prop
 | []=>True
 | c::r=>c.Good/\iv r
def xj:List MK->Nat->Option CI
 | [],_=>none
 | c::r,f=>match Nat.beq c.n f with
  | true=>some c.m
  | false=>xj r f
def N3:∀ (l:List MK),iv l->∀ f m,xj l f=some m->iw prog f/\J2 prog f m
 | [],_,f,m,e=>by cases e
 | c::r,h,f,m,e=>by
  rw[xj] at e;split at e
  .rename_i hb;have hb:=b4O hb;subst hb;cases e;exact h.1
  .exact N3 r h.2 f m e
@[reducible] def KTC:List Ty->Type 1->Type 1
 | [],R=>R
 | t::ts,R=>t.den->KTC ts R
@[reducible] def KTD:List (List Ty)->Type 1
 | []=>ULift (Vc×List TV×List (List TV))
 | ts::D=>KTC ts (KTD D)
@[reducible] def Yn:List PK->List (List Ty)->Type 1
 | [],D=>KTD D
 | .v τ::l,D=>τ.den->Yn l D
 | .r τ::l,D=>τ.den->Yn l D
 | .f::l,D=>FuncId->Yn l D
 | .b _::l,D=>Yn l D
 | .c ps r::l,D=>FN ps r->Yn l D
 | .o _::l,D=>Yn l D
def kC:(ts:List Ty)->(R:Type 1)->KTC ts R->List TV->Option R
 | [],_,r,[]=>some r
 | t::ts,R,g,v::vs=>match v.Z9 t with
  | some x=>kC ts R (g x) vs
  | none=>none
 | _,_,_,_=>none
def kD:(D:List (List Ty))->KTD D->List (List TV)->Option (Vc×List TV×List (List TV))
 | [],r,[]=>some r.down
 | ts::D,g,vs::bN=>match kC ts (KTD D) g vs with
  | some h=>kD D h bN
  | none=>none
 | _,_,_=>none
def kS:(l:List PK)->(D:List (List Ty))->Yn l D->List Arg->List (List TV)->Option (Vc×List TV×List (List TV))
 | [],D,g,[],bN=>kD D g bN
 | .v τ::l,D,g, .val a::zs,bN=>match a.Z9 τ with
  | some x=>kS l D (g x) zs bN
  | none=>none
 | .r τ::l,D,g, .ref a::zs,bN=>match a.Z9 τ with
  | some x=>kS l D (g x) zs bN
  | none=>none
 | .f::l,D,g, .fn a::zs,bN=>kS l D (g a) zs bN
 | .c ps r::l,D,g, .dc a::zs,bN=>match a.Z9 ps r with
  | some F=>kS l D (g F) zs bN
  | none=>none
 | .b k::l,D,g, .box j::zs,bN=>match Nat.beq k j with
  | true=>kS l D g zs bN
  | false=>none
 | _,_,_,_,_=>none
def a6R:(ts:List Ty)->(R:Type 1)->(R->List TV->Prop)->KTC ts R->List TV->Prop
 | [],_,p,r,acc=>p r acc
 | t::ts,R,p,g,acc=>∀ x,a6R ts R p (g x) (acc++[⟨t,x⟩])
def a6S(q:List (List TV)->Vc×List TV×List (List TV)->Prop):(D:List (List Ty))->KTD D->List (List TV)->Prop
 | [],r,acc=>q acc r.down
 | ts::D,g,acc=>a6R ts (KTD D) (λ h vs=>a6S q D h (acc++[vs])) g []
def Vz(P:Program)(f:FuncId)(sh:List (List CK)):(l:List PK)->(D:List (List Ty))->Yn l D->List Arg->Prop
 | [],D,g,acc=>a6S (λ bN r=>r.1.ok->OO P f sh acc bN r.2.1 r.2.2) D g []
 | .v τ::l,D,g,acc=>∀ x,Vz P f sh l D (g x) (acc++[.val ⟨τ,x⟩])
 | .r τ::l,D,g,acc=>∀ x,Vz P f sh l D (g x) (acc++[.ref ⟨τ,x⟩])
 | .f::l,D,g,acc=>∀ x,Vz P f sh l D (g x) (acc++[.fn x])
 | .b k::l,D,g,acc=>Vz P f sh l D g (acc++[.box k])
 | .c ps r::l,D,g,acc=>∀ x,Vz P f sh l D (g x) (acc++[.dc ⟨ps,r,x⟩])
 | .o _::_,_,_,_=>True
def a8b:∀ (ts:List Ty) (R:Type 1) (p:R->List TV->Prop) (g:KTC ts R) (acc vs:List TV) (r:R),a6R ts R p g acc->kC ts R g vs=some r->p r (acc++vs)
 | [],R,p,g,acc,vs,r,h,e=>by
  cases vs with
  | nil =>
   simp only[kC,b4L] at e;subst e;rw[b6a];exact h
  | cons v vs=>simp[kC] at e
 | t::ts,R,p,g,acc,vs,r,h,e=>by
  cases vs with
  | nil=>simp[kC] at e
  | cons v vs =>
   rw[kC] at e;split at e
   .rename_i x hx;have:=a8b ts R p (g x) (acc++[⟨t,x⟩]) vs r (h x) e;rw[TV.aU hx];simpa using this
   .cases e
def a8c(q:List (List TV)->Vc×List TV×List (List TV)->Prop):∀ (D:List (List Ty)) (g:KTD D) (acc bN:List (List TV)) (r:Vc×List TV×List (List TV)),a6S q D g acc->kD D g bN=some r->q (acc++bN) r
 | [],g,acc,bN,r,h,e=>by
  cases bN with
  | nil =>
   simp only[kD,b4L] at e;subst e;rw[b6a];exact h
  | cons v vs=>simp[kD] at e
 | ts::D,g,acc,bN,r,h,e=>by
  cases bN with
  | nil=>simp[kD] at e
  | cons vs bN =>
   rw[kD] at e;split at e
   .rename_i k hk;have h1:=a8b ts _ _ g [] vs k h hk;have:=a8c q D k (acc++[vs]) bN r (by simpa using h1) e;simpa using this
   .cases e
def Sg{P:Program}{f:FuncId}{sh:List (List CK)}:∀ (l:List PK) (D:List (List Ty)) (g:Yn l D) (acc zs:List Arg) (bN:List (List TV)) (pre:Vc) (res:List TV) (dI:List (List TV)),Vz P f sh l D g acc->kS l D g zs bN=some (pre,res,dI)->pre.ok->OO P f sh (acc++zs) bN res dI
 | [],D,g,acc,zs,bN,pre,res,dI,h,e,hp=>by
  cases zs with
  | nil =>
   have:=a8c _ D g [] bN _ h e;simpa using this hp
  | cons z zs=>simp[kS] at e
 | .v τ::l,D,g,acc,zs,bN,pre,res,dI,h,e,hp=>by
  cases zs with
  | nil=>simp[kS] at e
  | cons a zs =>
   cases a with
   | val a =>
    rw[kS] at e;split at e
    .rename_i x hx;have:=Sg l D (g x) (acc++[.val ⟨τ,x⟩]) zs bN pre res dI (h x) e hp;rw[TV.aU hx];simpa using this
    .cases e
   | _=>simp[kS] at e
 | .r τ::l,D,g,acc,zs,bN,pre,res,dI,h,e,hp=>by
  cases zs with
  | nil=>simp[kS] at e
  | cons a zs =>
   cases a with
   | ref a =>
    rw[kS] at e;split at e
    .rename_i x hx;have:=Sg l D (g x) (acc++[.ref ⟨τ,x⟩]) zs bN pre res dI (h x) e hp;rw[TV.aU hx];simpa using this
    .cases e
   | _=>simp[kS] at e
 | .f::l,D,g,acc,zs,bN,pre,res,dI,h,e,hp=>by
  cases zs with
  | nil=>simp[kS] at e
  | cons a zs =>
   cases a with
   | fn a =>
    rw[kS] at e;have:=Sg l D (g a) (acc++[.fn a]) zs bN pre res dI (h a) e hp;simpa using this
   | _=>simp[kS] at e
 | .b k::l,D,g,acc,zs,bN,pre,res,dI,h,e,hp=>by
  cases zs with
  | nil=>simp[kS] at e
  | cons a zs =>
   cases a with
   | box j =>
    rw[kS] at e;split at e
    .rename_i hb;have hb:=Nat.eq_of_beq_eq_true hb;subst hb;have:=Sg l D g (acc++[.box k]) zs bN pre res dI h e hp;simpa using this
    .cases e
   | _=>simp[kS] at e
 | .c ps r::l,D,g,acc,zs,bN,pre,res,dI,h,e,hp=>by
  cases zs with
  | nil=>simp[kS] at e
  | cons a zs =>
   cases a with
   | dc a =>
    rw[kS] at e;split at e
    .rename_i F hF;have:=Sg l D (g F) (acc++[.dc ⟨ps,r,F⟩]) zs bN pre res dI (h F) e hp;rw[FV.aU hF];simpa using this
    .cases e
   | _=>simp[kS] at e
 | .o _::l,D,g,acc,zs,bN,pre,res,dI,h,e,hp=>by cases zs<;>simp[kS] at e
structure fG where
 n:Nat
 sh:List (List CK)
 l:List PK
 D:List (List Ty)
 g:Yn l D
def fG.Good(c:fG):Prop:=iw prog c.n/\Vz prog c.n c.sh c.l c.D c.g []
def gF:List fG->Prop
 | []=>True
 | c::r=>c.Good/\gF r
def a8D:List PK->List (Option Nat)
 | []=>[]
 | .b k::l=>some k::a8D l
 | _::l=>none::a8D l
def Q8:List fG->Nat->Option SK
 | [],_=>none
 | c::r,f=>match Nat.beq c.n f with
  | true=>some ⟨a8D c.l,c.sh⟩
  | false=>Q8 r f
def xo:List fG->Nat->List Arg->List (List TV)->Option (Vc×List TV×List (List TV))
 | [],_,_,_=>none
 | c::r,f,zs,bN=>match Nat.beq c.n f with
  | true=>kS c.l c.D c.g zs bN
  | false=>xo r f zs bN
def Ot:∀ (l:List fG),gF l->∀ f sk args bN pre res dI,Q8 l f=some sk->xo l f args bN=some (pre,res,dI)->pre.ok->iw prog f/\OO prog f sk.sh args bN res dI
 | [],_,f,sk,args,bN,pre,res,dI,h,_,_=>by cases h
 | c::r,h,f,sk,args,bN,pre,res,dI,hs,e,hp=>by
  rw[Q8] at hs;rw[xo] at e;split at e
  .rename_i hb;rw[hb] at hs;have hb:=Nat.eq_of_beq_eq_true hb;subst hb;simp only[Option.some.injEq] at hs;subst hs;exact⟨h.1.1,by simpa using Sg c.l c.D c.g [] args bN pre res dI h.1.2 e hp⟩
  .rename_i hb;rw[hb] at hs;exact Ot r h.2 f sk args bN pre res dI hs e hp
def x8(l:List aN)(ol:List aN)(ml:List MK)(own wr:List Nat)(cl:List (Nat×nz):=[])(ro:List Nat:=[])(sl:List fG:=[]):Env:=Env.mk CG QY (ju l) wr own (ju ol) (xj ml) (ah cl) ro (Yg ol) (Q8 sl) (xo sl) Kj qX Pt
 (λ _ _ _ _=>none)
def PB{l ol:List aN}{ml:List MK}{own wr:List Nat}{cl:List (Nat×nz)}{ro:List Nat}{sl:List fG}(h:bC l)(ho:gn ol)(hm:iv ml)(hs:gF sl):bF prog (x8 l ol ml own wr cl ro sl) where
 ty T τ b e ht:=by
  have h1:=b5F.mp (b7a.1 (xD (ju l) wr own (ju ol) (xj ml) (ah cl) ro (Yg ol) (Q8 sl) (xo sl) qX
 (λ _ _ _ _=>none)
 )).1 _ (zl _ _ _ ht)
  exact h1
 mty T κ ε ht:=by
  have h1:=b5F.mp (b7a.1 (xD (ju l) wr own (ju ol) (xj ml) (ah cl) ro (Yg ol) (Q8 sl) (xo sl) qX
 (λ _ _ _ _=>none)
 )).2 _ (zl _ _ _ ht)
  exact h1
 pty _ _ _:=trivial
 Pv:=J9 l h
 Mg:=N8 ol ho
 mark:=N3 ml hm
 TT:=N7
 Yc _ _ _ _ _ _ h:=by cases h
 XZ:=Ot sl hs
def a2x{f:FuncId}{fn:Func}{dd:Code}{l ol:List aN}{ml:List MK}{own wr:List Nat}{cl:List (Nat×nz)}{ro:List Nat}{sl:List fG}(hl:bC l)(ho:gn ol)(hm:iv ml)(hs:gF sl)(hf:prog.funcs[f]?=some fn)(hb:fn.body=some dd)(Λ:Nat->aA){args:List Arg}{res:List TV}
  (h:p6 (x8 l ol ml own wr cl ro sl) dd Λ 0 (yy (x8 l ol ml own wr cl ro sl) fn λ r=>uC r res) (dO fn args)):gw prog f args (·=res) :=
 (Zx (PB hl ho hm hs) mw hf hb Λ h).mono λ _=>mB
def a2y{f:FuncId}{fn:Func}{dd:Code}{l ol:List aN}{ml:List MK}{own wr:List Nat}{cl:List (Nat×nz)}{ro:List Nat}{sl:List fG}(hl:bC l)(ho:gn ol)(hm:iv ml)(hs:gF sl)(hf:prog.funcs[f]?=some fn)(hb:fn.body=some dd)(Λ:Nat->aA){args:List Arg}{res:List TV}
  (h:p6 (x8 l ol ml own wr cl ro sl) dd Λ 0 (Ex (x8 l ol ml own wr cl ro sl) fn λ r=>uC r res) (Rf fn args)):pT prog f args res :=
 LU (PB hl ho hm hs) mw hf hb Λ (λ _=>mB) h
def a0L{f:FuncId}{fn:Func}{dd:Code}{l ol:List aN}{ml:List MK}{own wr:List Nat}{cl:List (Nat×nz)}{ro:List Nat}{sl:List fG}(hl:bC l)(ho:gn ol)(hm:iv ml)(hs:gF sl)(hf:prog.funcs[f]?=some fn)(hb:fn.body=some dd){m:CI}(Λ:m.τ.den->Int->Nat->aA)(Fi:∀ x:m.τ.den,(TV.cells ⟨m.τ,x⟩).length<=50)(hn:2<=fn.ntmps)
  (h:∀ (x:m.τ.den) (k:Int),(m.g x k).1.ok->O k->p6 (x8 l ol ml own wr cl ro sl) dd (Λ x k) 0 (D9 fn m x k) (jb fn ⟨m.τ,x⟩ k)):J2 prog f m :=
 Wk (PB hl ho hm hs) mw hf hb Λ Fi hn h
def Vd:List (List TV)->List (List TV)->Prop
 | [],[]=>True
 | a::r,b::q=>uC a b/\Vd r q
 | _,_=>False
def VJ:∀ {a b:List (List TV)},Vd a b->a=b
 | [],[],_=>rfl
 | _::_,_::_,h=>by rw[mB h.1,VJ h.2]
 | [],_::_,h=>h.elim
 | _::_,[],h=>h.elim
def Ik(args:List Arg)(n:Nat):Bool:=args.all λ a=>match a with
 | .box k=>Nat.blt k n
 | _=>true
def LI{args:List Arg}{n:Nat}(h:Ik args n=true):∀ k,Arg.box k∈args->k<n:=λ k hk=>by
 unfold Ik at h;rw[List.all_eq_true] at h;exact Nat.le_of_ble_eq_true (h _ hk)
def a4C{f:FuncId}{fn:Func}{dd:Code}{l ol:List aN}{ml:List MK}{own wr:List Nat}{cl:List (Nat×nz)}{ro:List Nat}{sl:List fG}(hl:bC l)(ho:gn ol)(hm:iv ml)(hs:gF sl)(hf:prog.funcs[f]?=some fn)(hb:fn.body=some dd)(Λ:Nat->aA){args:List Arg}{sh:List (List CK)}{bN:List (List TV)}{res:List TV}{dI:List (List TV)}
  (Hv:X2 sh=true) (IL:Ik args sh.length=true) (h:p6 (x8 l ol ml own wr cl ro sl) dd Λ 0 (Ko (x8 l ol ml own wr cl ro sl) fn sh λ r ds=>uC r res/\Vd ds dI) (ed fn args sh bN)):OO prog f sh args bN res dI :=
 a0t (PB hl ho hm hs) mw hf hb Λ (λ _ _ q=>⟨mB q.1,VJ q.2⟩) Hv (LI IL) h
def aX{f:FuncId}{fn:Func}{dd:Code}(l:List aN)(wr:List Nat)(cl:List (Nat×nz))(ro:List Nat)(hl:bC l)(hf:prog.funcs[f]?=some fn)(hb:fn.body=some dd)(Λ:Nat->aA){args:List Arg}{res:List TV}(V:Prop)(h:V)
  (e:p6 (MZ l wr cl ro) dd Λ 0 (yy (MZ l wr cl ro) fn λ r=>uC r res) (dO fn args)=V:=by kernel_rfl):gw prog f args (·=res) :=
 a4o hl hf hb Λ (Eq.mpr e h)
def XL{f:FuncId}{fn:Func}{dd:Code}(l ol:List aN)(ml:List MK)(sl:List fG)(own wr:List Nat)(cl:List (Nat×nz))(ro:List Nat)(hl:bC l)(ho:gn ol)(hm:iv ml)(hs:gF sl)(hf:prog.funcs[f]?=some fn)(hb:fn.body=some dd)(Λ:Nat->aA){args:List Arg}{res:List TV}(V:Prop)(h:V)
  (e:p6 (x8 l ol ml own wr cl ro sl) dd Λ 0 (yy (x8 l ol ml own wr cl ro sl) fn λ r=>uC r res) (dO fn args)=V:=by kernel_rfl):gw prog f args (·=res) :=
 a2x hl ho hm hs hf hb Λ (Eq.mpr e h)
def cp{f:FuncId}{fn:Func}{dd:Code}(l ol:List aN)(ml:List MK)(sl:List fG)(own wr:List Nat)(cl:List (Nat×nz))(ro:List Nat)(hl:bC l)(ho:gn ol)(hm:iv ml)(hs:gF sl)(hf:prog.funcs[f]?=some fn)(hb:fn.body=some dd)(Λ:Nat->aA){args:List Arg}{res:List TV}(V:Prop)(h:V)
  (e:p6 (x8 l ol ml own wr cl ro sl) dd Λ 0 (Ex (x8 l ol ml own wr cl ro sl) fn λ r=>uC r res) (Rf fn args)=V:=by kernel_rfl):pT prog f args res :=
 a2y hl ho hm hs hf hb Λ (Eq.mpr e h)
def uf{f:FuncId}{fn:Func}{dd:Code}(l ol:List aN)(ml:List MK)(sl:List fG)(own wr:List Nat)(cl:List (Nat×nz))(ro:List Nat)(hl:bC l)(ho:gn ol)(hm:iv ml)(hs:gF sl)(hf:prog.funcs[f]?=some fn)(hb:fn.body=some dd){m:CI}(Λ:m.τ.den->Int->Nat->aA)(V:m.τ.den->Int->Prop)(h:∀ (x:m.τ.den) (k:Int),(m.g x k).1.ok->O k->V x k)
  (e:∀ (x:m.τ.den) (k:Int),p6 (x8 l ol ml own wr cl ro sl) dd (Λ x k) 0 (D9 fn m x k) (jb fn ⟨m.τ,x⟩ k)=V x k:=by intro _ _;kernel_rfl) (Fi:∀ x:m.τ.den,Nat.ble (TV.cells ⟨m.τ,x⟩).length 50=true:=by intro _;rfl) (hn:Nat.ble 2 fn.ntmps=true:=by kernel_rfl):J2 prog f m :=
 a0L hl ho hm hs hf hb Λ (λ x=>b5R (Fi x)) (b5R hn) λ x k h1 h2=>Eq.mpr (e x k) (h x k h1 h2)
def gQ{f:FuncId}{fn:Func}{dd:Code}(l ol:List aN)(ml:List MK)(sl:List fG)(own wr:List Nat)(cl:List (Nat×nz))(ro:List Nat)(hl:bC l)(ho:gn ol)(hm:iv ml)(hs:gF sl)(hf:prog.funcs[f]?=some fn)(hb:fn.body=some dd)(Λ:Nat->aA){args:List Arg}{sh:List (List CK)}{bN:List (List TV)}{res:List TV}{dI:List (List TV)}
  (Hv:X2 sh=true) (IL:Ik args sh.length=true) (V:Prop) (h:V) (e:p6 (x8 l ol ml own wr cl ro sl) dd Λ 0 (Ko (x8 l ol ml own wr cl ro sl) fn sh λ r ds=>uC r res/\Vd ds dI) (ed fn args sh bN)=V:=by kernel_rfl):OO prog f sh args bN res dI :=
 a4C hl ho hm hs hf hb Λ Hv IL (Eq.mpr e h)
@[reducible] def KTR:List PK->Ty->Type 1
 | [],τ=>List τ.den->ULift (Vc×List τ.den)
 | .v t::l,τ=>t.den->KTR l τ
 | .r t::l,τ=>t.den->KTR l τ
 | _::l,τ=>KTR l τ
def kR:(l:List PK)->(τ:Ty)->KTR l τ->List Arg->List τ.den->Option (Vc×List τ.den)
 | [],_,g,[],xs=>some (g xs).down
 | .v t::l,τ,g, .val a::zs,xs=>match a.Z9 t with
  | some x=>kR l τ (g x) zs xs
  | none=>none
 | .r t::l,τ,g, .ref a::zs,xs=>match a.Z9 t with
  | some x=>kR l τ (g x) zs xs
  | none=>none
 | _,_,_,_,_=>none
def a4K(P:Program)(f:FuncId):(l:List PK)->(τ:Ty)->KTR l τ->List Arg->Prop
 | [],τ,g,acc=>∀ xs:List τ.den,(g xs).down.1.ok->J3 P f acc τ xs (g xs).down.2
 | .v t::l,τ,g,acc=>∀ x,a4K P f l τ (g x) (acc++[.val ⟨t,x⟩])
 | .r t::l,τ,g,acc=>∀ x,a4K P f l τ (g x) (acc++[.ref ⟨t,x⟩])
 | _::l,τ,g,acc=>False
def a3S{P:Program}{f:FuncId}:∀ (l:List PK) (τ:Ty) (g:KTR l τ) (acc zs:List Arg) (xs ys:List τ.den) (pre:Vc),a4K P f l τ g acc->kR l τ g zs xs=some (pre,ys)->pre.ok->J3 P f (acc++zs) τ xs ys
 | [],τ,g,acc,zs,xs,ys,pre,h,e,hp=>by
  cases zs with
  | nil =>
   simp only[kR,b4L] at e;have h2:=h xs;rw[e] at h2;rw[b6a];exact h2 hp
  | cons z zs=>simp[kR] at e
 | .v t::l,τ,g,acc,zs,xs,ys,pre,h,e,hp=>by
  cases zs with
  | nil=>simp[kR] at e
  | cons a zs =>
   cases a with
   | val a =>
    rw[kR] at e;split at e
    .rename_i x hx;have:=a3S l τ (g x) (acc++[.val ⟨t,x⟩]) zs xs ys pre (h x) e hp;rw[TV.aU hx];simpa using this
    .cases e
   | _=>simp[kR] at e
 | .r t::l,τ,g,acc,zs,xs,ys,pre,h,e,hp=>by
  cases zs with
  | nil=>simp[kR] at e
  | cons a zs =>
   cases a with
   | ref a =>
    rw[kR] at e;split at e
    .rename_i x hx;have:=a3S l τ (g x) (acc++[.ref ⟨t,x⟩]) zs xs ys pre (h x) e hp;rw[TV.aU hx];simpa using this
    .cases e
   | _=>simp[kR] at e
 | .f::l,τ,g,acc,zs,xs,ys,pre,h,e,hp=>h.elim
 | .c _ _::l,τ,g,acc,zs,xs,ys,pre,h,e,hp=>h.elim
 | .o _::l,τ,g,acc,zs,xs,ys,pre,h,e,hp=>h.elim
 | .b _::l,τ,g,acc,zs,xs,ys,pre,h,e,hp=>h.elim
structure Rw where
 n:Nat
 l:List PK
 τ:Ty
 g:KTR l τ
def Rw.Good(c:Rw):Prop:=iw prog c.n/\a4K prog c.n c.l c.τ c.g []
def Vv:List Rw->Prop
 | []=>True
 | c::r=>c.Good/\Vv r
def Kr:List Rw->Nat->List Arg->(τ:Ty)->List τ.den->Option (Vc×List τ.den)
 | [],_,_,_,_=>none
 | c::r,f,zs,τ,xs=>match Nat.beq c.n f with
  | true=>match TV.Z9 (.slice c.τ) ⟨.slice τ,xs⟩ with
   | some cS=>match kR c.l c.τ c.g zs cS with
    | some (pre,ys)=>match TV.Z9 (.slice τ) ⟨.slice c.τ,ys⟩ with
     | some ys'=>some (pre,ys')
     | none=>none
    | none=>none
   | none=>none
  | false=>Kr r f zs τ xs
def Yd:∀ (l:List Rw),Vv l->∀ f az τ xs pre ys,Kr l f az τ xs=some (pre,ys)->pre.ok->iw prog f/\J3 prog f az τ xs ys
 | [],_,f,az,τ,xs,pre,ys,e,_=>by cases e
 | c::r,h,f,az,τ,xs,pre,ys,e,hp=>by
  rw[Kr] at e;split at e
  .rename_i hb;have hb:=b4O hb;subst hb;split at e
   .rename_i cS hx;split at e
    .rename_i b3P ys1 hk;split at e
     .rename_i ys' hy;simp only[Option.some.injEq,Prod.mk.injEq] at e;obtain⟨rfl,rfl⟩:=e;have e1:=TV.aU hx;simp only[TV.mk.injEq,Ty.slice.injEq] at e1;obtain⟨rfl,e1⟩:=e1;have e1:=eq_of_heq e1;subst e1;have e2:=TV.aU hy;simp only[TV.mk.injEq,true_and] at e2;have e2:=eq_of_heq e2;subst e2;exact⟨h.1.1,by simpa using a3S c.l c.τ c.g [] az xs ys1 b3P h.1.2 hk hp⟩
     .cases e
    .cases e
   .cases e
  .exact Yd r h.2 f az τ xs pre ys e hp
def a4Z(l:List aN)(ol:List aN)(ml:List MK)(own wr:List Nat)(cl:List (Nat×nz))(ro:List Nat)(sl:List fG)(tl:List Rw):Env:=Env.mk CG QY (ju l) wr own (ju ol) (xj ml) (ah cl) ro (Yg ol) (Q8 sl) (xo sl) Kj qX Pt (Kr tl)
def a1J{l ol:List aN}{ml:List MK}{own wr:List Nat}{cl:List (Nat×nz)}{ro:List Nat}{sl:List fG}{tl:List Rw}(h:bC l)(ho:gn ol)(hm:iv ml)(hs:gF sl)(ht:Vv tl):bF prog (a4Z l ol ml own wr cl ro sl tl) where
 ty T τ b e hh:=by
  have h1:=b5F.mp (b7a.1 (xD (ju l) wr own (ju ol) (xj ml) (ah cl) ro (Yg ol) (Q8 sl) (xo sl) qX (Kr tl))).1 _ (zl _ _ _ hh);exact h1
 mty T κ ε hh:=by
  have h1:=b5F.mp (b7a.1 (xD (ju l) wr own (ju ol) (xj ml) (ah cl) ro (Yg ol) (Q8 sl) (xo sl) qX (Kr tl))).2 _ (zl _ _ _ hh);exact h1
 pty _ _ _:=trivial
 Pv:=J9 l h
 Mg:=N8 ol ho
 mark:=N3 ml hm
 TT:=N7
 Yc:=Yd tl ht
 XZ:=Ot sl hs
def a2z{f:FuncId}{fn:Func}{dd:Code}(l ol:List aN)(ml:List MK)(sl:List fG)(tl:List Rw)(own wr:List Nat)(cl:List (Nat×nz))(ro:List Nat)(hl:bC l)(ho:gn ol)(hm:iv ml)(hs:gF sl)(ht:Vv tl)(hf:prog.funcs[f]?=some fn)(hb:fn.body=some dd)(Λ:Nat->aA){args:List Arg}{res:List TV}(V:Prop)(h:V)
  (e:p6 (a4Z l ol ml own wr cl ro sl tl) dd Λ 0 (Ex (a4Z l ol ml own wr cl ro sl tl) fn λ r=>uC r res) (Rf fn args)=V:=by kernel_rfl):pT prog f args res :=
 LU (a1J hl ho hm hs ht) mw hf hb Λ (λ _=>mB) (Eq.mpr e h)
def a2Y{f:FuncId}{fn:Func}{dd:Code}(l ol:List aN)(ml:List MK)(sl:List fG)(tl:List Rw)(own wr:List Nat)(cl:List (Nat×nz))(ro:List Nat)(hl:bC l)(ho:gn ol)(hm:iv ml)(hs:gF sl)(ht:Vv tl)(hf:prog.funcs[f]?=some fn)(hb:fn.body=some dd)(Λ:Nat->aA){args:List Arg}{τ:Ty}{xs ys:List τ.den}(V:Prop)(h:V)
  (e:p6 (a4Z l ol ml own wr cl ro sl tl) dd Λ 0 (Kt τ λ zs=>zs=ys) (pf fn args τ xs)=V:=by kernel_rfl) (hr:fn.results.size=0:=by rfl) (IL:Ik args 0=true:=by rfl) (hn:Nat.ble (args.length+1) fn.ntmps=true:=by rfl):J3 prog f args τ xs ys :=
 Wl (a1J hl ho hm hs ht) mw hf hb Λ hr (λ k hk=>absurd (LI IL k hk) (b5H _)) (b5R hn) (Eq.mpr e h)
open Go.ChangeShapes Go.WideShapes Go.ChangeAt Go.RowKit
theorem dq.append{w:World}{S:Nat->Prop}:∀ (ds es:List D) {l m:List Value},dq w S ds l->dq w S es m->dq w S (ds++es) (l++m)
 | [],_,_,_,h,k=>by rw[show _=[] from h];simpa using k
 | d::ds,es,_,m,h,k=>by
  obtain⟨c,r,rfl,h2,h3⟩:=h;exact⟨c,r++m,by simp,h2,dq.append ds es h3 k⟩
theorem a6x{w:World}{S:Nat->Prop}(t:Ty)(y:t.den){cs:List Value}(h:Rd w S (t.aP y) cs):dq w S ((TV.cells ⟨t,y⟩).map TV.aP) cs:=by
 have one:∀ d:D,d.leaf=true->Rd w S d cs->dq w S [d] cs:=by
  intro d hd h;obtain⟨v,rfl,_⟩:=Rd.vP hd h;exact⟨v,[],rfl,h,rfl⟩
 cases t with
 | st s =>
  have h':Rd w S (s.aP y) cs:=h;rw[aV.cz] at h';exact h'
 | int k=>exact one _ rfl h
 | bool=>exact one _ rfl h
 | str=>exact one _ rfl h
 | slice t=>exact one _ rfl h
 | mv t=>exact one _ (SI _ _ _) h
 | ptr=>exact one _ rfl h
theorem Wf{w:World}{S:Nat->Prop}:∀ (ts:List Ty) (cs:List Value),cs.length=(ts.map Ty.size).sum ->
  (∀ i t,ts[i]?=some t->∃ y:t.den,Rd w S (t.aP y) ((cs.drop ((ts.take i).map Ty.size).sum).take t.size)) ->
  ∃ fl:List TV,fl.map TV.τ=ts/\dq w S ((fl.flatMap TV.cells).map TV.aP) cs
 | [],cs,h,_=>⟨[],rfl,by
   have:cs=[]:=by simpa using h
   subst this;exact rfl⟩
 | t::ts,cs,h,k=>by
  obtain⟨y,hy⟩:=k 0 t rfl;simp only[b5T,b6K,List.sum_nil,b7b] at hy;simp only[b5J,List.sum_cons] at h;obtain⟨fl,h1,h2⟩:=Wf ts (cs.drop t.size) (by simp;omega) (λ i u hu=>by
   obtain⟨z,hz⟩:=k (i+1) u hu;simp only[b7X,b5J,List.sum_cons] at hz;rw[<-b6C] at hz;exact⟨z,hz⟩)
  refine⟨⟨t,y⟩::fl,by simp[h1],?_⟩;simp only[List.flatMap_cons,b6F];have:=dq.append _ _ (a6x t y hy) h2;rwa [b6d] at this
theorem a5E{w:World}{S:Nat->Prop}(t:Ty)(b:Nat):∀ (n o:Nat),(∀ i,i<n->∃ (x:t.den) (cs:List Value),cs.length=t.size/\Rd w S (t.aP x) cs/\cf w b (o+i * t.size) cs) ->
  ∃ xs:List t.den,xs.length=n/\dw w S (xs.map t.aP) b o
 | 0,o,_=>⟨[],rfl,ae⟩
 | n+1,o,h=>by
  obtain⟨x,cs,h1,h2,h3⟩:=h 0 (by omega);obtain⟨xs,h4,h5⟩:=a5E t b n (o+t.size) (λ i hi=>by
   obtain⟨y,c,g1,g2,g3⟩:=h (i+1) (by omega);exact⟨y,c,g1,g2,by rw[show o+t.size+i * t.size=o+(i+1) * t.size by rw[b6i];omega];exact g3⟩)
  refine⟨x::xs,by simp[h4],⟨cs,by rw[Ty.cN];exact h1,h2,by simpa using h3⟩,?_⟩;rw[Ty.cN];exact h5
section
variable {H:Type} {enc:TypeId×Value->H} {w:World} {spare:Nat->Bool} {held:Bool}
theorem a0T(d:DataW H):1<=Rows.uptoBulk d:=by
 cases d with
 | lit l=>cases l<;>simp[Rows.uptoBulk]
 | nil=>simp[Rows.uptoBulk]
 | ptr d=>simp[Rows.uptoBulk]
 | slice elems spare=>simp[Rows.uptoBulk]
 | agg parts=>simp[Rows.uptoBulk]
 | iface t d=>simp[Rows.uptoBulk]
 | map entries=>simp[Rows.uptoBulk]
 | held h=>simp[Rows.uptoBulk]
theorem XR{d:DataW H}{l:List (DataW H)}(h:d∈l):Rows.uptoBulk d<=Rows.uptoBulkAll l:=by
 induction l with
 | nil=>cases h
 | cons x r ih =>
  simp only[Rows.uptoBulkAll];cases b5h.1 h with
  | inl e=>subst e;omega
  | inr e=>have:=ih e;omega
theorem UR(l:List (DataW H)):l.length<=Rows.uptoBulkAll l:=by
 induction l with
 | nil=>simp[Rows.uptoBulkAll]
 | cons x r ih=>have:=a0T x;simp only[Rows.uptoBulkAll,b4Y];omega
theorem pe:bF prog (MZ []):=RR trivial
theorem E1{T b e:Nat}{τ:Ty}(h:ah CG T=some (τ,b,e)):prog.cellsOf T=τ.size:=by
 obtain⟨i,z,h1,h2,_⟩:=(pe.info (T:=T) (τ:=τ) (b:=b) (e:=e) h).ex;simp[Program.cellsOf,h1,h2]
theorem a2G:∀ (fuel:Nat) (τ:Ty) (T b e:Nat) (cs:List Value) (x:DataW H×List MemPlace),ah CG T=some (τ,b,e)->DataW.trod enc prog w 0 spare held fuel T cs=some x ->
  Rows.uptoBulk x.1<=1048576->∃ y:τ.den,Rd w (·<w.heap.size) (τ.aP y) cs:=by
 intro fuel;induction fuel with
 | zero =>
  intro τ T b e cs x ht h hk;have h':(none:Option (DataW H×List MemPlace))=some x:=h;cases h'
 | succ fuel ih =>
 intro τ T b e cs x ht h hk;cases τ with
 | int k =>
  obtain⟨n,rfl,rfl,hw⟩:=DataW.trod_int (pe.int ht) h;refine⟨n,rfl,?_⟩;simpa [Lit.wf] using hw
 | bool =>
  obtain⟨n,rfl,rfl⟩:=DataW.trod_bool (pe.bool ht) h;exact⟨n,rfl⟩
 | str =>
  obtain⟨n,rfl,rfl,hw⟩:=DataW.trod_string (pe.str ht) h;refine⟨n.data.toList,n,rfl,rfl,?_⟩;simp[Rows.uptoBulk] at hk;have:n.size=n.data.size:=rfl;omega
 | mv t=>exact (pe.a8w ht).elim
 | ptr =>
  obtain⟨t,hu⟩:=pe.ptr ht;rcases DataW.trod_pointer hu h with ⟨rfl,_⟩|⟨a,_,_,_,_,rfl,_⟩
  .exact⟨(),_,rfl⟩
  .exact⟨(),_,rfl⟩
 | slice t =>
  obtain⟨hu,⟨b',e',he⟩,_⟩:=pe.slice ht;have hc:=E1 he;rcases DataW.trod_slice hu h with ⟨rfl,rfl⟩|⟨a,len,cap,elems,rest,n,hn,rfl,rfl,hb,hl,hm,hlen,hel,_⟩
  .exact⟨[],none,0,rfl,b5w _,b5Y _,b5Y _, .inl rfl⟩
  .obtain rfl:n=fuel:=by omega
   rw[hc] at hel;have a3K:∀ (i:Nat) (z:DataW H×List MemPlace),elems[i]?=some z->Rows.uptoBulk z.1<=1048576:=by
    intro i z hz;have h1:=XR (d:=z.1) (l:=elems.map (·.1)) (b4W.2 ⟨z,b6t hz,rfl⟩);simp only[Rows.uptoBulk] at hk;omega
   have IS:∀ i,i<len->∃ (y:t.den) (c:List Value),c.length=t.size/\Rd w (·<w.heap.size) (t.aP y) c/\(∀ j v,c[j]?=some v->w.cell? ((a.add (i * t.size)).add j)=some v):=by
    intro i hi;have hz:elems[i]?=some (elems[i]'(by omega)):=b5p (by omega);have:=hel i hi;rw[hz,b6k] at this;obtain⟨c,R0,hc2⟩:=this;obtain⟨y,hy⟩:=ih t e b' e' c _ he hc2 (a3K i _ hz);obtain⟨_,h5,h6⟩:=World.cells?_some R0;refine⟨y,c,h5,hy,λ j v hj=>?_⟩;rw[h6 j (by rw[<-h5];exact (b5K.1 hj).1),hj]
   have hlb:len<=1048576:=by
    have h1:=UR (elems.map (·.1));simp only[Rows.uptoBulk,b5g] at hk h1;omega
   rcases Nat.eq_zero_or_pos len with h0|h0
   .subst h0;exact⟨[],some a,cap,rfl,b5Y _,hm,b5Y _, .inl rfl⟩
   .have hp:=Ty.size_pos t;have hsp:a.spot=none:=by
     obtain⟨y,c,g1,g2,g3⟩:=IS 0 h0;have hj:c[0]?=some (c[0]'(by omega)):=List.getElem?_eq_getElem (by omega);have:=World.cell?_spot (g3 0 _ hj);simpa [Addr.add] using this
    obtain⟨ab,ao,asp⟩:=a;simp only at hsp;subst hsp;have b0J:∀ i j,((⟨ab,ao,none⟩:Addr).add i).add j=⟨ab,ao+i+j,none⟩:=by
     intro i j;unfold Addr.add;split<;>split<;>simp_all<;>omega
    obtain⟨xs,h1,h2⟩:=a5E (w:=w) (S:=(·<w.heap.size)) t ab len ao (λ i hi=>by
     obtain⟨y,c,g1,g2,g3⟩:=IS i hi;exact⟨y,c,g1,g2,λ j v hj=>by rw[<-b0J];exact g3 j v hj⟩)
    have bK:ab<w.heap.size:=by
     obtain⟨y,c,g1,g2,g3⟩:=IS 0 h0;have hj:c[0]?=some (c[0]'(by omega)):=List.getElem?_eq_getElem (by omega);have:=g3 0 _ hj;rw[b0J] at this;unfold World.cell? at this;split at this
     .rename_i hh;exact (b5Z.1 hh).1
     .cases this
    have hlm:(xs.map t.aP).length=len:=by simp[h1]
    refine⟨xs,some ⟨ab,ao,none⟩,cap,by rw[hlm],by rw[hlm];exact hl,hm,by rw[hlm];omega, .inr ⟨ab,ao,rfl,bK,h2⟩⟩
 | st s =>
  obtain⟨fs,hu,cK,hf⟩:=pe.st ht;obtain⟨xs,n,hn,rfl,Fj,vI,hx⟩:=DataW.trod_struct hu h;obtain rfl:n=fuel:=by omega
  have kj:cs.length=(s.fX.map Ty.size).sum:=by
   rw[Fj,E1 ht];cases s<;>rfl
  obtain⟨fl,h1,h2⟩:=Wf (w:=w) (S:=(·<w.heap.size)) s.fX cs kj (λ i t hi=>by
   have bK:i<fs.size:=by rw[cK];exact (b5K.1 hi).1
   obtain⟨t',b',e',g1,g2,g3⟩:=hf i (fs[i]'bK) (b6c bK);rw[hi] at g1;cases g1;have hy:=hx i (fs[i]'bK) (b6c bK);have hz:xs[i]?=some (xs[i]'(by omega)):=b5p (by omega);rw[hz,E1 g2,g3] at hy;refine ih t _ b' e' _ _ g2 hy ?_;have h3:=XR (d:=(xs[i]'(by omega)).1) (l:=xs.map (·.1)) (b4W.2 ⟨_,b6h _,rfl⟩);simp only[Rows.uptoBulk] at hk;omega)
  obtain⟨y,hy⟩:=aV.a3B s fl h1;refine⟨y,?_⟩;show Rd w _ (s.aP y) cs;rw[aV.cz,aV.LL,hy];exact h2
end
end Go.Proofs.YtmjfpcajohhbeaaGreatDoor

namespace Go.Proofs.YtmjfpcajohhbeaaGreatDoor
open Go.ChangeShapes Go.WideShapes Go.ChangeAt Go.RowKit
theorem a4u:laidOutB prog=true:=by kernel_rfl
theorem a6u:ownKnob prog.godebug=none:=by kernel_rfl
section
variable {H:Type} {enc:TypeId×Value->H}
theorem Mm{W W':World}{sp:Nat->Bool}(hb:Below W.heap.size W W'):∀ (ts:List TypeId) {vs:List Value} {ds:List (DataW H)} {ps:List MemPlace},(∀ t∈ts,prog.readableRec t=true/\t<prog.types.size) ->
  DataW.TrodAll enc prog W 0 (λ _=>true) true ts vs ds ps->(∀ p∈ps,p.block<W.heap.size)->(∀ p∈ps,sp p.block=true)->DataW.TrodAll enc prog W' 0 sp true ts vs ds ps
 | [],[],[],ps,_,h,_,_=>h
 | t::ts,v::vs,d::ds,ps,ht,h,bK,hsp=>by
  obtain⟨p,q,h1,h2,rfl⟩:=h;refine⟨p,q,?_,?_,rfl⟩
  .exact WideElems.Trod_stays a4u (ht t (by simp)).1 (ht t (by simp)).2 h1 (λ x hx=>hb.same (bK x (by simp[hx]))) (λ x hx=>hsp x (by simp[hx]))
  .exact Mm hb ts (λ t h=>ht t (by simp[h])) h2 (λ x hx=>bK x (by simp[hx])) (λ x hx=>hsp x (by simp[hx]))
 | [],_::_,_,_,_,h,_,_=>h.elim
 | [],[],_::_,_,_,h,_,_=>h.elim
 | _::_,[],_,_,_,h,_,_=>h.elim
 | _::_,_::_,[],_,_,h,_,_=>h.elim
theorem a2C{f:Func}{s:ChangeSpec}{apart fresh handsOn again:Bool}{W W':World}{args:Array Value}{v:Value}{ds gs:List (DataW H)}{before pa pv:List MemPlace}
  (hW:DataW.Whole enc prog f.params.toList s.vars apart W args.toList ds gs before)
  (TH:∀ (b:Nat) (sp:Nat->Bool) (hd:Bool),DataW.TrodAll enc prog W' b sp hd f.resultTypes.toList (v.resultList f.resultTypes.size) (s.fn H (ds++gs)).results [])
  (dr:∀ sp:Nat->Bool,(∀ p∈before,sp p.block=true)->DataW.TrodAll enc prog W' 0 sp true f.params.toList args.toList (s.fn H (ds++gs)).args pa)
  (WR:∀ sp:Nat->Bool,(∀ p∈before,sp p.block=true)->DataW.TrodVars enc prog W' sp s.vars (s.fn H (ds++gs)).vars pv)
  (hps:before=pa++pv) (hb:Below W.heap.size W W')
  (YD:∀ (j:Nat) (t:TypeId) (r:Value),f.resultTypes[j]?=some t->(v.resultList f.resultTypes.size)[j]?=some r->Value.okWide prog W' .any 0 t r) :
  s.post enc prog f apart fresh handsOn again W args v W':=by
 have bK:∀ p∈before,p.block<W.heap.size:=λ p hp=>hW.lt p hp;have hold:∀ p∈before,(λ b=>decide (b<W.heap.size)) p.block=true:=λ p hp=>by simpa using bK p hp
 refine⟨ds,gs,before,[],pa,pv,hW,TH _ _ _,dr _ hold,WR _ hold,World.keptBut_mono (λ p hp=>⟨hp,?_⟩) (hb.frame (·∈before)),λ _=>?_⟩
 .rw[hps,b4Q] at hp;exact Or.inr hp
 .obtain⟨_,_,_,_,_,hz,hn⟩:=hW;refine⟨YD,_,_,([]++pa)++pv,⟨[]++pa,pv,trodAll_append (dr _ (λ _ _=>rfl)) (TH _ _ _),WR _ (λ _ _=>rfl),rfl,?_,?_⟩,?_⟩
  .intro b off hp;have eA:MemPlace.cell b off∈before:=by rw[hps];simpa using hp
   rw[hb.frozen (bK _ eA)];exact hz b off eA
  .intro ha;have:=hn ha;rw[hps] at this;simpa using this
  .intro p hp _;rw[hps];simpa using hp
def a2Q(τ:Ty)(v:Value):Prop:=match τ with
 | .st _=>∃ cs,v = .agg cs
 | _=>v.cells = #[v]
theorem b0a{w:World}{S:Nat->Prop}(τ:Ty)(y:τ.den){v:Value}(hv:a2Q τ v)(h:Rd w S (τ.aP y) v.cells.toList):dV w S ⟨τ,y⟩ v:=by
 cases τ with
 | st s =>
  obtain⟨cs,rfl⟩:=hv;exact⟨cs.toList,by simp,h⟩
 | int k=>simp only[show v.cells = #[v] from hv] at h;exact h
 | bool=>simp only[show v.cells = #[v] from hv] at h;exact h
 | str=>simp only[show v.cells = #[v] from hv] at h;exact h
 | slice t=>simp only[show v.cells = #[v] from hv] at h;exact h
 | mv t=>simp only[show v.cells = #[v] from hv] at h;exact h
 | ptr=>simp only[show v.cells = #[v] from hv] at h;exact h
theorem a1o{w:World}:∀ (ts:List TypeId) (τs:List Ty) {vs:List Value} {ds:List (DataW H)} {ps:List MemPlace},aT (λ T τ=>∃ b e,ah CG T=some (τ,b,e)) ts τs ->
  DataW.TrodAll enc prog w 0 (λ _=>true) true ts vs ds ps->(∀ d∈ds,Rows.uptoBulk d<=1048576)->(∀ (j:Nat) t v,ts[j]?=some t->vs[j]?=some v->Value.okWide prog w .any 0 t v\/∃ b,Value.okWide prog w .any b t v) ->
  ∃ Ro:List TV,Ro.map TV.τ=τs/\ds.length=τs.length/\aT (Ax prog w (·<w.heap.size)) (Ro.map .val) vs
 | [],[],[],[],_,_,_,_,_=>⟨[],rfl,rfl,ae⟩
 | T::ts,τ::τs,v::vs,d::ds,ps,ht,h,hk,hv=>by
  obtain⟨p,q,⟨n,h1⟩,h2,rfl⟩:=h;obtain⟨⟨b,e,hT⟩,Up⟩:=ht;obtain⟨y,hy⟩:=a2G n τ T b e _ _ hT h1 (hk d (by simp));obtain⟨Ro,g1,g2,g3⟩:=a1o ts τs Up h2 (λ d hd=>hk d (by simp[hd])) (λ j t v hj IQ=>hv (j+1) t v hj IQ);refine⟨⟨τ,y⟩::Ro,by simp[g1],by simp[g2],⟨?_,g3⟩⟩;refine b0a τ y ?_ hy;have Qk:=hv 0 T v rfl rfl;have key:∀ b,Value.okWide prog w .any b T v->a2Q τ v:=by
   intro b' hb;cases τ with
   | st s =>
    obtain⟨fs,hu,_⟩:=pe.st hT;simp only[Value.okWide,hu] at hb;obtain⟨cs,rfl,_⟩:=hb;exact⟨cs,rfl⟩
   | int k =>
    have hu:=pe.int hT;simp only[Value.okWide,hu,Cell.okWide,Cell.ok] at hb;cases v<;>first|rfl|cases hb
   | bool =>
    have hu:=pe.bool hT;simp only[Value.okWide,hu,Cell.okWide,Cell.ok] at hb;cases v<;>first|rfl|cases hb
   | str =>
    have hu:=pe.str hT;simp only[Value.okWide,hu,Cell.okWide,Cell.ok] at hb;cases v<;>first|rfl|cases hb
   | mv t=>exact (pe.a8w hT).elim
   | ptr =>
    obtain⟨t,hu⟩:=pe.ptr hT;simp only[Value.okWide,hu,Cell.okWide,Cell.ok] at hb;cases v<;>first|rfl|cases hb
   | slice t =>
    have hu:=(pe.slice hT).1;simp only[Value.okWide,hu,Cell.okWide,Cell.ok] at hb;cases v<;>first|rfl|cases hb
  rcases Qk with h|⟨b',h⟩
  .exact key _ h
  .exact key _ h
 | [],_::_,_,_,_,h,_,_,_=>h.elim
 | _::_,[],_,_,_,h,_,_,_=>h.elim
 | [],[],_::_,_,_,_,h,_,_=>h.elim
 | [],[],[],_::_,_,_,h,_,_=>h.elim
 | _::_,_::_,[],_,_,_,h,_,_=>h.elim
 | _::_,_::_,_::_,[],_,_,h,_,_=>h.elim
noncomputable def b0G(g:Nat):Bool:=g<prog.globals.size&&match ((begin prog (λ _ _=>0) default).world.heap[g]?).bind Obj.row? with
 | some (zero,t)=>zero.size == 1&&prog.buildable t&&(match prog.cellTypes prog.depth t with|some [u]=>u == t|_=>false)&&(match prog.underlying t with|some (.int .i64)=>true|_=>false)
 | none=>false
theorem a6c:a3G.all b0G=true:=by kernel_rfl
theorem Wq{W:World}(h:W.ShapedOpen prog):tm W (·<W.heap.size):=⟨λ _ h=>h,λ g hg=>by
 have hk:=List.all_eq_true.1 a6c g hg;unfold b0G at hk;rw[Bool.and_eq_true] at hk;obtain⟨h1,h2⟩:=hk;split at h2
 .rename_i zero t h0;simp only[b4S] at h2;obtain⟨⟨⟨k1,k2⟩,k3⟩,k4⟩:=h2;have k3':prog.cellTypes prog.depth t=some [t]:=by
   split at k3
   .rename_i u hu;rw[hu,eq_of_beq k3]
   .cases k3
  have k4':prog.underlying t=some (.int .i64):=by
   split at k4
   .rename_i hu;exact hu
   .cases k4
  obtain⟨m,hm⟩:=cell_of_shapedOpen_int h (of_decide_eq_true h1) h0 (eq_of_beq k1) k2 k3' k4';refine⟨?_,m,hm⟩;unfold World.cell? at hm;rcases Nat.lt_or_ge g W.heap.size with q|q
  .exact q
  .rw[show W.heap[g]?=none from b6p q] at hm;cases hm
 .cases h2⟩
theorem a8d{n:FuncId}{fn:Func}{s:ChangeSpec}{τs:List Ty}{handsOn again:Bool}(hts:aT (λ T τ=>∃ b e,ah CG T=some (τ,b,e)) fn.params.toList τs)
  (a0B:∀ t∈fn.params.toList,prog.readableRec t=true/\t<prog.types.size) (hr:fn.resultTypes = #[J4]) (WR:s.vars=[])
  (hs:∀ ds:List (DataW H),ds.length=τs.length->s.fn H ds={ results:=[.lit (.bool true)],args:=ds })
  (b3x:∀ Ro:List TV,Ro.map TV.τ=τs->gw prog n (Ro.map .val) (·=[⟨.bool,true⟩]))
  {W:World} {base:Nat} {args:Array Value} {ds gs:List (DataW H)} {before:List MemPlace}
  (a1Z:∀ (j:Nat) t v,fn.params[j]?=some t->args[j]?=some v->Value.okWide prog W .any base t v)
  (hW:DataW.Whole enc prog fn.params.toList s.vars false W args.toList ds gs before) (hk:Rows.uptoSmall H (ds++gs)=true) (Hv:tm W (·<W.heap.size)) :
  Calls prog n args W λ e W'=>∃ v,e = .returned v/\s.post enc prog fn false true handsOn again W args v W':=by
 have hW':=hW;obtain⟨p,q,hA,hV,hpq,hfz,cR⟩:=hW;rw[WR] at hV;obtain⟨rfl,rfl⟩:=trodVars_none hV;have a3K:∀ d∈ds,Rows.uptoBulk d<=1048576:=by
  intro d hd;have h1:=XR hd;simp only[Rows.uptoSmall,b6a,b4N] at hk;omega
 obtain⟨Ro,h1,h2,h3⟩:=a1o fn.params.toList τs hts hA a3K (λ j t v hj IQ => .inr ⟨base,a1Z j t v (by simpa using hj) (by simpa using IQ)⟩);have gC:=b3x Ro h1 W (·<W.heap.size) args.toList Hv h3;rw[show args.toList.toArray=args by simp] at gC;refine gC.mono λ e W'=>?_;rintro⟨x,S',res,rfl,rfl,gh,hS1,hS2,TH⟩;have hx:x = .bool true:=by
  have hx:dV W' S' ⟨.bool,true⟩ x:=TH;have hx:[x]=[Value.bool true]:=hx;simpa using hx
 subst hx;have hb:Below W.heap.size W W':=⟨gh.os,gh.tape,gh.output,gh.size,λ k hk=>gh.block k hk (λ h=>h)⟩;refine⟨_,rfl,a2C (pa:=p) (pv:=[]) hW' ?_ ?_ ?_ hpq hb ?_⟩
 .intro b sp hd;rw[hs _ (by simpa using h2),hr];exact trodAll_mk1 ⟨1,by
   have hu:prog.underlying J4=some .bool:=by kernel_rfl
   simp only[DataW.trod,Value.cells];rw[hu]⟩
 .intro sp hsp;rw[hs _ (by simpa using h2),List.append_nil];have bK:∀ x∈before,x.block<W.heap.size:=λ x hx=>hW'.lt x hx;rw[hpq] at bK hsp;exact Mm hb _ a0B hA (λ x hx=>bK x (by simp[hx])) (λ x hx=>hsp x (by simp[hx]))
 .intro sp hsp;rw[hs _ (by simpa using h2),WR];rfl
 .refine ok_one hr rfl ?_;have hu:prog.underlying J4=some .bool:=by kernel_rfl
  simp[Value.okWide,hu,Cell.okWide,Cell.ok]
end
end Go.Proofs.YtmjfpcajohhbeaaGreatDoor

namespace Go.Proofs.YtmjfpcajohhbeaaGreatDoor
def aG{α:Type}(f:α->Nat):List α->Nat
 | []=>0
 | x::xs=>f x+aG f xs
section
variable {α:Type} (f:α->Nat)
theorem fj(d:α):∀ (xs:List α) (k:Nat),k<xs.length->aG f (xs.take (k+1))=aG f (xs.take k)+f (xs.getD k d)
 | [],k,h=>by simp at h
 | x::xs,0,h=>by simp[aG]
 | x::xs,k+1,h=>by
  have:=fj d xs k (by simpa using h);simp[aG] at this ⊢;omega
theorem bZ:∀ (xs:List α) (k:Nat),aG f (xs.take k)<=aG f xs
 | [],k=>by simp
 | x::xs,0=>by simp[aG]
 | x::xs,k+1=>by
  have:=bZ xs k;simp[aG];omega
theorem gX(xs:List α)(k:Nat):xs.length<=k->aG f (xs.take k)=aG f xs:=λ h=>by rw[b5o h]
theorem iq(xs:List α):aG f (xs.take 0)=0:=by simp[aG]
theorem fi(d:α):∀ (xs:List α) (k:Nat),k<xs.length->f (xs.getD k d)<=aG f xs
 | [],k,h=>by simp at h
 | x::xs,0,h=>by simp[aG]
 | x::xs,k+1,h=>by
  have:=fi d xs k (by simpa using h);simp[aG] at this ⊢;omega
end
def fE(t:Nat)(left:Int):Int:=if (t:Int)<=left then left - t else -1
theorem eo(t:Nat)(left:Int):((t:Int)<=left/\fE t left=left - t)\/(left<(t:Int)/\fE t left = -1):=by
 unfold fE;split
 .exact .inl ⟨by assumption,rfl⟩
 .exact .inr ⟨by omega,rfl⟩
noncomputable def bH{α:Type}(a b:α):Bool := @decide (a=b) (Classical.propDecidable _)
theorem mO{α:Type}{a b:α}(h:a=b):true=bH a b:=by simp[bH,h]
theorem fA{α:Type}{a b:α}(h:a≠b):false=bH a b:=by simp[bH,h]
@[simp] theorem iD{α:Type}{a b:α}:bH a b=true↔a=b:=by simp[bH]
@[simp] theorem a5V{α:Type}{a b:α}:bH a b=false↔a≠b:=by simp[bH]
@[simp] theorem b2C{α:Type}{a:α}:bH a a=true:=by simp[bH]
section
variable {α:Type}
theorem cC(d:α):∀ (xs:List α) (k:Nat),k<xs.length->xs.take (k+1)=xs.take k++[xs.getD k d]
 | [],k,h=>by simp at h
 | x::xs,0,h=>by simp
 | x::xs,k+1,h=>by
  have:=cC d xs k (by simpa using h);simp at this ⊢;exact this
theorem gm(d:α)(xs ys:List α)(k:Nat)(h1:k<xs.length)(h2:k<ys.length)(h:xs.take k=ys.take k)(e:xs.getD k d=ys.getD k d):xs.take (k+1)=ys.take (k+1):=by
 rw[cC d xs k h1,cC d ys k h2,h,e]
theorem dC(xs ys:List α)(k:Nat)(h1:xs.length<=k)(h2:ys.length<=k)(h:xs.take k=ys.take k):xs=ys:=by
 rwa [b5o h1,b5o h2] at h
def fill(xs:List α)(k:Nat)(z:α):List α:=xs.take k++List.replicate (xs.length - k) z
theorem lZ(xs:List α)(z:α):List.replicate xs.length z=fill xs 0 z:=by simp[fill]
theorem fe(xs:List α)(z:α)(k:Nat)(h:xs.length<=k):fill xs k z=xs:=by
 simp[fill,b5o h,Nat.sub_eq_zero_of_le h]
theorem iK(xs:List α)(z:α)(k:Nat):k<=xs.length->(fill xs k z).length=xs.length:=by
 intro h;simp[fill];omega
theorem ff(xs:List α)(z d:α)(k:Nat)(h:k<xs.length):(fill xs k z).set k (xs.getD k d)=fill xs (k+1) z:=by
 unfold fill;rw[cC d xs k h,List.set_append_right _ _ (by simp;omega)];have e:xs.length - k=(xs.length - (k+1))+1:=by omega
 have e2:(List.take k xs).length=k:=by simp;omega
 rw[e2,Nat.sub_self,e,b6Q,b8d];simp
end
def iL{α:Type}(f:α->Nat):List α->Nat
 | []=>0
 | x::xs=>max (f x) (iL f xs)
section
variable {α:Type} (f:α->Nat)
theorem sH(d:α):∀ (xs:List α) (k:Nat),k<xs.length->iL f (xs.take (k+1))=max (iL f (xs.take k)) (f (xs.getD k d))
 | [],k,h=>by simp at h
 | x::xs,0,h=>by simp[iL]
 | x::xs,k+1,h=>by
  have:=sH d xs k (by simpa using h);simp[iL] at this ⊢;omega
theorem jc:∀ (xs:List α) (k:Nat),iL f (xs.take k)<=iL f xs
 | [],k=>by simp
 | x::xs,0=>by simp[iL]
 | x::xs,k+1=>by
  have:=jc xs k;simp[iL];omega
theorem Ea(xs:List α)(k:Nat):xs.length<=k->iL f (xs.take k)=iL f xs:=λ h=>by rw[b5o h]
theorem Xn(xs:List α):iL f (xs.take 0)=0:=by simp[iL]
theorem sG(d:α):∀ (xs:List α) (k:Nat),k<xs.length->f (xs.getD k d)<=iL f xs
 | [],k,h=>by simp at h
 | x::xs,0,h=>by simp[iL];omega
 | x::xs,k+1,h=>by
  have:=sG d xs k (by simpa using h);simp[iL] at this ⊢;omega
end
def bu{α:Type}(f:α->Bool):List α->Bool
 | []=>true
 | x::xs=>f x&&bu f xs
section
variable {α:Type} (f:α->Bool)
theorem OX:∀ (xs ys:List α),bu f (xs++ys)=(bu f xs&&bu f ys)
 | [],ys=>by simp[bu]
 | x::xs,ys=>by simp[bu,OX xs ys,b8b]
theorem dj(d:α)(xs:List α)(k:Nat)(h:k<xs.length):bu f (xs.take (k+1))=(bu f (xs.take k)&&f (xs.getD k d)):=by
 rw[cC d xs k h,OX];simp[bu]
theorem dK(d:α):∀ (xs:List α) (k:Nat),k<xs.length->f (xs.getD k d)=false->bu f xs=false
 | [],k,h,_=>by simp at h
 | x::xs,0,h,e=>by simp at e;simp[bu,e]
 | x::xs,k+1,h,e=>by
  have:=dK d xs k (by simpa using h) (by simpa using e);simp[bu,this]
theorem dW(xs:List α)(k:Nat):xs.length<=k->bu f (xs.take k)=bu f xs:=λ h=>by rw[b5o h]
theorem all_zero(xs:List α):bu f (xs.take 0)=true:=by simp[bu]
theorem Y8(d:α):∀ (xs:List α) (k:Nat),k<xs.length->bu f xs=true->f (xs.getD k d)=true
 | [],k,h,_=>by simp at h
 | x::xs,0,h,e=>by simp[bu] at e;simp[e.1]
 | x::xs,k+1,h,e=>by
  simp only[bu,Bool.and_eq_true] at e;have:=Y8 d xs k (by simpa using h) e.2;simpa using this
end
end Go.Proofs.YtmjfpcajohhbeaaGreatDoor

namespace Go.Proofs.YtmjfpcajohhbeaaGreatDoor
noncomputable section
mutual
def aE:J->Nat
 | ⟨_,_,M⟩=>M.length+xB M
def xB:List J->Nat
 | []=>0
 | k::ks=>aE k+xB ks
end
def FO:∀ xs,xB xs=aG aE xs
 | []=>rfl
 | x::xs=>by rw[xB,aG,FO xs]
def jU(x:J):aE x=(x.M.length+aG aE x.M):=by
 cases x;simp[aE,FO];try omega
def oF(n:Nat):aN:=⟨zF,[.v (.st .expr), .v (.int .i64)],λ (x:J) (left:Int)=>⟨(some (cd x<n/\0<=left/\left<=1048576),[⟨(.int .i64),fE (aE x) left⟩])⟩⟩
def I5:aN:=⟨zF,[.v (.st .expr), .v (.int .i64)],λ (x:J) (left:Int)=>⟨(some (0<=left/\left<=1048576),[⟨(.int .i64),fE (aE x) left⟩])⟩⟩
def mX(n:Nat):aN:=⟨vS,[.v (.slice (.st .expr)), .v (.int .i64)],λ (xs:List J) (left:Int)=>⟨(some (cd xs<n/\0<=left/\left<=1048576),[⟨(.int .i64),fE (xs.length+aG aE xs) left⟩])⟩⟩
def Gq:aN:=⟨vS,[.v (.slice (.st .expr)), .v (.int .i64)],λ (xs:List J) (left:Int)=>⟨(some (0<=left/\left<=1048576),[⟨(.int .i64),fE (xs.length+aG aE xs) left⟩])⟩⟩
def W8(x:J)(left:Int):Nat->aA:=bJ
def U5(n:Nat)(hE:bC [mX n]):aN.Good (oF (n+1)):=by
 refine⟨ar ot,?_⟩;intro (x:J) (left:Int) (hp:cd x<n+1/\0<=left/\left<=1048576);refine aX [mX n] [] [] [2] hE ot Pg (W8 x left) (let v0:=fE (x.M.length+aG aE x.M) left;((x.M.length<=140737488355328->((cd x.M<n/\0<=left/\left<=1048576)/\(O v0->(((decide (v0<(0:Int)))=true->(-1:Int)=(fE (aE x) left))/\((decide (v0<(0:Int)))=false->v0=(fE (aE x) left)))))))) ?_;have f0:=eo (x.M.length+aG aE x.M) (left);have fz:=eo ((x.M.length+aG aE x.M)) left;have f0k:=dk x;refine λ _=>⟨?_,λ _=>⟨λ _=>?_,λ _=>?_⟩⟩;all_goals try and_intros
 all_goals try rw[jU]
 all_goals first|rfl|trivial|omega|(simp only[b4N,b4M,ak,O,bT,cB,bG,bc] at *;omega)|(simp[ak,O] at *;omega)|grind
def UA(xs:List J)(left:Int):Nat->aA:=(cQ 0 (.b (Nat) (λ k=>k<=xs.length/\(xs.length+aG aE (xs.take k):Int)<=left) (λ k=>xs.length - k) [6,7,8,9,10,11] (λ k=>[(5, .aH ⟨(.int .i64),((k:Int):Int)⟩),(1, .aH ⟨(.int .i64),(left - (xs.length+aG aE (xs.take k):Int):Int)⟩)])) bJ)
def SP(n:Nat)(hE:bC [oF n]):aN.Good (mX (n+1)):=by
 refine⟨ar mF,?_⟩;intro (xs:List J) (left:Int) (hp:cd xs<n+1/\0<=left/\left<=1048576);refine aX [oF n] [] [] [] hE mF MD (UA xs left) (let v0:=(xs.length:Int);let v1:=fE (xs.length+aG aE xs) left;let v2:=decide ((left - v0)<(0:Int));((O v0->(O (left - v0)/\((v2=true->(-1:Int)=v1)/\(v2=false->((∃ k1:Nat,let v3:=(xs.length+aG aE (xs.take k1):Int);((k1<=xs.length/\v3<=left)/\((xs=xs/\((left - v0)=(left - v3)/\((0:Int)=(k1:Int)/\True)))/\True)))/\(∀ k1:Nat,let v5:=(xs.length+aG aE (xs.take k1):Int);let v3:=left - v5;let v4:=fE (aE (xs.getD k1 zE)) v3;((k1<=xs.length/\v5<=left)->(O v0->(((decide ((k1:Int)<v0))=true->(ak (k1:Int) xs.length/\((cd (xs.getD k1 zE)<n/\0<=v3/\v3<=1048576)/\(O v4->(((decide (v4<(0:Int)))=true->(-1:Int)=v1)/\((decide (v4<(0:Int)))=false->(O ((k1:Int)+(1:Int))/\(∃ k2:Nat,let v6:=(xs.length+aG aE (xs.take k2):Int);((k2<=xs.length/\v6<=left)/\(xs.length - k2<xs.length - k1/\((xs=xs/\(v4=(left - v6)/\(((k1:Int)+(1:Int))=(k2:Int)/\True)))/\True)))))))))))/\((decide ((k1:Int)<v0))=false->v3=v1)))))))))))) ?_;have f0:=eo (xs.length+aG aE xs) left;have f1:=iq aE xs;refine λ _=>⟨?_,λ _=>?_,λ _=>⟨⟨0,?_,⟨rfl,?_,?_,ae⟩,ae⟩,λ k1 _=>have b0q:=fj aE zE xs k1;have b0r:=bZ aE xs k1;have b0s:=bZ aE xs (k1+1);have b0t:=gX aE xs k1;have b0u:=ca zE xs k1;have b4t:=eo (aE (xs.getD k1 zE)) (left - (xs.length+aG aE (xs.take k1):Int));λ _=>⟨λ _=>⟨?_,?_,λ _=>⟨λ _=>?_,λ _=>⟨?_,k1+1,?_,?_,⟨rfl,?_,?_,ae⟩,ae⟩⟩⟩,λ _=>?_⟩⟩⟩;all_goals try and_intros
 all_goals first|rfl|trivial|omega|(simp only[b4N,b4M,ak,O,bT,cB,bG,bc] at *;omega)|(simp[ak,O] at *;omega)|grind
def EL :∀ n,bC [oF n,mX n]
 | 0=>⟨⟨ar ot,λ _ _ h=>absurd h.1 (b5H _)⟩,⟨ar mF,λ _ _ h=>absurd h.1 (b5H _)⟩,ae⟩
 | n+1=>by
  have ih:=EL  n;exact⟨U5 n ⟨ih.2.1,ae⟩,SP n ⟨ih.1,ae⟩,ae⟩
def PX :aN.Good I5 :=
 ⟨ar ot,λ x left hp=>(EL  (cd x+1)).1.2 x left (⟨b5C _,hp⟩)⟩
def Nf :aN.Good Gq :=
 ⟨ar mF,λ xs left hp=>(EL  (cd xs+1)).2.1.2 xs left (⟨b5C _,hp⟩)⟩
def DR:aN:=⟨El,[.v (.slice (.int .i64)), .v (.int .i64)],λ (xs:List Int) (left:Int)=>⟨(some (0<=left/\left<=1048576),[⟨(.int .i64),fE xs.length left⟩])⟩⟩
def Sp(xs:List Int)(left:Int):Nat->aA:=bJ
def K2:aN.Good DR:=by
 refine⟨ar AM,?_⟩;intro (xs:List Int) (left:Int) (hp:0<=left/\left<=1048576);refine aX [] [] [] [] trivial AM KK (Sp xs left) (let v0:=left - ((xs.length:Int));((O ((xs.length:Int))->(O v0/\(((decide (v0<(0:Int)))=true->(-1:Int)=(fE xs.length left))/\((decide (v0<(0:Int)))=false->v0=(fE xs.length left))))))) ?_;have f0:=eo xs.length left;refine λ _=>⟨?_,λ _=>?_,λ _=>?_⟩;all_goals try and_intros
 all_goals first|rfl|trivial|omega|(simp only[b4N,b4M,ak,O,bT,cB,bG,bc] at *;omega)|(simp[ak,O] at *;omega)|grind
def aZ(x:U):Nat:=(x.path.length)+(x.aw.length+aG aE x.aw)+(x.bd.length+aG aE x.bd)
def gR(x:U):aZ x=(x.path.length)+(x.aw.length+aG aE x.aw)+(x.bd.length+aG aE x.bd):=rfl
def wN:aN:=⟨wW,[.v (.st .proofStep), .v (.int .i64)],λ (x:U) (left:Int)=>⟨(some (0<=left/\left<=1048576),[⟨(.int .i64),fE (aZ x) left⟩])⟩⟩
def Lm(x:U)(left:Int):Nat->aA:=bJ
def Fe:aN.Good wN:=by
 refine⟨ar tw,?_⟩;intro (x:U) (left:Int) (hp:0<=left/\left<=1048576);refine aX [DR,Gq] [] [] [2] ⟨K2,Nf,ae⟩ tw EX (Lm x left) (let v2:=fE x.path.length left;let v0:=fE (x.aw.length+aG aE x.aw) v2;let v1:=fE (x.bd.length+aG aE x.bd) v0;let v3:=fE (aZ x) left;let v4:=(0:Int);((x.path.length<=140737488355328->((0<=left/\left<=1048576)/\(O v2->(((decide (v2<v4))=true->(-1:Int)=v3)/\((decide (v2<v4))=false->(x.aw.length<=140737488355328->((0<=v2/\v2<=1048576)/\(O v0->(((decide (v0<v4))=true->(-1:Int)=v3)/\((decide (v0<v4))=false->(x.bd.length<=140737488355328->((0<=v0/\v0<=1048576)/\(O v1->(((decide (v1<v4))=true->(-1:Int)=v3)/\((decide (v1<v4))=false->v1=v3))))))))))))))))) ?_;have f0:=eo (x.path.length) (left);have f1:=eo (x.aw.length+aG aE x.aw) (fE (x.path.length) left);have f2:=eo (x.bd.length+aG aE x.bd) (fE (x.aw.length+aG aE x.aw) (fE (x.path.length) left));have fz:=eo ((x.path.length)+(x.aw.length+aG aE x.aw)+(x.bd.length+aG aE x.bd)) left;refine λ _=>⟨?_,λ _=>⟨λ _=>?_,λ _ _=>⟨?_,λ _=>⟨λ _=>?_,λ _ _=>⟨?_,λ _=>⟨λ _=>?_,λ _=>?_⟩⟩⟩⟩⟩⟩;all_goals try and_intros
 all_goals try rw[gR]
 all_goals first|rfl|trivial|omega|(simp only[b4N,b4M,ak,O,bT,cB,bG,bc] at *;omega)|(simp[ak,O] at *;omega)|grind
def tX:aN:=⟨uj,[.v (.slice (.st .proofStep)), .v (.int .i64)],λ (xs:List U) (left:Int)=>⟨(some (0<=left/\left<=1048576),[⟨(.int .i64),fE (xs.length+aG aZ xs) left⟩])⟩⟩
def Ja(xs:List U)(left:Int):Nat->aA:=(cQ 0 (.b (Nat) (λ k=>k<=xs.length/\(xs.length+aG aZ (xs.take k):Int)<=left) (λ k=>xs.length - k) [6,7,8,9,10,11] (λ k=>[(5, .aH ⟨(.int .i64),((k:Int):Int)⟩),(1, .aH ⟨(.int .i64),(left - (xs.length+aG aZ (xs.take k):Int):Int)⟩)])) bJ)
def Ds:aN.Good tX:=by
 refine⟨ar ry,?_⟩;intro (xs:List U) (left:Int) (hp:0<=left/\left<=1048576);refine aX [wN] [] [] [] ⟨Fe,ae⟩ ry Dd (Ja xs left) (let v0:=(xs.length:Int);let v1:=U.mk (0:Int) false [] [] [];let v2:=fE (xs.length+aG aZ xs) left;let v3:=decide ((left - v0)<(0:Int));((O v0->(O (left - v0)/\((v3=true->(-1:Int)=v2)/\(v3=false->((∃ k1:Nat,let v4:=(xs.length+aG aZ (xs.take k1):Int);((k1<=xs.length/\v4<=left)/\((xs=xs/\((left - v0)=(left - v4)/\((0:Int)=(k1:Int)/\True)))/\True)))/\(∀ k1:Nat,let v6:=(xs.length+aG aZ (xs.take k1):Int);let v4:=left - v6;let v5:=fE (aZ (xs.getD k1 v1)) v4;((k1<=xs.length/\v6<=left)->(O v0->(((decide ((k1:Int)<v0))=true->(ak (k1:Int) xs.length/\((0<=v4/\v4<=1048576)/\(O v5->(((decide (v5<(0:Int)))=true->(-1:Int)=v2)/\((decide (v5<(0:Int)))=false->(O ((k1:Int)+(1:Int))/\(∃ k2:Nat,let v7:=(xs.length+aG aZ (xs.take k2):Int);((k2<=xs.length/\v7<=left)/\(xs.length - k2<xs.length - k1/\((xs=xs/\(v5=(left - v7)/\(((k1:Int)+(1:Int))=(k2:Int)/\True)))/\True)))))))))))/\((decide ((k1:Int)<v0))=false->v4=v2)))))))))))) ?_;have f0:=eo (xs.length+aG aZ xs) left;have f1:=iq aZ xs;refine λ _=>⟨?_,λ _=>?_,λ _=>⟨⟨0,?_,⟨rfl,?_,?_,ae⟩,ae⟩,λ k1 _=>have b0q:=fj aZ (U.mk (0:Int) false [] [] []) xs k1;have b0r:=bZ aZ xs k1;have b0s:=bZ aZ xs (k1+1);have b0t:=gX aZ xs k1;have b0u:=eo (aZ (xs.getD k1 (U.mk (0:Int) false [] [] []))) (left - (xs.length+aG aZ (xs.take k1):Int));λ _=>⟨λ _=>⟨?_,?_,λ _=>⟨λ _=>?_,λ _=>⟨?_,k1+1,?_,?_,⟨rfl,?_,?_,ae⟩,ae⟩⟩⟩,λ _=>?_⟩⟩⟩;all_goals try and_intros
 all_goals first|rfl|trivial|omega|(simp only[b4N,b4M,ak,O,bT,cB,bG,bc] at *;omega)|(simp[ak,O] at *;omega)|grind
def bB(x:ag):Nat:=(aE x.left)+(aE x.right)+(x.steps.length+aG aZ x.steps)
def iR(x:ag):bB x=(aE x.left)+(aE x.right)+(x.steps.length+aG aZ x.steps):=rfl
def Gp:aN:=⟨GR,[.v (.st .claim), .v (.int .i64)],λ (x:ag) (left:Int)=>⟨(some (0<=left/\left<=1048576),[⟨(.int .i64),fE (bB x) left⟩])⟩⟩
def Uz(x:ag)(left:Int):Nat->aA:=bJ
def Nc:aN.Good Gp:=by
 refine⟨ar CX,?_⟩;intro (x:ag) (left:Int) (hp:0<=left/\left<=1048576);refine aX [I5,tX] [] [] [2] ⟨PX,Ds,ae⟩ CX MC (Uz x left) (let v2:=fE (aE x.left) left;let v0:=fE (aE x.right) v2;let v1:=fE (x.steps.length+aG aZ x.steps) v0;let v3:=fE (bB x) left;let v4:=(0:Int);(((0<=left/\left<=1048576)/\(O v2->(((decide (v2<v4))=true->(-1:Int)=v3)/\((decide (v2<v4))=false->((0<=v2/\v2<=1048576)/\(O v0->(((decide (v0<v4))=true->(-1:Int)=v3)/\((decide (v0<v4))=false->(x.steps.length<=140737488355328->((0<=v0/\v0<=1048576)/\(O v1->(((decide (v1<v4))=true->(-1:Int)=v3)/\((decide (v1<v4))=false->v1=v3))))))))))))))) ?_;have f0:=eo (aE x.left) (left);have f1:=eo (aE x.right) (fE (aE x.left) left);have f2:=eo (x.steps.length+aG aZ x.steps) (fE (aE x.right) (fE (aE x.left) left));have fz:=eo ((aE x.left)+(aE x.right)+(x.steps.length+aG aZ x.steps)) left;refine⟨?_,λ _=>⟨λ _=>?_,λ _=>⟨?_,λ _=>⟨λ _=>?_,λ _ _=>⟨?_,λ _=>⟨λ _=>?_,λ _=>?_⟩⟩⟩⟩⟩⟩;all_goals try and_intros
 all_goals try rw[iR]
 all_goals first|rfl|trivial|omega|(simp only[b4N,b4M,ak,O,bT,cB,bG,bc] at *;omega)|(simp[ak,O] at *;omega)|grind
def DQ:aN:=⟨Ek,[.v (.slice (.st .claim)), .v (.int .i64)],λ (xs:List ag) (left:Int)=>⟨(some (0<=left/\left<=1048576),[⟨(.int .i64),fE (xs.length+aG bB xs) left⟩])⟩⟩
def So(xs:List ag)(left:Int):Nat->aA:=(cQ 0 (.b (Nat) (λ k=>k<=xs.length/\(xs.length+aG bB (xs.take k):Int)<=left) (λ k=>xs.length - k) [6,7,8,9,10,11] (λ k=>[(5, .aH ⟨(.int .i64),((k:Int):Int)⟩),(1, .aH ⟨(.int .i64),(left - (xs.length+aG bB (xs.take k):Int):Int)⟩)])) bJ)
def K1:aN.Good DQ:=by
 refine⟨ar AL,?_⟩;intro (xs:List ag) (left:Int) (hp:0<=left/\left<=1048576);refine aX [Gp] [] [] [] ⟨Nc,ae⟩ AL KJ (So xs left) (let v1:=(xs.length:Int);let v2:=fE (xs.length+aG bB xs) left;let v3:=(0:Int);let v0:=ag.mk zE zE v3 v3 [];((O v1->(O (left - v1)/\(((decide ((left - v1)<v3))=true->(-1:Int)=v2)/\((decide ((left - v1)<v3))=false->((∃ k1:Nat,let v4:=(xs.length+aG bB (xs.take k1):Int);((k1<=xs.length/\v4<=left)/\((xs=xs/\((left - v1)=(left - v4)/\(v3=(k1:Int)/\True)))/\True)))/\(∀ k1:Nat,let v6:=(xs.length+aG bB (xs.take k1):Int);let v4:=left - v6;let v5:=fE (bB (xs.getD k1 v0)) v4;((k1<=xs.length/\v6<=left)->(O v1->(((decide ((k1:Int)<v1))=true->(ak (k1:Int) xs.length/\((0<=v4/\v4<=1048576)/\(O v5->(((decide (v5<v3))=true->(-1:Int)=v2)/\((decide (v5<v3))=false->(O ((k1:Int)+(1:Int))/\(∃ k2:Nat,let v7:=(xs.length+aG bB (xs.take k2):Int);((k2<=xs.length/\v7<=left)/\(xs.length - k2<xs.length - k1/\((xs=xs/\(v5=(left - v7)/\(((k1:Int)+(1:Int))=(k2:Int)/\True)))/\True)))))))))))/\((decide ((k1:Int)<v1))=false->v4=v2)))))))))))) ?_;have f0:=eo (xs.length+aG bB xs) left;have f1:=iq bB xs;refine λ _=>⟨?_,λ _=>?_,λ _=>⟨⟨0,?_,⟨rfl,?_,?_,ae⟩,ae⟩,λ k1 _=>have b0q:=fj bB (ag.mk zE zE (0:Int) (0:Int) []) xs k1;have b0r:=bZ bB xs k1;have b0s:=bZ bB xs (k1+1);have b0t:=gX bB xs k1;have b0u:=eo (bB (xs.getD k1 (ag.mk zE zE (0:Int) (0:Int) []))) (left - (xs.length+aG bB (xs.take k1):Int));λ _=>⟨λ _=>⟨?_,?_,λ _=>⟨λ _=>?_,λ _=>⟨?_,k1+1,?_,?_,⟨rfl,?_,?_,ae⟩,ae⟩⟩⟩,λ _=>?_⟩⟩⟩;all_goals try and_intros
 all_goals first|rfl|trivial|omega|(simp only[b4N,b4M,ak,O,bT,cB,bG,bc] at *;omega)|(simp[ak,O] at *;omega)|grind
def cY(x:ai):Nat:=(x.af.length+aG bB x.af)
def kF(x:ai):cY x=(x.af.length+aG bB x.af):=rfl
def Gr:aN:=⟨GS,[.v (.st .proof), .v (.int .i64)],λ (x:ai) (left:Int)=>⟨(some (0<=left/\left<=1048576),[⟨(.int .i64),fE (cY x) left⟩])⟩⟩
def UB(x:ai)(left:Int):Nat->aA:=bJ
def Ng:aN.Good Gr:=by
 refine⟨ar CY,?_⟩;intro (x:ai) (left:Int) (hp:0<=left/\left<=1048576);refine aX [DQ] [] [] [2] ⟨K1,ae⟩ CY ME (UB x left) (let v0:=fE (x.af.length+aG bB x.af) left;((x.af.length<=140737488355328->((0<=left/\left<=1048576)/\(O v0->(((decide (v0<(0:Int)))=true->(-1:Int)=(fE (cY x) left))/\((decide (v0<(0:Int)))=false->v0=(fE (cY x) left)))))))) ?_;have f0:=eo (x.af.length+aG bB x.af) (left);have fz:=eo ((x.af.length+aG bB x.af)) left;refine λ _=>⟨?_,λ _=>⟨λ _=>?_,λ _=>?_⟩⟩;all_goals try and_intros
 all_goals try rw[kF]
 all_goals first|rfl|trivial|omega|(simp only[b4N,b4M,ak,O,bT,cB,bG,bc] at *;omega)|(simp[ak,O] at *;omega)|grind
def Cm:aN:=⟨Me,[.v (.st .sig)],λ (x:aW)=>⟨(none,[⟨(.st .sig),x⟩])⟩⟩
def YJ(x:aW):Nat->aA:=bJ
def Du:aN.Good Cm:=by
 refine⟨ar HX,?_⟩;intro (x:aW) _;refine aX [] [] [] [1] trivial HX RC (YJ x) ((O x.aw->(O x.bh->x=x))) ?_;refine λ a0=>λ a1=>rfl;all_goals try and_intros
 all_goals first|rfl|trivial|omega|(simp only[b4N,b4M,ak,O,bT,cB,bG,bc] at *;omega)|(simp[ak,O] at *;omega)|grind
def oG(n:Nat):aN:=⟨mq,[.v (.st .expr)],λ (x:J)=>⟨(some (cd x<n/\aE x<=1048576),[⟨(.st .expr),x⟩])⟩⟩
def I6:aN:=⟨mq,[.v (.st .expr)],λ (x:J)=>⟨(some (aE x<=1048576),[⟨(.st .expr),x⟩])⟩⟩
def mY(n:Nat):aN:=⟨kN,[.v (.slice (.st .expr))],λ (xs:List J)=>⟨(some (cd xs<n/\xs.length+aG aE xs<=1048576),[⟨(.slice (.st .expr)),xs⟩])⟩⟩
def Gt:aN:=⟨kN,[.v (.slice (.st .expr))],λ (xs:List J)=>⟨(some (xs.length+aG aE xs<=1048576),[⟨(.slice (.st .expr)),xs⟩])⟩⟩
def W9(x:J):Nat->aA:=bJ
def U6(n:Nat)(hE:bC [mY n]):aN.Good (oG (n+1)):=by
 refine⟨ar fk,?_⟩;intro (x:J) (hp:cd x<n+1/\aE x<=1048576);refine aX [mY n] [] [] [1] hE fk AU (W9 x) ((O x.aq->(O x.aS->(x.M.length<=140737488355328->((cd x.M<n/\x.M.length+aG aE x.M<=1048576)/\(x.M.length<=140737488355328->(aI x)=x)))))) ?_;rw[jU] at hp;have f0k:=dk x;refine λ _ _ _=>⟨?_,λ _=>?_⟩;all_goals try and_intros
 all_goals try (first|with_reducible rfl|with_reducible assumption)
 all_goals try simp only[J.eta,ag.eta,au.eta,aK,br,bL] at *
 all_goals first|rfl|trivial|omega|(simp only[b4N,b4M,ak,O,bT,cB,bG,bc] at *;omega)|(simp[ak,O] at *;omega)|grind
def UD(xs:List J):Nat->aA:=(cQ 0 (.a (Nat) (λ k=>k<=xs.length) (λ k=>xs.length - k) [2,5,6,7] (λ k=>[(4, .aH ⟨(.int .i64),((k:Int):Int)⟩),(3, .row 7)]) [] (λ k=>[(7, .row a0b (.st .expr) (fill xs k zE:List J))])) bJ)
def SQ(n:Nat)(hE:bC [oG n]):aN.Good (mY (n+1)):=by
 refine⟨ar eL,?_⟩;intro (xs:List J) (hp:cd xs<n+1/\xs.length+aG aE xs<=1048576);refine aX [oG n] [] [] [] hE eL xV (UD xs) (let v0:=(xs.length:Int);((O v0->(bG v0 v0 40/\((∃ k1:Nat,(k1<=xs.length/\((xs=xs/\(True/\((0:Int)=(k1:Int)/\True)))/\((List.replicate (Int.toNat v0) zE)=(fill xs k1 zE)/\True))))/\(∀ k1:Nat,let v1:=(k1:Int);(k1<=xs.length->(O v0->(((decide (v1<v0))=true->(ak v1 xs.length/\((cd (xs.getD k1 zE)<n/\aE (xs.getD k1 zE)<=1048576)/\(ak v1 (fill xs k1 zE).length/\(O (v1+(1:Int))/\(∃ k2:Nat,(k2<=xs.length/\(xs.length - k2<xs.length - k1/\((xs=xs/\(True/\((v1+(1:Int))=(k2:Int)/\True)))/\(((fill xs k1 zE).set k1 (xs.getD k1 zE))=(fill xs k2 zE)/\True))))))))))/\((decide (v1<v0))=false->(fill xs k1 zE)=xs)))))))))) ?_;refine λ _=>⟨?_,⟨0,?_,⟨rfl,ae,?_,ae⟩,?_,ae⟩,λ k1 _=>have H3:=fe xs zE k1;have H4:=iK xs zE k1;have H5:=ff xs zE zE k1;have VV:=fi aE zE xs k1;have b2E:=ca zE xs k1;λ _=>⟨λ _=>⟨?_,?_,?_,?_,k1+1,?_,?_,⟨rfl,ae,?_,ae⟩,?_,ae⟩,λ _=>?_⟩⟩;all_goals try and_intros
 all_goals first|rfl|trivial|omega|(simp only[b4N,b4M,ak,O,bT,cB,bG,bc] at *;omega)|(simp[ak,O] at *;omega)|grind|exact lZ xs _|(simp only[b4N,b4M] at *;first|exact ff _ _ _ _ (by omega)|exact fe _ _ _ (by omega)|(simp only[bG];omega))
def EM :∀ n,bC [oG n,mY n]
 | 0=>⟨⟨ar fk,λ _ h=>absurd h.1 (b5H _)⟩,⟨ar eL,λ _ h=>absurd h.1 (b5H _)⟩,ae⟩
 | n+1=>by
  have ih:=EM  n;exact⟨U6 n ⟨ih.2.1,ae⟩,SQ n ⟨ih.1,ae⟩,ae⟩
def PY :aN.Good I6 :=
 ⟨ar fk,λ x hp=>(EM  (cd x+1)).1.2 x (⟨b5C _,hp⟩)⟩
def Ni :aN.Good Gt :=
 ⟨ar eL,λ xs hp=>(EM  (cd xs+1)).2.1.2 xs (⟨b5C _,hp⟩)⟩
def DT:aN:=⟨sL,[.v (.slice (.int .i64))],λ (xs:List Int)=>⟨(some (xs.length<=1048576),[⟨(.slice (.int .i64)),xs⟩])⟩⟩
def Sr(xs:List Int):Nat->aA:=(cQ 0 (.a (Nat) (λ k=>k<=xs.length) (λ k=>xs.length - k) [2,5,6,7] (λ k=>[(4, .aH ⟨(.int .i64),((k:Int):Int)⟩),(3, .row 7)]) [] (λ k=>[(7, .row OT (.int .i64) (fill xs k (0:Int):List Int))])) bJ)
def K4:aN.Good DT:=by
 refine⟨ar lB,?_⟩;intro (xs:List Int) (hp:xs.length<=1048576);refine aX [] [] [] [] trivial lB wx (Sr xs) (let v0:=(xs.length:Int);let v1:=(0:Int);((O v0->(bG v0 v0 8/\((∃ k1:Nat,(k1<=xs.length/\((xs=xs/\(True/\(v1=(k1:Int)/\True)))/\((List.replicate (Int.toNat v0) v1)=(fill xs k1 v1)/\True))))/\(∀ k1:Nat,let v2:=(k1:Int);(k1<=xs.length->(O v0->(((decide (v2<v0))=true->(ak v2 xs.length/\(O (xs.getD k1 v1)->(ak v2 (fill xs k1 v1).length/\(O (v2+(1:Int))/\(∃ k2:Nat,(k2<=xs.length/\(xs.length - k2<xs.length - k1/\((xs=xs/\(True/\((v2+(1:Int))=(k2:Int)/\True)))/\(((fill xs k1 v1).set k1 (xs.getD k1 v1))=(fill xs k2 v1)/\True))))))))))/\((decide (v2<v0))=false->(fill xs k1 v1)=xs)))))))))) ?_;refine λ _=>⟨?_,⟨0,?_,⟨rfl,ae,?_,ae⟩,?_,ae⟩,λ k1 _=>have H3:=fe xs (0:Int) k1;have H4:=iK xs (0:Int) k1;have H5:=ff xs (0:Int) (0:Int) k1;λ _=>⟨λ _=>⟨?_,λ _=>⟨?_,?_,k1+1,?_,?_,⟨rfl,ae,?_,ae⟩,?_,ae⟩⟩,λ _=>?_⟩⟩;all_goals try and_intros
 all_goals first|rfl|trivial|omega|(simp only[b4N,b4M,ak,O,bT,cB,bG,bc] at *;omega)|(simp[ak,O] at *;omega)|grind|exact lZ xs _|(simp only[b4N,b4M] at *;first|exact ff _ _ _ _ (by omega)|exact fe _ _ _ (by omega)|(simp only[bG];omega))
def wO:aN:=⟨nZ,[.v (.st .proofStep)],λ (x:U)=>⟨(some (aZ x<=1048576),[⟨(.st .proofStep),x⟩])⟩⟩
def Ln(x:U):Nat->aA:=bJ
def Ff:aN.Good wO:=by
 refine⟨ar iB,?_⟩;intro (x:U) (hp:aZ x<=1048576);refine aX [DT,Gt] [] [] [1] ⟨K4,Ni,ae⟩ iB p8 (Ln x) ((O x.use->(x.path.length<=140737488355328->(x.path.length<=1048576/\(x.path.length<=140737488355328->(x.aw.length<=140737488355328->(x.aw.length+aG aE x.aw<=1048576/\(x.aw.length<=140737488355328->(x.bd.length<=140737488355328->(x.bd.length+aG aE x.bd<=1048576/\(x.bd.length<=140737488355328->x=x))))))))))) ?_;rw[gR] at hp;refine λ _ _=>⟨?_,λ _ _=>⟨?_,λ _ _=>⟨?_,λ _=>rfl⟩⟩⟩;all_goals try and_intros
 all_goals first|rfl|trivial|omega|(simp only[b4N,b4M,ak,O,bT,cB,bG,bc] at *;omega)|(simp[ak,O] at *;omega)|grind
def tY:aN:=⟨mr,[.v (.slice (.st .proofStep))],λ (xs:List U)=>⟨(some (xs.length+aG aZ xs<=1048576),[⟨(.slice (.st .proofStep)),xs⟩])⟩⟩
def Jb(xs:List U):Nat->aA:=(cQ 0 (.a (Nat) (λ k=>k<=xs.length) (λ k=>xs.length - k) [2,5,6,7] (λ k=>[(4, .aH ⟨(.int .i64),((k:Int):Int)⟩),(3, .row 7)]) [] (λ k=>[(7, .row OS (.st .proofStep) (fill xs k (U.mk (0:Int) false [] [] []):List U))])) bJ)
def Dt:aN.Good tY:=by
 refine⟨ar gY,?_⟩;intro (xs:List U) (hp:xs.length+aG aZ xs<=1048576);refine aX [wO] [] [] [] ⟨Ff,ae⟩ gY pt (Jb xs) (let v0:=U.mk (0:Int) false [] [] [];let v1:=(xs.length:Int);((O v1->(bG v1 v1 88/\((∃ k1:Nat,(k1<=xs.length/\((xs=xs/\(True/\((0:Int)=(k1:Int)/\True)))/\((List.replicate (Int.toNat v1) v0)=(fill xs k1 v0)/\True))))/\(∀ k1:Nat,let v2:=(k1:Int);(k1<=xs.length->(O v1->(((decide (v2<v1))=true->(ak v2 xs.length/\(aZ (xs.getD k1 v0)<=1048576/\(ak v2 (fill xs k1 v0).length/\(O (v2+(1:Int))/\(∃ k2:Nat,(k2<=xs.length/\(xs.length - k2<xs.length - k1/\((xs=xs/\(True/\((v2+(1:Int))=(k2:Int)/\True)))/\(((fill xs k1 v0).set k1 (xs.getD k1 v0))=(fill xs k2 v0)/\True))))))))))/\((decide (v2<v1))=false->(fill xs k1 v0)=xs)))))))))) ?_;refine λ _=>⟨?_,⟨0,?_,⟨rfl,ae,?_,ae⟩,?_,ae⟩,λ k1 _=>have H3:=fe xs (U.mk (0:Int) false [] [] []) k1;have H4:=iK xs (U.mk (0:Int) false [] [] []) k1;have H5:=ff xs (U.mk (0:Int) false [] [] []) (U.mk (0:Int) false [] [] []) k1;have VV:=fi aZ (U.mk (0:Int) false [] [] []) xs k1;λ _=>⟨λ _=>⟨?_,?_,?_,?_,k1+1,?_,?_,⟨rfl,ae,?_,ae⟩,?_,ae⟩,λ _=>?_⟩⟩;all_goals try and_intros
 all_goals first|rfl|trivial|omega|(simp only[b4N,b4M,ak,O,bT,cB,bG,bc] at *;omega)|(simp[ak,O] at *;omega)|grind|exact lZ xs _|(simp only[b4N,b4M] at *;first|exact ff _ _ _ _ (by omega)|exact fe _ _ _ (by omega)|(simp only[bG];omega))
def Gs:aN:=⟨vT,[.v (.st .claim)],λ (x:ag)=>⟨(some (bB x<=1048576),[⟨(.st .claim),x⟩])⟩⟩
def UC(x:ag):Nat->aA:=bJ
def Nh:aN.Good Gs:=by
 refine⟨ar mG,?_⟩;intro (x:ag) (hp:bB x<=1048576);refine aX [I6,tY] [] [] [1] ⟨PY,Dt,ae⟩ mG xU (UC x) ((aE x.left<=1048576/\(aE x.right<=1048576/\(O x.aM->(O x.ref->(x.steps.length<=140737488355328->(x.steps.length+aG aZ x.steps<=1048576/\(x.steps.length<=140737488355328->(qb x)=x)))))))) ?_;rw[iR] at hp;refine⟨?_,?_,λ _ _ _=>⟨?_,λ _=>?_⟩⟩;all_goals try and_intros
 all_goals try (first|with_reducible rfl|with_reducible assumption)
 all_goals try simp only[J.eta,ag.eta,au.eta,aK,br,bL] at *
 all_goals first|rfl|trivial|omega|(simp only[b4N,b4M,ak,O,bT,cB,bG,bc] at *;omega)|(simp[ak,O] at *;omega)|grind
def DS:aN:=⟨sK,[.v (.slice (.st .claim))],λ (xs:List ag)=>⟨(some (xs.length+aG bB xs<=1048576),[⟨(.slice (.st .claim)),xs⟩])⟩⟩
def Sq(xs:List ag):Nat->aA:=(cQ 0 (.a (Nat) (λ k=>k<=xs.length) (λ k=>xs.length - k) [2,5,6,7] (λ k=>[(4, .aH ⟨(.int .i64),((k:Int):Int)⟩),(3, .row 7)]) [] (λ k=>[(7, .row Yo (.st .claim) (fill xs k (ag.mk zE zE (0:Int) (0:Int) []):List ag))])) bJ)
def K3:aN.Good DS:=by
 refine⟨ar lA,?_⟩;intro (xs:List ag) (hp:xs.length+aG bB xs<=1048576);refine aX [Gs] [] [] [] ⟨Nh,ae⟩ lA wv (Sq xs) (let v0:=ag.mk zE zE (0:Int) (0:Int) [];let v1:=(xs.length:Int);((O v1->(bG v1 v1 120/\((∃ k1:Nat,(k1<=xs.length/\((xs=xs/\(True/\((0:Int)=(k1:Int)/\True)))/\((List.replicate (Int.toNat v1) v0)=(fill xs k1 v0)/\True))))/\(∀ k1:Nat,let v2:=(k1:Int);(k1<=xs.length->(O v1->(((decide (v2<v1))=true->(ak v2 xs.length/\(bB (xs.getD k1 v0)<=1048576/\(ak v2 (fill xs k1 v0).length/\(O (v2+(1:Int))/\(∃ k2:Nat,(k2<=xs.length/\(xs.length - k2<xs.length - k1/\((xs=xs/\(True/\((v2+(1:Int))=(k2:Int)/\True)))/\(((fill xs k1 v0).set k1 (xs.getD k1 v0))=(fill xs k2 v0)/\True))))))))))/\((decide (v2<v1))=false->(fill xs k1 v0)=xs)))))))))) ?_;refine λ _=>⟨?_,⟨0,?_,⟨rfl,ae,?_,ae⟩,?_,ae⟩,λ k1 _=>have H3:=fe xs (ag.mk zE zE (0:Int) (0:Int) []) k1;have H4:=iK xs (ag.mk zE zE (0:Int) (0:Int) []) k1;have H5:=ff xs (ag.mk zE zE (0:Int) (0:Int) []) (ag.mk zE zE (0:Int) (0:Int) []) k1;have VV:=fi bB (ag.mk zE zE (0:Int) (0:Int) []) xs k1;λ _=>⟨λ _=>⟨?_,?_,?_,?_,k1+1,?_,?_,⟨rfl,ae,?_,ae⟩,?_,ae⟩,λ _=>?_⟩⟩;all_goals try and_intros
 all_goals first|rfl|trivial|omega|(simp only[b4N,b4M,ak,O,bT,cB,bG,bc] at *;omega)|(simp[ak,O] at *;omega)|grind|exact lZ xs _|(simp only[b4N,b4M] at *;first|exact ff _ _ _ _ (by omega)|exact fe _ _ _ (by omega)|(simp only[bG];omega))
def Gu:aN:=⟨vU,[.v (.st .proof)],λ (x:ai)=>⟨(some (cY x<=1048576),[⟨(.st .proof),x⟩])⟩⟩
def UE(x:ai):Nat->aA:=bJ
def Nj:aN.Good Gu:=by
 refine⟨ar mH,?_⟩;intro (x:ai) (hp:cY x<=1048576);refine aX [Cm,DS] [] [] [1] ⟨Du,K3,ae⟩ mH xW (UE x) ((x.af.length<=140737488355328->(x.af.length+aG bB x.af<=1048576/\(x.af.length<=140737488355328->x=x)))) ?_;rw[kF] at hp;refine λ _=>⟨?_,λ _=>rfl⟩;all_goals try and_intros
 all_goals first|rfl|trivial|omega|(simp only[b4N,b4M,ak,O,bT,cB,bG,bc] at *;omega)|(simp[ak,O] at *;omega)|grind
def L4:aN:=⟨Md,[.v (.st .sig), .v (.st .sig)],λ (x:aW) (y:aW)=>⟨(none,[⟨.bool,bH x y⟩])⟩⟩
def YI(x:aW)(y:aW):Nat->aA:=bJ
def RX:aN.Good L4:=by
 refine⟨ar HW,?_⟩;intro (x:aW) (y:aW) _;refine aX [] [] [] [2,3] trivial HW RA (YI x y) (let v0 := !(decide (x.bh=y.bh));let v1 := !(decide (x.aw=y.aw));((O x.aw->(O y.aw->((v1=true->false=(bH x y))/\(v1=false->(O x.bh->(O y.bh->((v0=true->false=(bH x y))/\(v0=false->true=(bH x y))))))))))) ?_;refine λ _ _=>⟨λ _=>?_,λ _ _ _=>⟨λ _=>?_,λ _=>?_⟩⟩;all_goals try and_intros
 all_goals first|rfl|trivial|(simp only[b4N,b4M,ak,O] at *;omega)|(refine fA λ mT=>?_;subst mT;simp_all)|(refine mO ?_;cases x;cases y;simp_all)
def oE(n:Nat):aN:=⟨zy,[.v (.st .expr), .v (.st .expr)],λ (x:J) (y:J)=>⟨(some (cd x<n),[⟨.bool,bH x y⟩])⟩⟩
def I4:aN:=⟨zy,[.v (.st .expr), .v (.st .expr)],λ (x:J) (y:J)=>⟨(none,[⟨.bool,bH x y⟩])⟩⟩
def mW(n:Nat):aN:=⟨vR,[.v (.slice (.st .expr)), .v (.slice (.st .expr))],λ (xs:List J) (ys:List J)=>⟨(some (cd xs<n),[⟨.bool,bH xs ys⟩])⟩⟩
def Gm:aN:=⟨vR,[.v (.slice (.st .expr)), .v (.slice (.st .expr))],λ (xs:List J) (ys:List J)=>⟨(none,[⟨.bool,bH xs ys⟩])⟩⟩
def W7(x:J)(y:J):Nat->aA:=bJ
def U4(n:Nat)(hE:bC [mW n]):aN.Good (oE (n+1)):=by
 refine⟨ar oq,?_⟩;intro (x:J) (y:J) (hp:cd x<n+1);refine aX [mW n] [] [] [2,3] hE oq Pf (W7 x y) ((O x.aq->(O y.aq->(((!(decide (x.aq=y.aq)))=true->false=(bH x y))/\((!(decide (x.aq=y.aq)))=false->(O x.aS->(O y.aS->(((!(decide (x.aS=y.aS)))=true->false=(bH x y))/\((!(decide (x.aS=y.aS)))=false->(x.M.length<=140737488355328->(y.M.length<=140737488355328->(cd x.M<n/\(((!(bH x.M y.M))=true->false=(bH x y))/\((!(bH x.M y.M))=false->true=(bH x y))))))))))))))) ?_;have f0k:=dk x;refine λ _ _=>⟨λ _=>?_,λ _ _ _=>⟨λ _=>?_,λ _ _ _=>⟨?_,λ _=>?_,λ _=>?_⟩⟩⟩;all_goals try and_intros
 all_goals first|rfl|trivial|(simp only[b4N,b4M,ak,O] at *;omega)|(refine fA λ mT=>?_;subst mT;simp_all)|(refine mO ?_;cases x;cases y;simp_all)
def Ux(xs:List J)(ys:List J):Nat->aA:=(cQ 0 (.b (Nat) (λ k=>k<=xs.length/\xs.length=ys.length/\xs.take k=ys.take k) (λ k=>xs.length - k) [6,7,8,9,10] (λ k=>[(5, .aH ⟨(.int .i64),((k:Int):Int)⟩)])) bJ)
def SO(n:Nat)(hE:bC [oE n]):aN.Good (mW (n+1)):=by
 refine⟨ar mD,?_⟩;intro (xs:List J) (ys:List J) (hp:cd xs<n+1);refine aX [oE n] [] [] [] hE mD MA (Ux xs ys) (let v0:=(xs.length:Int);let v1 := !(decide (v0=((ys.length:Int))));((O v0->(O ((ys.length:Int))->((v1=true->false=(bH xs ys))/\(v1=false->((∃ k1:Nat,((k1<=xs.length/\xs.length=ys.length/\xs.take k1=ys.take k1)/\((xs=xs/\(ys=ys/\((0:Int)=(k1:Int)/\True)))/\True)))/\(∀ k1:Nat,let v2 := !(bH (xs.getD k1 zE) (ys.getD k1 zE));let v3:=(k1:Int);((k1<=xs.length/\xs.length=ys.length/\xs.take k1=ys.take k1)->(O v0->(((decide (v3<v0))=true->(ak v3 xs.length/\(ak v3 ys.length/\(cd (xs.getD k1 zE)<n/\((v2=true->false=(bH xs ys))/\(v2=false->(O (v3+(1:Int))/\(∃ k2:Nat,((k2<=xs.length/\xs.length=ys.length/\xs.take k2=ys.take k2)/\(xs.length - k2<xs.length - k1/\((xs=xs/\(ys=ys/\((v3+(1:Int))=(k2:Int)/\True)))/\True)))))))))))/\((decide (v3<v0))=false->true=(bH xs ys))))))))))))) ?_;refine λ _ _=>⟨λ _=>?_,λ _=>⟨⟨0,?_,⟨rfl,rfl,?_,ae⟩,ae⟩,λ k1 _=>have a4Q:=gm zE xs ys k1;have a4R:=dC xs ys k1;have b2F:=ca zE xs k1;λ _=>⟨λ _=>⟨?_,?_,?_,λ _=>?_,λ _=>⟨?_,k1+1,?_,?_,⟨rfl,rfl,?_,ae⟩,ae⟩⟩,λ _=>?_⟩⟩⟩;all_goals try and_intros
 all_goals first|rfl|trivial|(simp only[b4N,b4M,b5k,b8J,b5a,ak,O] at *;first|omega|(refine fA λ mT=>?_;subst mT;simp_all;done)|(refine mO (dC _ _ _ (by omega) (by omega) (by simp_all))))|(refine fA λ mT=>?_;subst mT;simp_all;done)|(simp_all;done)|(refine gm zE _ _ _ (by simp_all;omega) (by simp_all;omega) (by simp_all) ?_;simp_all;done)
def EK :∀ n,bC [oE n,mW n]
 | 0=>⟨⟨ar oq,λ _ _ h=>absurd h (b5H _)⟩,⟨ar mD,λ _ _ h=>absurd h (b5H _)⟩,ae⟩
 | n+1=>by
  have ih:=EK  n;exact⟨U4 n ⟨ih.2.1,ae⟩,SO n ⟨ih.1,ae⟩,ae⟩
def PW :aN.Good I4 :=
 ⟨ar oq,λ x y hp=>(EK  (cd x+1)).1.2 x y (b5C _)⟩
def Na :aN.Good Gm :=
 ⟨ar mD,λ xs ys hp=>(EK  (cd xs+1)).2.1.2 xs ys (b5C _)⟩
def DP:aN:=⟨Ej,[.v (.slice (.int .i64)), .v (.slice (.int .i64))],λ (xs:List Int) (ys:List Int)=>⟨(none,[⟨.bool,bH xs ys⟩])⟩⟩
def Sn(xs:List Int)(ys:List Int):Nat->aA:=(cQ 0 (.b (Nat) (λ k=>k<=xs.length/\xs.length=ys.length/\xs.take k=ys.take k) (λ k=>xs.length - k) [6,7,8,9,10] (λ k=>[(5, .aH ⟨(.int .i64),((k:Int):Int)⟩)])) bJ)
def K0:aN.Good DP:=by
 refine⟨ar AK,?_⟩;intro (xs:List Int) (ys:List Int) _;refine aX [] [] [] [] trivial AK KI (Sn xs ys) (let v0:=(xs.length:Int);let v1 := !(decide (v0=((ys.length:Int))));let v2:=(0:Int);((O v0->(O ((ys.length:Int))->((v1=true->false=(bH xs ys))/\(v1=false->((∃ k1:Nat,((k1<=xs.length/\xs.length=ys.length/\xs.take k1=ys.take k1)/\((xs=xs/\(ys=ys/\(v2=(k1:Int)/\True)))/\True)))/\(∀ k1:Nat,let v3 := !(decide ((xs.getD k1 v2)=(ys.getD k1 v2)));let v4:=(k1:Int);((k1<=xs.length/\xs.length=ys.length/\xs.take k1=ys.take k1)->(O v0->(((decide (v4<v0))=true->(ak v4 xs.length/\(ak v4 ys.length/\(O (xs.getD k1 v2)->(O (ys.getD k1 v2)->((v3=true->false=(bH xs ys))/\(v3=false->(O (v4+(1:Int))/\(∃ k2:Nat,((k2<=xs.length/\xs.length=ys.length/\xs.take k2=ys.take k2)/\(xs.length - k2<xs.length - k1/\((xs=xs/\(ys=ys/\((v4+(1:Int))=(k2:Int)/\True)))/\True))))))))))))/\((decide (v4<v0))=false->true=(bH xs ys))))))))))))) ?_;refine λ _ _=>⟨λ _=>?_,λ _=>⟨⟨0,?_,⟨rfl,rfl,?_,ae⟩,ae⟩,λ k1 _=>have a4Q:=gm (0:Int) xs ys k1;have a4R:=dC xs ys k1;λ _=>⟨λ _=>⟨?_,?_,λ _ _=>⟨λ _=>?_,λ _=>⟨?_,k1+1,?_,?_,⟨rfl,rfl,?_,ae⟩,ae⟩⟩⟩,λ _=>?_⟩⟩⟩;all_goals try and_intros
 all_goals first|rfl|trivial|(simp only[b4N,b4M,b5k,b8J,b5a,ak,O] at *;first|omega|(refine fA λ mT=>?_;subst mT;simp_all;done)|(refine mO (dC _ _ _ (by omega) (by omega) (by simp_all))))|(refine fA λ mT=>?_;subst mT;simp_all;done)|(simp_all;done)|(refine gm (0:Int) _ _ _ (by simp_all;omega) (by simp_all;omega) (by simp_all) ?_;simp_all;done)
def wM:aN:=⟨wV,[.v (.st .proofStep), .v (.st .proofStep)],λ (x:U) (y:U)=>⟨(none,[⟨.bool,bH x y⟩])⟩⟩
def Ll(x:U)(y:U):Nat->aA:=bJ
def Fc:aN.Good wM:=by
 refine⟨ar tv,?_⟩;intro (x:U) (y:U) _;refine aX [DP,Gm] [] [] [2,3] ⟨K0,Na,ae⟩ tv EW (Ll x y) (let v0:=bH x y;((O x.use->(O y.use->(((!(decide (x.use=y.use)))=true->false=v0)/\((!(decide (x.use=y.use)))=false->(((!(x.back == y.back))=true->false=v0)/\((!(x.back == y.back))=false->(x.path.length<=140737488355328->(y.path.length<=140737488355328->(((!(bH x.path y.path))=true->false=v0)/\((!(bH x.path y.path))=false->(x.aw.length<=140737488355328->(y.aw.length<=140737488355328->(((!(bH x.aw y.aw))=true->false=v0)/\((!(bH x.aw y.aw))=false->(x.bd.length<=140737488355328->(y.bd.length<=140737488355328->(((!(bH x.bd y.bd))=true->false=v0)/\((!(bH x.bd y.bd))=false->true=v0)))))))))))))))))))) ?_;refine λ _ _=>⟨λ _=>?_,λ _=>⟨λ _=>?_,λ _ _ _=>⟨λ _=>?_,λ _ _ _=>⟨λ _=>?_,λ _ _ _=>⟨λ _=>?_,λ _=>?_⟩⟩⟩⟩⟩;all_goals try and_intros
 all_goals first|rfl|trivial|(simp only[b4N,b4M,ak,O] at *;omega)|(refine fA λ mT=>?_;subst mT;simp_all)|(refine mO ?_;cases x;cases y;simp_all)
def tW:aN:=⟨ui,[.v (.slice (.st .proofStep)), .v (.slice (.st .proofStep))],λ (xs:List U) (ys:List U)=>⟨(none,[⟨.bool,bH xs ys⟩])⟩⟩
def I9(xs:List U)(ys:List U):Nat->aA:=(cQ 0 (.b (Nat) (λ k=>k<=xs.length/\xs.length=ys.length/\xs.take k=ys.take k) (λ k=>xs.length - k) [6,7,8,9,10] (λ k=>[(5, .aH ⟨(.int .i64),((k:Int):Int)⟩)])) bJ)
def Dr:aN.Good tW:=by
 refine⟨ar ru,?_⟩;intro (xs:List U) (ys:List U) _;refine aX [wM] [] [] [] ⟨Fc,ae⟩ ru Dc (I9 xs ys) (let v0:=U.mk (0:Int) false [] [] [];let v1:=(xs.length:Int);let v2 := !(decide (v1=((ys.length:Int))));((O v1->(O ((ys.length:Int))->((v2=true->false=(bH xs ys))/\(v2=false->((∃ k1:Nat,((k1<=xs.length/\xs.length=ys.length/\xs.take k1=ys.take k1)/\((xs=xs/\(ys=ys/\((0:Int)=(k1:Int)/\True)))/\True)))/\(∀ k1:Nat,let v3 := !(bH (xs.getD k1 v0) (ys.getD k1 v0));let v4:=(k1:Int);((k1<=xs.length/\xs.length=ys.length/\xs.take k1=ys.take k1)->(O v1->(((decide (v4<v1))=true->(ak v4 xs.length/\(ak v4 ys.length/\((v3=true->false=(bH xs ys))/\(v3=false->(O (v4+(1:Int))/\(∃ k2:Nat,((k2<=xs.length/\xs.length=ys.length/\xs.take k2=ys.take k2)/\(xs.length - k2<xs.length - k1/\((xs=xs/\(ys=ys/\((v4+(1:Int))=(k2:Int)/\True)))/\True))))))))))/\((decide (v4<v1))=false->true=(bH xs ys))))))))))))) ?_;refine λ _ _=>⟨λ _=>?_,λ _=>⟨⟨0,?_,⟨rfl,rfl,?_,ae⟩,ae⟩,λ k1 _=>have a4Q:=gm (U.mk (0:Int) false [] [] []) xs ys k1;have a4R:=dC xs ys k1;λ _=>⟨λ _=>⟨?_,?_,λ _=>?_,λ _=>⟨?_,k1+1,?_,?_,⟨rfl,rfl,?_,ae⟩,ae⟩⟩,λ _=>?_⟩⟩⟩;all_goals try and_intros
 all_goals first|rfl|trivial|(simp only[b4N,b4M,b5k,b8J,b5a,ak,O] at *;first|omega|(refine fA λ mT=>?_;subst mT;simp_all;done)|(refine mO (dC _ _ _ (by omega) (by omega) (by simp_all))))|(refine fA λ mT=>?_;subst mT;simp_all;done)|(simp_all;done)|(refine gm (U.mk (0:Int) false [] [] []) _ _ _ (by simp_all;omega) (by simp_all;omega) (by simp_all) ?_;simp_all;done)
def Gl:aN:=⟨GP,[.v (.st .claim), .v (.st .claim)],λ (x:ag) (y:ag)=>⟨(none,[⟨.bool,bH x y⟩])⟩⟩
def Uw(x:ag)(y:ag):Nat->aA:=bJ
def M9:aN.Good Gl:=by
 refine⟨ar CV,?_⟩;intro (x:ag) (y:ag) _;refine aX [I4,tW] [] [] [2,3] ⟨PW,Dr,ae⟩ CV Mz (Uw x y) (let v0:=bH x y;((((!(bH x.left y.left))=true->false=v0)/\((!(bH x.left y.left))=false->(((!(bH x.right y.right))=true->false=v0)/\((!(bH x.right y.right))=false->(O x.aM->(O y.aM->(((!(decide (x.aM=y.aM)))=true->false=v0)/\((!(decide (x.aM=y.aM)))=false->(O x.ref->(O y.ref->(((!(decide (x.ref=y.ref)))=true->false=v0)/\((!(decide (x.ref=y.ref)))=false->(x.steps.length<=140737488355328->(y.steps.length<=140737488355328->(((!(bH x.steps y.steps))=true->false=v0)/\((!(bH x.steps y.steps))=false->true=v0)))))))))))))))))) ?_;refine⟨λ _=>?_,λ _=>⟨λ _=>?_,λ _ _ _=>⟨λ _=>?_,λ _ _ _=>⟨λ _=>?_,λ _ _ _=>⟨λ _=>?_,λ _=>?_⟩⟩⟩⟩⟩;all_goals try and_intros
 all_goals first|rfl|trivial|(simp only[b4N,b4M,ak,O] at *;omega)|(refine fA λ mT=>?_;subst mT;simp_all)|(refine mO ?_;cases x;cases y;simp_all)
def DO:aN:=⟨Ei,[.v (.slice (.st .claim)), .v (.slice (.st .claim))],λ (xs:List ag) (ys:List ag)=>⟨(none,[⟨.bool,bH xs ys⟩])⟩⟩
def Sm(xs:List ag)(ys:List ag):Nat->aA:=(cQ 0 (.b (Nat) (λ k=>k<=xs.length/\xs.length=ys.length/\xs.take k=ys.take k) (λ k=>xs.length - k) [6,7,8,9,10] (λ k=>[(5, .aH ⟨(.int .i64),((k:Int):Int)⟩)])) bJ)
def KZ:aN.Good DO:=by
 refine⟨ar AJ,?_⟩;intro (xs:List ag) (ys:List ag) _;refine aX [Gl] [] [] [] ⟨M9,ae⟩ AJ KH (Sm xs ys) (let v0:=ag.mk zE zE (0:Int) (0:Int) [];let v1:=(xs.length:Int);let v2 := !(decide (v1=((ys.length:Int))));((O v1->(O ((ys.length:Int))->((v2=true->false=(bH xs ys))/\(v2=false->((∃ k1:Nat,((k1<=xs.length/\xs.length=ys.length/\xs.take k1=ys.take k1)/\((xs=xs/\(ys=ys/\((0:Int)=(k1:Int)/\True)))/\True)))/\(∀ k1:Nat,let v3 := !(bH (xs.getD k1 v0) (ys.getD k1 v0));let v4:=(k1:Int);((k1<=xs.length/\xs.length=ys.length/\xs.take k1=ys.take k1)->(O v1->(((decide (v4<v1))=true->(ak v4 xs.length/\(ak v4 ys.length/\((v3=true->false=(bH xs ys))/\(v3=false->(O (v4+(1:Int))/\(∃ k2:Nat,((k2<=xs.length/\xs.length=ys.length/\xs.take k2=ys.take k2)/\(xs.length - k2<xs.length - k1/\((xs=xs/\(ys=ys/\((v4+(1:Int))=(k2:Int)/\True)))/\True))))))))))/\((decide (v4<v1))=false->true=(bH xs ys))))))))))))) ?_;refine λ _ _=>⟨λ _=>?_,λ _=>⟨⟨0,?_,⟨rfl,rfl,?_,ae⟩,ae⟩,λ k1 _=>have a4Q:=gm (ag.mk zE zE (0:Int) (0:Int) []) xs ys k1;have a4R:=dC xs ys k1;λ _=>⟨λ _=>⟨?_,?_,λ _=>?_,λ _=>⟨?_,k1+1,?_,?_,⟨rfl,rfl,?_,ae⟩,ae⟩⟩,λ _=>?_⟩⟩⟩;all_goals try and_intros
 all_goals first|rfl|trivial|(simp only[b4N,b4M,b5k,b8J,b5a,ak,O] at *;first|omega|(refine fA λ mT=>?_;subst mT;simp_all;done)|(refine mO (dC _ _ _ (by omega) (by omega) (by simp_all))))|(refine fA λ mT=>?_;subst mT;simp_all;done)|(simp_all;done)|(refine gm (ag.mk zE zE (0:Int) (0:Int) []) _ _ _ (by simp_all;omega) (by simp_all;omega) (by simp_all) ?_;simp_all;done)
def Gn:aN:=⟨GQ,[.v (.st .proof), .v (.st .proof)],λ (x:ai) (y:ai)=>⟨(none,[⟨.bool,bH x y⟩])⟩⟩
def Uy(x:ai)(y:ai):Nat->aA:=bJ
def Nb:aN.Good Gn:=by
 refine⟨ar CW,?_⟩;intro (x:ai) (y:ai) _;refine aX [L4,DO] [] [] [2,3] ⟨RX,KZ,ae⟩ CW MB (Uy x y) ((((!(bH x.sig y.sig))=true->false=(bH x y))/\((!(bH x.sig y.sig))=false->(x.af.length<=140737488355328->(y.af.length<=140737488355328->(((!(bH x.af y.af))=true->false=(bH x y))/\((!(bH x.af y.af))=false->true=(bH x y)))))))) ?_;refine⟨λ _=>?_,λ _ _ _=>⟨λ _=>?_,λ _=>?_⟩⟩;all_goals try and_intros
 all_goals first|rfl|trivial|(simp only[b4N,b4M,ak,O] at *;omega)|(refine fA λ mT=>?_;subst mT;simp_all)|(refine mO ?_;cases x;cases y;simp_all)
def eB(k:Int):List Int->List Int
 | []=>[]
 | _::xs=>k::eB (k+1) xs
def fR:∀ (k:Int) (xs:List Int),(eB k xs).length=xs.length
 | _,[]=>rfl
 | k,_::xs=>by simp[eB,fR (k+1) xs]
def xk:∀ (k:Int) (xs:List Int) (i:Nat) (d:Int),i<xs.length->(eB k xs).getD i d=k+i
 | k,[],i,d,h=>by simp at h
 | k,_::xs,0,d,h=>by simp[eB]
 | k,_::xs,i+1,d,h=>by
  have:=xk (k+1) xs i d (by simpa using h);simp[eB] at this ⊢;omega
def half{α:Type}(f:List α)(xs:List α)(i:Nat):List α:=f.take i++xs.drop i
def sq{α:Type}(f xs:List α):xs=half f xs 0:=by simp[half]
def Dw{α:Type}(f xs:List α)(i:Nat)(h:f.length=xs.length)(hi:xs.length<=i):half f xs i=f:=by
 simp[half,b5o (h ▸ hi),b7d hi]
def ki{α:Type}(f xs:List α)(i:Nat)(h:f.length=xs.length):(half f xs i).length=xs.length:=by
 simp[half];omega
def yC{α:Type}(f xs:List α)(d:α)(i:Nat)(h:f.length=xs.length)(hi:i<xs.length):(half f xs i).getD i d=xs.getD i d:=by
 simp only[half,b5b];rw[b6s (by simp;omega)];simp[h,Nat.min_eq_left (Nat.le_of_lt hi)]
def Dx{α:Type}(f xs:List α)(d:α)(i:Nat)(h:f.length=xs.length)(hi:i<xs.length):(half f xs i).set i (f.getD i d)=half f xs (i+1):=by
 unfold half;rw[List.set_append_right _ _ (by simp;omega)];have e:i - (List.take i f).length=0:=by simp;omega
 rw[e,b6E (by omega:i<xs.length),b8d,cC d f i (by omega)];simp
def wS:MK:=⟨zD,⟨(.slice (.int .i64)),λ (xs:List Int) (k:Int)=>(some (0<=k/\k+(xs.length:Int)<=4611686018427387904),eB k xs,k+(xs.length:Int))⟩⟩
def Lp(xs:List Int)(k:Int):Nat->aA:=(cQ 0 (.a (Nat) (λ i=>i<=xs.length) (λ i=>xs.length - i) [4] (λ i=>[(5, .aH ⟨(.int .i64),((i:Int):Int)⟩),(1, .aH ⟨(.int .i64),(k+(i:Int):Int)⟩),(0, .av 50)]) [] (λ i=>[(50, .av (.int .i64) (half (eB k xs) xs i:List Int))])) bJ)
def FB:MK.Good wS:=by
 refine⟨ar wm,uf [] [] [] [] [] [] [] [] trivial trivial trivial trivial wm Hj (λ xs k=>Lp xs k) (λ (xs:List Int) (k:Int)=>(let v0:=eB k xs;(((∃ i1:Nat,(i1<=xs.length/\((True/\(k=(k+(i1:Int))/\((0:Int)=(i1:Int)/\True)))/\(xs=(half v0 xs i1)/\True))))/\(∀ i1:Nat,let v1:=(i1:Int);let v2:=half v0 xs i1;let v3:=decide (v1<((v2.length:Int)));(i1<=xs.length->((v3=true->(ak v1 v2.length/\(O ((k+v1)+(1:Int))/\(O (v1+(1:Int))/\(∃ i2:Nat,(i2<=xs.length/\(xs.length - i2<xs.length - i1/\((True/\(((k+v1)+(1:Int))=(k+(i2:Int))/\((v1+(1:Int))=(i2:Int)/\True)))/\((v2.set i1 (k+v1))=(half v0 xs i2)/\True)))))))))/\(v3=false->((k+v1)=(k+(xs.length:Int))/\v2=v0))))))))) ?_⟩;intro (xs:List Int) (k:Int) (hp:0<=k/\k+(xs.length:Int)<=4611686018427387904) hk;have f0:=sq (eB k xs) xs;refine⟨⟨0,?_,⟨ae,?_,?_,ae⟩,?_,ae⟩,λ i1 _=>have C9:=Dw (eB k xs) xs i1 (fR k xs);have p7:=ki (eB k xs) xs i1 (fR k xs);have wu:=Dx (eB k xs) xs 0 i1 (fR k xs);have H2:=xk k xs i1 0;⟨λ _=>⟨?_,?_,?_,i1+1,?_,?_,⟨ae,?_,?_,ae⟩,?_,ae⟩,λ _=>⟨?_,?_⟩⟩⟩;all_goals try and_intros
 all_goals first|rfl|trivial|(simp only[b4N,b4M,ak,O,bT] at *;omega)|(simp only[b4N,b4M,ak,O] at *;first|omega|(rw[<-sq];done)|grind)|grind
def Bu:aN:=⟨sL,[.v (.slice (.int .i64))],λ (xs:List Int)=>⟨(some (xs.length<=1048576),[⟨(.slice (.int .i64)),xs⟩])⟩⟩
def QF(xs:List Int):Nat->aA:=(cQ 0 (.a (Nat) (λ k=>k<=xs.length) (λ k=>xs.length - k) [2,5,6,7] (λ k=>[(4, .aH ⟨(.int .i64),((k:Int):Int)⟩),(3, .row 7)]) [] (λ k=>[(7, .row OT (.int .i64) (fill xs k 0:List Int))])) bJ)
def JJ:aN.cZ Bu:=by
 refine⟨ar lB,?_⟩;intro (xs:List Int) (hp:xs.length<=1048576);refine cp [] [] [] [] [] [] [] [] trivial trivial trivial trivial lB wx (QF xs) (let v0:=(xs.length:Int);((O v0->(bG v0 v0 8/\((∃ k1:Nat,(k1<=xs.length/\((xs=xs/\(True/\((0:Int)=(k1:Int)/\True)))/\((List.replicate (Int.toNat v0) (0:Int))=(fill xs k1 0)/\True))))/\(∀ k1:Nat,let v1:=(k1:Int);(k1<=xs.length->(O v0->(((decide (v1<v0))=true->(ak v1 xs.length/\(O (xs.getD k1 (0:Int))->(ak v1 (fill xs k1 0).length/\(O (v1+(1:Int))/\(∃ k2:Nat,(k2<=xs.length/\(xs.length - k2<xs.length - k1/\((xs=xs/\(True/\((v1+(1:Int))=(k2:Int)/\True)))/\(((fill xs k1 0).set k1 (xs.getD k1 (0:Int)))=(fill xs k2 0)/\True))))))))))/\((decide (v1<v0))=false->(fill xs k1 0)=xs)))))))))) ?_;refine λ _=>⟨?_,⟨0,?_,⟨rfl,ae,?_,ae⟩,?_,ae⟩,λ k1 _=>have H3:=fe xs 0 k1;have H4:=iK xs 0 k1;have H5:=ff xs 0 0 k1;λ _=>⟨λ _=>⟨?_,λ _=>⟨?_,?_,k1+1,?_,?_,⟨rfl,ae,?_,ae⟩,?_,ae⟩⟩,λ _=>?_⟩⟩;all_goals try and_intros
 all_goals first|rfl|trivial|omega|(simp only[b4N,b4M,ak,O,bT,cB,bG,bc] at *;omega)|(simp[ak,O] at *;omega)|grind|exact lZ xs _|(simp only[b4N,b4M] at *;first|exact ff _ _ _ _ (by omega)|exact fe _ _ _ (by omega)|(simp only[bG];omega))
def ni(n:Nat):aN:=⟨mq,[.v (.st .expr)],λ (x:J)=>⟨(some (cd x<n/\aE x<=1048576),[⟨(.st .expr),x⟩])⟩⟩
def GG:aN:=⟨mq,[.v (.st .expr)],λ (x:J)=>⟨(some (aE x<=1048576),[⟨(.st .expr),x⟩])⟩⟩
def lI(n:Nat):aN:=⟨kN,[.v (.slice (.st .expr))],λ (xs:List J)=>⟨(some (cd xs<n/\xs.length+aG aE xs<=1048576),[⟨(.slice (.st .expr)),xs⟩])⟩⟩
def D1:aN:=⟨kN,[.v (.slice (.st .expr))],λ (xs:List J)=>⟨(some (xs.length+aG aE xs<=1048576),[⟨(.slice (.st .expr)),xs⟩])⟩⟩
def UW(x:J):Nat->aA:=bJ
def SY(n:Nat)(hE:bC [])(hO:gn [lI n])(hM:iv [])(hS:gF []):aN.cZ (ni (n+1)):=by
 refine⟨ar fk,?_⟩;intro (x:J) (hp:cd x<n+1/\aE x<=1048576);refine cp [] [lI n] [] [] [12] [] [] [1] hE hO hM hS fk AU (UW x) ((O x.aq->(O x.aS->(x.M.length<=140737488355328->((cd x.M<n/\x.M.length+aG aE x.M<=1048576)/\(aI x)=x))))) ?_;rw[jU] at hp;have f0k:=dk x;refine λ _ _ _=>⟨?_,?_⟩;all_goals try and_intros
 all_goals try (first|with_reducible rfl|with_reducible assumption)
 all_goals try simp only[J.eta,ag.eta,au.eta,aK,br,bL] at *
 all_goals first|rfl|trivial|omega|(simp only[b4N,b4M,ak,O,bT,cB,bG,bc] at *;omega)|(simp[ak,O] at *;omega)|grind
def SC(xs:List J):Nat->aA:=(cQ 0 (.a (Nat) (λ k=>k<=xs.length) (λ k=>xs.length - k) [2,5,6,7] (λ k=>[(4, .aH ⟨(.int .i64),((k:Int):Int)⟩),(3, .av 7)]) [] (λ k=>[(7, .av (.st .expr) (fill xs k zE:List J))])) bJ)
def QU(n:Nat)(hE:bC [])(hO:gn [ni n])(hM:iv [])(hS:gF []):aN.cZ (lI (n+1)):=by
 refine⟨ar eL,?_⟩;intro (xs:List J) (hp:cd xs<n+1/\xs.length+aG aE xs<=1048576);refine cp [] [ni n] [] [] [7,20] [] [] [] hE hO hM hS eL xV (SC xs) (let v0:=(xs.length:Int);((O v0->(bG v0 v0 40/\((∃ k1:Nat,(k1<=xs.length/\((xs=xs/\(True/\((0:Int)=(k1:Int)/\True)))/\((List.replicate (Int.toNat v0) zE)=(fill xs k1 zE)/\True))))/\(∀ k1:Nat,let v1:=(k1:Int);(k1<=xs.length->(O v0->(((decide (v1<v0))=true->(ak v1 xs.length/\((cd (xs.getD k1 zE)<n/\aE (xs.getD k1 zE)<=1048576)/\(ak v1 (fill xs k1 zE).length/\(O (v1+(1:Int))/\(∃ k2:Nat,(k2<=xs.length/\(xs.length - k2<xs.length - k1/\((xs=xs/\(True/\((v1+(1:Int))=(k2:Int)/\True)))/\(((fill xs k1 zE).set k1 (aI (xs.getD k1 zE)))=(fill xs k2 zE)/\True))))))))))/\((decide (v1<v0))=false->(fill xs k1 zE)=xs)))))))))) ?_;refine λ _=>⟨?_,⟨0,?_,⟨rfl,ae,?_,ae⟩,?_,ae⟩,λ k1 _=>have H3:=fe xs zE k1;have H4:=iK xs zE k1;have H5:=ff xs zE zE k1;have VV:=fi aE zE xs k1;have b2E:=ca zE xs k1;λ _=>⟨λ _=>⟨?_,?_,?_,?_,k1+1,?_,?_,⟨rfl,ae,?_,ae⟩,?_,ae⟩,λ _=>?_⟩⟩;all_goals try and_intros
 all_goals try (first|with_reducible rfl|with_reducible assumption)
 all_goals try simp only[J.eta,ag.eta,au.eta,aK,br,bL] at *
 all_goals first|rfl|trivial|omega|(simp only[b4N,b4M,ak,O,bT,cB,bG,bc] at *;omega)|(simp[ak,O] at *;omega)|grind|exact lZ xs _|(simp only[b4N,b4M] at *;first|exact ff _ _ _ _ (by omega)|exact fe _ _ _ (by omega)|(simp only[bG];omega))
def xI:∀ n,gn [ni n,lI n]
 | 0=>⟨⟨ar fk,λ _ h=>absurd h.1 (b5H _)⟩,⟨ar eL,λ _ h=>absurd h.1 (b5H _)⟩,ae⟩
 | n+1=>by
  have ih:=xI n;exact⟨SY n trivial ⟨ih.2.1,ae⟩ trivial trivial,QU n trivial ⟨ih.1,ae⟩ trivial trivial,ae⟩
def Ob:aN.cZ GG :=
 ⟨ar fk,λ x hp=>(xI (cd x+1)).1.2 x (⟨b5C _,hp⟩)⟩
def Lu:aN.cZ D1 :=
 ⟨ar eL,λ xs hp=>(xI (cd xs+1)).2.1.2 xs (⟨b5C _,hp⟩)⟩
mutual
def bj:J->Nat
 | ⟨_,_,ks⟩=>2+B2 ks
def B2:List J->Nat
 | []=>0
 | x::xs=>bj x+B2 xs
end
def Dj:∀ xs,B2 xs=aG bj xs
 | []=>rfl
 | x::xs=>by rw[B2,aG,Dj xs]
def V4(x:J):bj x=2+aG bj x.M:=by
 cases x;simp[bj,Dj]
mutual
def SG(k:Int):J->J
 | ⟨_,_,ks⟩=>⟨k,k+1,c7 (k+2) ks⟩
def c7(k:Int):List J->List J
 | []=>[]
 | x::xs=>SG k x::c7 (k+(bj x:Int)) xs
end
def a9O(k:Int)(x:J):SG k x=⟨k,k+1,c7 (k+2) x.M⟩:=by cases x;rfl
def kv:∀ (k:Int) (xs:List J),(c7 k xs).length=xs.length
 | _,[]=>rfl
 | k,x::xs=>by simp[c7,kv _ xs]
def N6(z:J):∀ (k:Int) (xs:List J) (i:Nat),i<xs.length->(c7 k xs).getD i z=SG (k+(aG bj (xs.take i):Int)) (xs.getD i z)
 | k,[],i,h=>by simp at h
 | k,x::xs,0,h=>by simp[c7,aG]
 | k,x::xs,i+1,h=>by
  have:=N6 z (k+(bj x:Int)) xs i (by simpa using h);simp only[c7,List.getD_cons_succ,this,List.take_succ_cons,aG];congr 1;omega
def a1z:∀ xs:List J,xs.length<=aG bj xs
 | []=>by simp[aG]
 | x::xs=>by
  have:=a1z xs;have:=V4 x;simp only[aG,b4Y];omega
def S7{α:Type}(l:List α)(i:Nat)(y z:α)(h:i<l.length):(l.set i y).getD i z=y:=by
 simp[List.getD,h]
def a8l(k:Int)(xs:List J)(i:Nat)(z:J)(h:i<xs.length)(y1 y2 y3:J)(h3:y3=SG (k+(aG bj (xs.take i):Int)) (xs.getD i z)) :
  (((half (c7 k xs) xs i).set i y1).set i y2).set i y3=half (c7 k xs) xs (i+1):=by
 rw[b7V,b7V,h3,<-N6 z k xs i h,Dx _ _ z i (kv k xs) h]
def jo(n:Nat):MK:=⟨qO,⟨(.slice (.st .expr)),λ (xs:List J) (k:Int)=>(some (cd xs<n/\0<=k/\k+(aG bj xs:Int)<=4611686018427387904),c7 k xs,k+(aG bj xs:Int))⟩⟩
def o5:MK:=⟨qO,⟨(.slice (.st .expr)),λ (xs:List J) (k:Int)=>(some (0<=k/\k+(aG bj xs:Int)<=4611686018427387904),c7 k xs,k+(aG bj xs:Int))⟩⟩
def NT(xs:List J)(k:Int):Nat->aA:=(cQ 0 (.a (Nat) (λ i=>i<=xs.length) (λ i=>xs.length - i) [4] (λ i=>[(5, .aH ⟨(.int .i64),((i:Int):Int)⟩),(1, .aH ⟨(.int .i64),(k+(aG bj (xs.take i):Int):Int)⟩),(0, .av 50)]) [] (λ i=>[(50, .av (.st .expr) (half (c7 k xs) xs i:List J))])) bJ)
def Lx(n:Nat)(hE:bC [])(hO:gn [])(hM:iv [jo n])(hS:gF []):MK.Good (jo (n+1)):=by
 refine⟨ar jZ,uf [] [] [jo n] [] [32] [] [] [] hE hO hM hS jZ Ie (λ xs k=>NT xs k) (λ (xs:List J) (k:Int)=>(let v0:=c7 k xs;let v1:=(1:Int);(((∃ i1:Nat,(i1<=xs.length/\((True/\(k=(k+(aG bj (xs.take i1):Int))/\((0:Int)=(i1:Int)/\True)))/\(xs=(half v0 xs i1)/\True))))/\(∀ i1:Nat,let v4:=k+(aG bj (xs.take i1):Int);let v5:=half v0 xs i1;let v3:=v5.set i1 (J.mk v4 (v5.getD i1 zE).aS (v5.getD i1 zE).M);let v2:=v3.set i1 (J.mk (v3.getD i1 zE).aq (v4+v1) (v3.getD i1 zE).M);let v6:=v2.getD i1 zE;let v7:=(v4+v1)+v1;let v8:=(i1:Int);let v9:=decide (v8<((v5.length:Int)));(i1<=xs.length->((v9=true->(ak v8 v5.length/\(O (v4+v1)/\(ak v8 v3.length/\(O v7/\(ak v8 v2.length/\((cd v6.M<n/\0<=v7/\v7+(aG bj v6.M:Int)<=4611686018427387904)/\(O (v8+v1)/\(∃ i2:Nat,(i2<=xs.length/\(xs.length - i2<xs.length - i1/\((True/\((v7+(aG bj v6.M:Int))=(k+(aG bj (xs.take i2):Int))/\((v8+v1)=(i2:Int)/\True)))/\((v2.set i1 (J.mk v6.aq v6.aS (c7 v7 v6.M)))=(half v0 xs i2)/\True)))))))))))))/\(v9=false->(v4=(k+(aG bj xs:Int))/\v5=v0))))))))) ?_⟩;intro (xs:List J) (k:Int) (hp:cd xs<n+1/\0<=k/\k+(aG bj xs:Int)<=4611686018427387904) hk;have f0:=sq (c7 k xs) xs;have f1:=iq bj xs;have f2:=a1z xs;refine⟨⟨0,?_,⟨ae,?_,?_,ae⟩,?_,ae⟩,λ i1 _=>have C9:=Dw (c7 k xs) xs i1 (kv k xs);have p7:=ki (c7 k xs) xs i1 (kv k xs);have wu:=yC (c7 k xs) xs zE i1 (kv k xs);have H2:=fj bj zE xs i1;have To:=bZ bj xs i1;have VU:=bZ bj xs (i1+1);have Zc:=gX bj xs i1;have Zd:=V4 (xs.getD i1 zE);have Ze:=ca zE xs i1;have a1t:=dk (xs.getD i1 zE);have a0h:=a9O (k+(aG bj (xs.take i1):Int)) (xs.getD i1 zE);have a0i:=(λ (y:J) (h:i1<xs.length)=>S7 (half (c7 k xs) xs i1) i1 y zE (by rw[ki _ _ i1 (kv k xs)];exact h));have b1s:=(λ (h:i1<xs.length) (y1 y2 y3:J)=>a8l k xs i1 zE h y1 y2 y3);⟨λ _=>⟨?_,?_,?_,?_,?_,?_,?_,i1+1,?_,?_,⟨ae,?_,?_,ae⟩,?_,ae⟩,λ _=>⟨?_,?_⟩⟩⟩;all_goals try and_intros
 all_goals first|rfl|trivial|omega|(simp only[b7V,b5V,b4N,b4M,ak,O] at *;first|omega|(have hi:i2<xs.length:=by omega);simp only[a0i _ hi,wu hi];first|omega|(refine b1s hi (J.mk 0 0 []) (J.mk 0 0 []) _ ?_;rw[a0h,Int.add_assoc];rfl))|grind
def FU:∀ n,iv [jo n]
 | 0=>⟨⟨ar jZ,λ _ _ _ _ _ h=>absurd (show cd _<0 from h.1) (b5H _)⟩,ae⟩
 | n+1=>by
  have ih:=FU n;exact⟨Lx n trivial trivial ⟨ih.1,ae⟩ trivial,ae⟩
def rI:MK.Good o5 :=
 ⟨ar jZ,λ (xs:List J) (k:Int) w v fp (hp:0<=k/\k+(aG bj xs:Int)<=4611686018427387904)=>(FU (cd xs+1)).1.2 xs k w v fp (show (cd xs<cd xs+1/\(0<=k/\k+(aG bj xs:Int)<=4611686018427387904)) from ⟨b5C _,hp⟩)⟩
def eY(k:Int):List Int->Bool
 | []=>true
 | x::xs=>decide (x=k)&&eY (k+1) xs
def BN:∀ (k:Int) (xs:List Int),eY k xs=true↔∀ i,i<xs.length->xs.getD i 0=k+i
 | k,[]=>by simp[eY]
 | k,x::xs=>by
  simp only[eY,b4S,b4N,BN (k+1) xs];constructor
  .rintro⟨h1,h2⟩ i hi;cases i with
   | zero=>simp[h1]
   | succ i=>have:=h2 i (by simpa using hi);simp at this ⊢;omega
  .intro h;refine⟨by have:=h 0 (by simp);simpa using this,λ i hi=>?_⟩;have:=h (i+1) (by simpa using hi);simp at this ⊢;omega
def a0S(k:Int)(xs:List Int)(i:Nat)(h:i<xs.length):eY k (xs.take (i+1))=(eY k (xs.take i)&&decide (xs.getD i 0=k+i)):=by
 induction xs generalizing k i with
 | nil=>simp at h
 | cons x xs ih =>
  cases i with
  | zero=>simp[eY]
  | succ i =>
   have:=ih (k+1) i (by simpa using h);simp only[List.take_succ_cons,eY,this,Bool.and_assoc,List.getD_cons_succ];congr 2;congr 1;simp only[eq_iff_iff];constructor<;>intro h<;>omega
def a2u(k:Int)(xs:List Int)(i:Nat)(h:i<xs.length)(e:xs.getD i 0≠k+i):eY k xs=false:=by
 cases hb:eY k xs with
 | false=>rfl
 | true=>exact absurd ((BN k xs).1 hb i h) e
def a4j(k:Int)(xs:List Int):eY k (eB k xs)=true :=
 (BN k _).2 λ i hi=>xk k xs i 0 (by rwa [fR] at hi)
def IN(k:Int)(xs:List Int):Int:=bif eY k xs then k+(xs.length:Int) else -1
def zc:aN:=⟨zA,[.v (.slice (.int .i64)), .v (.int .i64)],λ (xs:List Int) (k:Int)=>⟨(some (0<=k/\k+(xs.length:Int)<=4611686018427387904),[⟨(.int .i64),IN k xs⟩])⟩⟩
def NR(xs:List Int)(k:Int):Nat->aA:=(cQ 0 (.b (Nat) (λ i=>i<=xs.length/\eY k (xs.take i)=true) (λ i=>xs.length - i) [] (λ i=>[(5, .aH ⟨(.int .i64),((i:Int):Int)⟩),(1, .aH ⟨(.int .i64),(k+(i:Int):Int)⟩)])) bJ)
def Hr:aN.Good zc:=by
 refine⟨ar wj,?_⟩;intro (xs:List Int) (k:Int) (hp:0<=k/\k+(xs.length:Int)<=4611686018427387904);refine aX [] [] [] [] trivial wj Hh (NR xs k) (let v0:=(xs.length:Int);(((∃ i1:Nat,((i1<=xs.length/\eY k (xs.take i1)=true)/\((xs=xs/\(k=(k+(i1:Int))/\((0:Int)=(i1:Int)/\True)))/\True)))/\(∀ i1:Nat,let v1:=(i1:Int);let v2 := !(decide ((xs.getD i1 (0:Int))=(k+v1)));((i1<=xs.length/\eY k (xs.take i1)=true)->(O v0->(((decide (v1<v0))=true->(ak v1 xs.length/\(O (xs.getD i1 (0:Int))->((v2=true->(-1:Int)=(IN k xs))/\(v2=false->(O ((k+v1)+(1:Int))/\(O (v1+(1:Int))/\(∃ i2:Nat,((i2<=xs.length/\eY k (xs.take i2)=true)/\(xs.length - i2<xs.length - i1/\((xs=xs/\(((k+v1)+(1:Int))=(k+(i2:Int))/\((v1+(1:Int))=(i2:Int)/\True)))/\True)))))))))))/\((decide (v1<v0))=false->(k+v1)=(IN k xs))))))))) ?_;have f0:eY k (xs.take 0)=true:=by simp[eY]
 have f1:∀ i,xs.length<=i->xs.take i=xs:=λ i h=>b5o h;refine⟨⟨0,?_,⟨rfl,?_,?_,ae⟩,ae⟩,λ i1 _=>have C9:=a0S k xs i1;have p7:=a2u k xs i1;have wu:=dW (λ _=>true) xs i1;λ _=>⟨λ _=>⟨?_,λ _=>⟨λ _=>?_,λ _=>⟨?_,?_,i1+1,?_,?_,⟨rfl,?_,?_,ae⟩,ae⟩⟩⟩,λ _=>?_⟩⟩;all_goals try and_intros
 all_goals try unfold IN
 all_goals first|rfl|trivial|omega|(simp only[b4N,b4M,ak,O,b5a,b5k] at *;first|omega|grind)
def iM{α:Type}(cJ:α->Nat)(mk:Int->α->α)(k:Int):List α->List α
 | []=>[]
 | x::xs=>mk k x::iM cJ mk (k+(cJ x:Int)) xs
def iN{α:Type}(cJ:α->Nat)(mk:Int->α->α):∀ (k:Int) (xs:List α),(iM cJ mk k xs).length=xs.length
 | _,[]=>rfl
 | k,x::xs=>by simp[iM,iN cJ mk _ xs]
def SF{α:Type}(cJ:α->Nat)(mk:Int->α->α)(z:α):∀ (k:Int) (xs:List α) (i:Nat),i<xs.length->(iM cJ mk k xs).getD i z=mk (k+(aG cJ (xs.take i):Int)) (xs.getD i z)
 | k,[],i,h=>by simp at h
 | k,x::xs,0,h=>by simp[iM,aG]
 | k,x::xs,i+1,h=>by
  have:=SF cJ mk z (k+(cJ x:Int)) xs i (by simpa using h);simp only[iM,List.getD_cons_succ,this,List.take_succ_cons,aG];congr 1;omega
def ZN{α:Type}(cJ:α->Nat)(mk:Int->α->α)(k:Int)(xs:List α)(i:Nat)(z:α)(h:i<xs.length)(y:α)(e:y=mk (k+(aG cJ (xs.take i):Int)) (xs.getD i z)) :
  (half (iM cJ mk k xs) xs i).set i y=half (iM cJ mk k xs) xs (i+1):=by
 rw[e,<-SF cJ mk z k xs i h,Dx _ _ z i (iN cJ mk k xs) h]
def RL{α:Type}(cJ:α->Nat)(h:∀ x,1<=cJ x):∀ xs:List α,xs.length<=aG cJ xs
 | []=>by simp[aG]
 | x::xs=>by
  have:=RL cJ h xs;have:=h x;simp only[aG,b4Y];omega
def ua:aN:=⟨nZ,[.v (.st .proofStep)],λ (x:U)=>⟨(some (aZ x<=1048576),[⟨(.st .proofStep),x⟩])⟩⟩
def Jf(x:U):Nat->aA:=bJ
def Ew:aN.cZ ua:=by
 refine⟨ar iB,?_⟩;intro (x:U) (hp:aZ x<=1048576);refine cp [] [Bu,D1] [] [] [12,16,20] [] [] [1] trivial ⟨JJ,Lu,ae⟩ trivial trivial iB p8 (Jf x) ((O x.use->(x.path.length<=140737488355328->(x.path.length<=1048576/\(x.aw.length<=140737488355328->(x.aw.length+aG aE x.aw<=1048576/\(x.bd.length<=140737488355328->(x.bd.length+aG aE x.bd<=1048576/\x=x)))))))) ?_;rw[gR] at hp;refine λ _ _=>⟨?_,λ _=>⟨?_,λ _=>⟨?_,rfl⟩⟩⟩;all_goals try and_intros
 all_goals first|rfl|trivial|omega|(simp only[b4N,b4M,ak,O,bT,cB,bG,bc] at *;omega)|(simp[ak,O] at *;omega)|grind
def rH:aN:=⟨mr,[.v (.slice (.st .proofStep))],λ (xs:List U)=>⟨(some (xs.length+aG aZ xs<=1048576),[⟨(.slice (.st .proofStep)),xs⟩])⟩⟩
def HE(xs:List U):Nat->aA:=(cQ 0 (.a (Nat) (λ k=>k<=xs.length) (λ k=>xs.length - k) [2,5,6,7] (λ k=>[(4, .aH ⟨(.int .i64),((k:Int):Int)⟩),(3, .av 7)]) [] (λ k=>[(7, .av (.st .proofStep) (fill xs k (U.mk (0:Int) false [] [] []):List U))])) bJ)
def Cw:aN.cZ rH:=by
 refine⟨ar gY,?_⟩;intro (xs:List U) (hp:xs.length+aG aZ xs<=1048576);refine cp [] [ua] [] [] [7,20] [] [] [] trivial ⟨Ew,ae⟩ trivial trivial gY pt (HE xs) (let v0:=U.mk (0:Int) false [] [] [];let v1:=(xs.length:Int);((O v1->(bG v1 v1 88/\((∃ k1:Nat,(k1<=xs.length/\((xs=xs/\(True/\((0:Int)=(k1:Int)/\True)))/\((List.replicate (Int.toNat v1) v0)=(fill xs k1 v0)/\True))))/\(∀ k1:Nat,let v2:=(k1:Int);(k1<=xs.length->(O v1->(((decide (v2<v1))=true->(ak v2 xs.length/\(aZ (xs.getD k1 v0)<=1048576/\(ak v2 (fill xs k1 v0).length/\(O (v2+(1:Int))/\(∃ k2:Nat,(k2<=xs.length/\(xs.length - k2<xs.length - k1/\((xs=xs/\(True/\((v2+(1:Int))=(k2:Int)/\True)))/\(((fill xs k1 v0).set k1 (xs.getD k1 v0))=(fill xs k2 v0)/\True))))))))))/\((decide (v2<v1))=false->(fill xs k1 v0)=xs)))))))))) ?_;refine λ _=>⟨?_,⟨0,?_,⟨rfl,ae,?_,ae⟩,?_,ae⟩,λ k1 _=>have H3:=fe xs (U.mk (0:Int) false [] [] []) k1;have H4:=iK xs (U.mk (0:Int) false [] [] []) k1;have H5:=ff xs (U.mk (0:Int) false [] [] []) (U.mk (0:Int) false [] [] []) k1;have VV:=fi aZ (U.mk (0:Int) false [] [] []) xs k1;λ _=>⟨λ _=>⟨?_,?_,?_,?_,k1+1,?_,?_,⟨rfl,ae,?_,ae⟩,?_,ae⟩,λ _=>?_⟩⟩;all_goals try and_intros
 all_goals first|rfl|trivial|omega|(simp only[b4N,b4M,ak,O,bT,cB,bG,bc] at *;omega)|(simp[ak,O] at *;omega)|grind|exact lZ xs _|(simp only[b4N,b4M] at *;first|exact ff _ _ _ _ (by omega)|exact fe _ _ _ (by omega)|(simp only[bG];omega))
def D0:aN:=⟨vT,[.v (.st .claim)],λ (x:ag)=>⟨(some (bB x<=1048576),[⟨(.st .claim),x⟩])⟩⟩
def SB(x:ag):Nat->aA:=bJ
def Lt:aN.cZ D0:=by
 refine⟨ar mG,?_⟩;intro (x:ag) (hp:bB x<=1048576);refine cp [] [GG,rH] [] [] [6,10,20] [] [] [1] trivial ⟨Ob,Cw,ae⟩ trivial trivial mG xU (SB x) ((aE x.left<=1048576/\(aE x.right<=1048576/\(O x.aM->(O x.ref->(x.steps.length<=140737488355328->(x.steps.length+aG aZ x.steps<=1048576/\(qb x)=x))))))) ?_;rw[iR] at hp;refine⟨?_,?_,λ _ _ _=>⟨?_,?_⟩⟩;all_goals try and_intros
 all_goals try (first|with_reducible rfl|with_reducible assumption)
 all_goals try simp only[J.eta,ag.eta,au.eta,aK,br,bL] at *
 all_goals first|rfl|trivial|omega|(simp only[b4N,b4M,ak,O,bT,cB,bG,bc] at *;omega)|(simp[ak,O] at *;omega)|grind
def Bt:aN:=⟨sK,[.v (.slice (.st .claim))],λ (xs:List ag)=>⟨(some (xs.length+aG bB xs<=1048576),[⟨(.slice (.st .claim)),xs⟩])⟩⟩
def QE(xs:List ag):Nat->aA:=(cQ 0 (.a (Nat) (λ k=>k<=xs.length) (λ k=>xs.length - k) [2,5,6,7] (λ k=>[(4, .aH ⟨(.int .i64),((k:Int):Int)⟩),(3, .av 7)]) [] (λ k=>[(7, .av (.st .claim) (fill xs k (ag.mk zE zE (0:Int) (0:Int) []):List ag))])) bJ)
def JI:aN.cZ Bt:=by
 refine⟨ar lA,?_⟩;intro (xs:List ag) (hp:xs.length+aG bB xs<=1048576);refine cp [] [D0] [] [] [7,20] [] [] [] trivial ⟨Lt,ae⟩ trivial trivial lA wv (QE xs) (let v0:=ag.mk zE zE (0:Int) (0:Int) [];let v1:=(xs.length:Int);((O v1->(bG v1 v1 120/\((∃ k1:Nat,(k1<=xs.length/\((xs=xs/\(True/\((0:Int)=(k1:Int)/\True)))/\((List.replicate (Int.toNat v1) v0)=(fill xs k1 v0)/\True))))/\(∀ k1:Nat,let v2:=(k1:Int);(k1<=xs.length->(O v1->(((decide (v2<v1))=true->(ak v2 xs.length/\(bB (xs.getD k1 v0)<=1048576/\(ak v2 (fill xs k1 v0).length/\(O (v2+(1:Int))/\(∃ k2:Nat,(k2<=xs.length/\(xs.length - k2<xs.length - k1/\((xs=xs/\(True/\((v2+(1:Int))=(k2:Int)/\True)))/\(((fill xs k1 v0).set k1 (qb (xs.getD k1 v0)))=(fill xs k2 v0)/\True))))))))))/\((decide (v2<v1))=false->(fill xs k1 v0)=xs)))))))))) ?_;refine λ _=>⟨?_,⟨0,?_,⟨rfl,ae,?_,ae⟩,?_,ae⟩,λ k1 _=>have H3:=fe xs (ag.mk zE zE (0:Int) (0:Int) []) k1;have H4:=iK xs (ag.mk zE zE (0:Int) (0:Int) []) k1;have H5:=ff xs (ag.mk zE zE (0:Int) (0:Int) []) (ag.mk zE zE (0:Int) (0:Int) []) k1;have VV:=fi bB (ag.mk zE zE (0:Int) (0:Int) []) xs k1;λ _=>⟨λ _=>⟨?_,?_,?_,?_,k1+1,?_,?_,⟨rfl,ae,?_,ae⟩,?_,ae⟩,λ _=>?_⟩⟩;all_goals try and_intros
 all_goals try (first|with_reducible rfl|with_reducible assumption)
 all_goals try simp only[J.eta,ag.eta,au.eta,aK,br,bL] at *
 all_goals first|rfl|trivial|omega|(simp only[b4N,b4M,ak,O,bT,cB,bG,bc] at *;omega)|(simp[ak,O] at *;omega)|grind|exact lZ xs _|(simp only[b4N,b4M] at *;first|exact ff _ _ _ _ (by omega)|exact fe _ _ _ (by omega)|(simp only[bG];omega))
def D2:aN:=⟨vU,[.v (.st .proof)],λ (x:ai)=>⟨(some (cY x<=1048576),[⟨(.st .proof),x⟩])⟩⟩
def SD(x:ai):Nat->aA:=bJ
def Lv:aN.cZ D2:=by
 refine⟨ar mH,?_⟩;intro (x:ai) (hp:cY x<=1048576);refine cp [Cm] [Bt] [] [] [10] [] [] [1] ⟨Du,ae⟩ ⟨JI,ae⟩ trivial trivial mH xW (SD x) ((x.af.length<=140737488355328->(x.af.length+aG bB x.af<=1048576/\x=x))) ?_;rw[kF] at hp;refine λ _=>⟨?_,rfl⟩;all_goals try and_intros
 all_goals first|rfl|trivial|omega|(simp only[b4N,b4M,ak,O,bT,cB,bG,bc] at *;omega)|(simp[ak,O] at *;omega)|grind
def aD(x:U):Nat:=2+x.path.length+aG bj x.aw+aG bj x.bd
def lD(x:U):aD x=2+x.path.length+aG bj x.aw+aG bj x.bd:=rfl
def bm(k:Int)(x:U):U:=⟨k,decide ((k+1).tmod 3=0),eB (k+1+1) x.path,c7 (k+1+1+(x.path.length:Int)) x.aw,c7 (k+1+1+(x.path.length:Int)+(aG bj x.aw:Int)) x.bd⟩
def SH(k:Int)(x:U):bm k x=⟨k,decide ((k+1).tmod 3=0),eB (k+1+1) x.path,c7 (k+1+1+(x.path.length:Int)) x.aw,c7 (k+1+1+(x.path.length:Int)+(aG bj x.aw:Int)) x.bd⟩:=rfl
def de(k:Int)(xs:List U)(i:Nat):List U:=half (iM aD bm k xs) xs i
def NC(k:Int)(xs:List U):xs=de k xs 0:=sq _ _
def Qa(k:Int)(xs:List U)(i:Nat)(h:xs.length<=i):de k xs i=iM aD bm k xs:=Dw _ _ i (iN aD bm k xs) h
def A3(k:Int)(xs:List U)(i:Nat):(de k xs i).length=xs.length:=ki _ _ i (iN aD bm k xs)
def Qb(k:Int)(xs:List U)(i:Nat)(z:U)(h:i<xs.length):(de k xs i).getD i z=xs.getD i z:=yC _ _ z i (iN aD bm k xs) h
def Qc(k:Int)(xs:List U)(i:Nat)(z y:U)(h:i<xs.length):((de k xs i).set i y).getD i z=y:=S7 _ i y z (by rw[A3];exact h)
def zU(k:Int)(x:U):U:=(U.mk (k) x.back x.path x.aw x.bd)
def zV(k:Int)(x:U):U:=(U.mk (k) (decide ((k+1).tmod 3=0)) x.path x.aw x.bd)
def zW(k:Int)(x:U):U:=(U.mk (k) (decide ((k+1).tmod 3=0)) (eB (k+1+1) x.path) x.aw x.bd)
def zY(k:Int)(x:U):U:=(U.mk (k) (decide ((k+1).tmod 3=0)) (eB (k+1+1) x.path) (c7 (k+1+1+(x.path.length:Int)) x.aw) x.bd)
def zZ(k:Int)(x:U):U:=(U.mk (k) (decide ((k+1).tmod 3=0)) (eB (k+1+1) x.path) (c7 (k+1+1+(x.path.length:Int)) x.aw) (c7 (k+1+1+(x.path.length:Int)+(aG bj x.aw:Int)) x.bd))
def Re(k:Int)(x:U):zZ k x=bm k x:=(SH k x).symm
def NB(k:Int)(xs:List U)(i:Nat)(z:U)(h:i<xs.length):(de k xs i).set i (zZ (k+(aG aD (xs.take i):Int)) (xs.getD i z))=de k xs (i+1):=ZN aD bm k xs i z h _ (Re _ _)
def pH:MK:=⟨qP,⟨(.slice (.st .proofStep)),λ (xs:List U) (k:Int)=>(some (0<=k/\k+(aG aD xs:Int)<=4611686018427387904),iM aD bm k xs,k+(aG aD xs:Int))⟩⟩
def D3(xs:List U)(k:Int):Nat->aA:=(cQ 0 (.mk (Nat) (λ i=>i<=xs.length) (λ i=>xs.length - i) [] [4] (λ i=>[(5, .aH ⟨(.int .i64),((i:Int):Int)⟩),(1, .aH ⟨(.int .i64),(k+(aG aD (xs.take i):Int):Int)⟩),(0, .av 50)]) [] (λ i=>[(50, .av (.st .proofStep) (de k xs i:List U))]) [] [] (λ i=>(cQ 100006 (.u (i<xs.length) [6,7,8,9,12,13,14,15,16] [(5, .aH ⟨(.int .i64),((i:Int):Int)⟩),(1, .aH ⟨(.int .i64),(k+(aG aD (xs.take i):Int)+1:Int)⟩),(0, .av 50)] [] [(50, .av (.st .proofStep) ((de k xs i).set i (zU (k+(aG aD (xs.take i):Int)) (xs.getD i (U.mk (0:Int) false [] [] []))):List U))] (cQ 100008 (.u (i<xs.length) [19,20,21,22,23,24,25] [(5, .aH ⟨(.int .i64),((i:Int):Int)⟩),(1, .aH ⟨(.int .i64),(k+(aG aD (xs.take i):Int)+1+1:Int)⟩),(0, .av 50)] [] [(50, .av (.st .proofStep) ((de k xs i).set i (zV (k+(aG aD (xs.take i):Int)) (xs.getD i (U.mk (0:Int) false [] [] []))):List U))] (cQ 100009 (.u (i<xs.length) [] [(5, .aH ⟨(.int .i64),((i:Int):Int)⟩),(1, .aH ⟨(.int .i64),(k+(aG aD (xs.take i):Int)+1+1+((xs.getD i (U.mk (0:Int) false [] [] [])).path.length:Int):Int)⟩),(0, .av 50)] [] [(50, .av (.st .proofStep) ((de k xs i).set i (zW (k+(aG aD (xs.take i):Int)) (xs.getD i (U.mk (0:Int) false [] [] []))):List U))] (cQ 100010 (.u (i<xs.length) [] [(5, .aH ⟨(.int .i64),((i:Int):Int)⟩),(1, .aH ⟨(.int .i64),(k+(aG aD (xs.take i):Int)+1+1+((xs.getD i (U.mk (0:Int) false [] [] [])).path.length:Int)+(aG bj (xs.getD i (U.mk (0:Int) false [] [] [])).aw:Int):Int)⟩),(0, .av 50)] [] [(50, .av (.st .proofStep) ((de k xs i).set i (zY (k+(aG aD (xs.take i):Int)) (xs.getD i (U.mk (0:Int) false [] [] []))):List U))] bJ) bJ)) bJ)) bJ)) bJ))) bJ)
def zn:MK.Good pH:=by
 refine⟨ar pn,uf [] [] [wS,o5] [] [34,41,48] [] [] [] trivial trivial ⟨FB,rI,ae⟩ trivial pn Ag (λ xs k=>D3 xs k) (λ (xs:List U) (k:Int)=>(let v0:=U.mk (0:Int) false [] [] [];let v1:=(1:Int);(((∃ i1:Nat,(i1<=xs.length/\((True/\(k=(k+(aG aD (xs.take i1):Int))/\((0:Int)=(i1:Int)/\True)))/\(xs=(de k xs i1)/\True))))/\(∀ i1:Nat,let v2:=(aG aD (xs.take i1):Int);let v3:=de k xs i1;let v4:=xs.getD i1 v0;let v8:=k+v2+1+1+(v4.path.length:Int)+(aG bj v4.aw:Int);let va:=k+v2+1+1+(v4.path.length:Int);let vb:=(i1:Int);let vf:=k+v2+1+1;let vg:=vb=vb/\True;let vh:=v3.getD i1 v0;let vj:=k+v2+1;let vk:=k+v2;let v5:=v3.set i1 (zV vk v4);let v6:=v3.set i1 (zW vk v4);let v7:=v3.set i1 (zY vk v4);let v9:=v3.set i1 (zU vk v4);let vc:=v5.getD i1 v0;let vd:=v6.getD i1 v0;let ve:=v7.getD i1 v0;let vi:=v9.getD i1 v0;let vl:=decide (vb<((v3.length:Int)));(i1<=xs.length->((vl=true->(ak vb v3.length/\((O (vk+v1)/\(∃ u2:Unit,(i1<xs.length/\((True/\((vk+v1)=vj/\vg))/\((v3.set i1 (U.mk vk vh.back vh.path vh.aw vh.bd))=v9/\True)))))/\(∀ u2:Unit,(i1<xs.length->(((3:Int)≠(0:Int)/\O (vj.tmod (3:Int)))/\(ak vb v9.length/\((O (vj+v1)/\(∃ u3:Unit,(i1<xs.length/\((True/\((vj+v1)=vf/\vg))/\((v9.set i1 (U.mk vi.use (decide ((vj.tmod (3:Int))=(0:Int))) vi.path vi.aw vi.bd))=v5/\True)))))/\(∀ u3:Unit,(i1<xs.length->((ak vb v5.length/\((0<=vf/\vf+(vc.path.length:Int)<=4611686018427387904)/\(∃ u4:Unit,(i1<xs.length/\((True/\((vf+(vc.path.length:Int))=va/\vg))/\((v5.set i1 (U.mk vc.use vc.back (eB vf vc.path) vc.aw vc.bd))=v6/\True))))))/\(∀ u4:Unit,(i1<xs.length->((ak vb v6.length/\((0<=va/\va+(aG bj vd.aw:Int)<=4611686018427387904)/\(∃ u5:Unit,(i1<xs.length/\((True/\((va+(aG bj vd.aw:Int))=v8/\vg))/\((v6.set i1 (U.mk vd.use vd.back vd.path (c7 va vd.aw) vd.bd))=v7/\True))))))/\(∀ u5:Unit,(i1<xs.length->(ak vb v7.length/\((0<=v8/\v8+(aG bj ve.bd:Int)<=4611686018427387904)/\(O (vb+v1)/\(∃ i6:Nat,(i6<=xs.length/\(xs.length - i6<xs.length - i1/\((True/\((v8+(aG bj ve.bd:Int))=(k+(aG aD (xs.take i6):Int))/\((vb+v1)=(i6:Int)/\True)))/\((v7.set i1 (U.mk ve.use ve.back ve.path ve.aw (c7 v8 ve.bd)))=(de k xs i6)/\True))))))))))))))))))))))))/\(vl=false->(vk=(k+(aG aD xs:Int))/\v3=(iM aD bm k xs)))))))))) ?_⟩;intro (xs:List U) (k:Int) (hp:0<=k/\k+(aG aD xs:Int)<=4611686018427387904) hk;have f0:=NC k xs;have f1:=iq aD xs;have f2:=RL aD (λ x=>by rw[lD];omega) xs;refine⟨⟨0,?_,⟨ae,?_,?_,ae⟩,?_,ae⟩,λ i1 _=>have C9:=Qa k xs i1;have p7:=Qc k xs i1 (U.mk (0:Int) false [] [] []);have wu:=Qb k xs i1 (U.mk (0:Int) false [] [] []);have H2:=NB k xs i1 (U.mk (0:Int) false [] [] []);have To:=A3 k xs i1;have VU:=fj aD (U.mk (0:Int) false [] [] []) xs i1;have Zc:=bZ aD xs i1;have Zd:=bZ aD xs (i1+1);have Ze:=gX aD xs i1;have a1t:=lD (xs.getD i1 (U.mk (0:Int) false [] [] []));⟨λ _=>⟨?_,⟨?_,(),?_,⟨ae,?_,rfl,ae⟩,?_,ae⟩,λ u2 _=>⟨⟨?_,?_⟩,?_,⟨?_,(),?_,⟨ae,?_,rfl,ae⟩,?_,ae⟩,λ u3 _=>⟨⟨?_,?_,(),?_,⟨ae,?_,rfl,ae⟩,?_,ae⟩,λ u4 _=>⟨⟨?_,?_,(),?_,⟨ae,?_,rfl,ae⟩,?_,ae⟩,λ u5 _=>⟨?_,?_,?_,i1+1,?_,?_,⟨ae,?_,?_,ae⟩,?_,ae⟩⟩⟩⟩⟩,λ _=>⟨?_,?_⟩⟩⟩;all_goals try and_intros
 all_goals first|rfl|trivial|omega|(simp only[b7V,b5V,b4N,b4M,ak,O] at *;first|omega|exact C9 (by omega)|(simp only[p7 _ (by omega)];rfl)|(simp only[p7 _ (by omega),wu (by omega)];first|done|omega|rfl)|(simp only[wu (by omega)];first|done|omega|rfl)|(simp only[p7 _ (by omega)];first|omega|exact H2 (by omega))|(simp only[p7 _ (by omega),zU,zV,zW,zY,zZ];first|done|omega)|grind)
def aF(x:ag):Nat:=6+aG bj x.left.M+aG bj x.right.M+aG aD x.steps
def sY(x:ag):aF x=6+aG bj x.left.M+aG bj x.right.M+aG aD x.steps:=rfl
def bI(k:Int)(x:ag):ag:=⟨⟨k,k+1,c7 (k+1+1) x.left.M⟩,⟨k+1+1+(aG bj x.left.M:Int),k+1+1+(aG bj x.left.M:Int)+1,c7 (k+1+1+(aG bj x.left.M:Int)+1+1) x.right.M⟩,k+1+1+(aG bj x.left.M:Int)+1+1+(aG bj x.right.M:Int),k+1+1+(aG bj x.left.M:Int)+1+1+(aG bj x.right.M:Int)+1,iM aD bm (k+1+1+(aG bj x.left.M:Int)+1+1+(aG bj x.right.M:Int)+1+1) x.steps⟩
def a0N(k:Int)(x:ag):bI k x=⟨⟨k,k+1,c7 (k+1+1) x.left.M⟩,⟨k+1+1+(aG bj x.left.M:Int),k+1+1+(aG bj x.left.M:Int)+1,c7 (k+1+1+(aG bj x.left.M:Int)+1+1) x.right.M⟩,k+1+1+(aG bj x.left.M:Int)+1+1+(aG bj x.right.M:Int),k+1+1+(aG bj x.left.M:Int)+1+1+(aG bj x.right.M:Int)+1,iM aD bm (k+1+1+(aG bj x.left.M:Int)+1+1+(aG bj x.right.M:Int)+1+1) x.steps⟩:=rfl
def dY(k:Int)(xs:List ag)(i:Nat):List ag:=half (iM aF bI k xs) xs i
def WC(k:Int)(xs:List ag):xs=dY k xs 0:=sq _ _
def Yv(k:Int)(xs:List ag)(i:Nat)(h:xs.length<=i):dY k xs i=iM aF bI k xs:=Dw _ _ i (iN aF bI k xs) h
def LZ(k:Int)(xs:List ag)(i:Nat):(dY k xs i).length=xs.length:=ki _ _ i (iN aF bI k xs)
def Yw(k:Int)(xs:List ag)(i:Nat)(z:ag)(h:i<xs.length):(dY k xs i).getD i z=xs.getD i z:=yC _ _ z i (iN aF bI k xs) h
def Yx(k:Int)(xs:List ag)(i:Nat)(z y:ag)(h:i<xs.length):((dY k xs i).set i y).getD i z=y:=S7 _ i y z (by rw[LZ];exact h)
def OA(k:Int)(x:ag):ag:=(ag.mk (J.mk (k) x.left.aS x.left.M) x.right x.aM x.ref x.steps)
def OB(k:Int)(x:ag):ag:=(ag.mk (J.mk (k) (k+1) x.left.M) x.right x.aM x.ref x.steps)
def OC(k:Int)(x:ag):ag:=(ag.mk (J.mk (k) (k+1) (c7 (k+1+1) x.left.M)) x.right x.aM x.ref x.steps)
def OD(k:Int)(x:ag):ag:=(ag.mk (J.mk (k) (k+1) (c7 (k+1+1) x.left.M)) (J.mk (k+1+1+(aG bj x.left.M:Int)) x.right.aS x.right.M) x.aM x.ref x.steps)
def OE(k:Int)(x:ag):ag:=(ag.mk (J.mk (k) (k+1) (c7 (k+1+1) x.left.M)) (J.mk (k+1+1+(aG bj x.left.M:Int)) (k+1+1+(aG bj x.left.M:Int)+1) x.right.M) x.aM x.ref x.steps)
def OF(k:Int)(x:ag):ag:=(ag.mk (J.mk (k) (k+1) (c7 (k+1+1) x.left.M)) (J.mk (k+1+1+(aG bj x.left.M:Int)) (k+1+1+(aG bj x.left.M:Int)+1) (c7 (k+1+1+(aG bj x.left.M:Int)+1+1) x.right.M)) x.aM x.ref x.steps)
def OG(k:Int)(x:ag):ag:=(ag.mk (J.mk (k) (k+1) (c7 (k+1+1) x.left.M)) (J.mk (k+1+1+(aG bj x.left.M:Int)) (k+1+1+(aG bj x.left.M:Int)+1) (c7 (k+1+1+(aG bj x.left.M:Int)+1+1) x.right.M)) (k+1+1+(aG bj x.left.M:Int)+1+1+(aG bj x.right.M:Int)) x.ref x.steps)
def OH(k:Int)(x:ag):ag:=(ag.mk (J.mk (k) (k+1) (c7 (k+1+1) x.left.M)) (J.mk (k+1+1+(aG bj x.left.M:Int)) (k+1+1+(aG bj x.left.M:Int)+1) (c7 (k+1+1+(aG bj x.left.M:Int)+1+1) x.right.M)) (k+1+1+(aG bj x.left.M:Int)+1+1+(aG bj x.right.M:Int)) (k+1+1+(aG bj x.left.M:Int)+1+1+(aG bj x.right.M:Int)+1) x.steps)
def OI(k:Int)(x:ag):ag:=(ag.mk (J.mk (k) (k+1) (c7 (k+1+1) x.left.M)) (J.mk (k+1+1+(aG bj x.left.M:Int)) (k+1+1+(aG bj x.left.M:Int)+1) (c7 (k+1+1+(aG bj x.left.M:Int)+1+1) x.right.M)) (k+1+1+(aG bj x.left.M:Int)+1+1+(aG bj x.right.M:Int)) (k+1+1+(aG bj x.left.M:Int)+1+1+(aG bj x.right.M:Int)+1) (iM aD bm (k+1+1+(aG bj x.left.M:Int)+1+1+(aG bj x.right.M:Int)+1+1) x.steps))
def YY(k:Int)(x:ag):OI k x=bI k x:=(a0N k x).symm
def WB(k:Int)(xs:List ag)(i:Nat)(z:ag)(h:i<xs.length):(dY k xs i).set i (OI (k+(aG aF (xs.take i):Int)) (xs.getD i z))=dY k xs (i+1):=ZN aF bI k xs i z h _ (YY _ _)
def wR:MK:=⟨zB,⟨(.slice (.st .claim)),λ (xs:List ag) (k:Int)=>(some (0<=k/\k+(aG aF xs:Int)<=4611686018427387904),iM aF bI k xs,k+(aG aF xs:Int))⟩⟩
def Lo(xs:List ag)(k:Int):Nat->aA:=(cQ 0 (.mk (Nat) (λ i=>i<=xs.length) (λ i=>xs.length - i) [] [4] (λ i=>[(5, .aH ⟨(.int .i64),((i:Int):Int)⟩),(1, .aH ⟨(.int .i64),(k+(aG aF (xs.take i):Int):Int)⟩),(0, .av 50)]) [] (λ i=>[(50, .av (.st .claim) (dY k xs i:List ag))]) [] [] (λ i=>(cQ 100006 (.u (i<xs.length) [6,7,8,9,12,13,14,15,16,17] [(5, .aH ⟨(.int .i64),((i:Int):Int)⟩),(1, .aH ⟨(.int .i64),(k+(aG aF (xs.take i):Int)+1:Int)⟩),(0, .av 50)] [] [(50, .av (.st .claim) ((dY k xs i).set i (OA (k+(aG aF (xs.take i):Int)) (xs.getD i (ag.mk zE zE (0:Int) (0:Int) []))):List ag))] (cQ 100008 (.u (i<xs.length) [20,21,22,23,24,25] [(5, .aH ⟨(.int .i64),((i:Int):Int)⟩),(1, .aH ⟨(.int .i64),(k+(aG aF (xs.take i):Int)+1+1:Int)⟩),(0, .av 50)] [] [(50, .av (.st .claim) ((dY k xs i).set i (OB (k+(aG aF (xs.take i):Int)) (xs.getD i (ag.mk zE zE (0:Int) (0:Int) []))):List ag))] (cQ 100009 (.u (i<xs.length) [] [(5, .aH ⟨(.int .i64),((i:Int):Int)⟩),(1, .aH ⟨(.int .i64),(k+(aG aF (xs.take i):Int)+1+1+(aG bj (xs.getD i (ag.mk zE zE (0:Int) (0:Int) [])).left.M:Int):Int)⟩),(0, .av 50)] [] [(50, .av (.st .claim) ((dY k xs i).set i (OC (k+(aG aF (xs.take i):Int)) (xs.getD i (ag.mk zE zE (0:Int) (0:Int) []))):List ag))] (cQ 100011 (.u (i<xs.length) [36,37,38,39,40,41] [(5, .aH ⟨(.int .i64),((i:Int):Int)⟩),(1, .aH ⟨(.int .i64),(k+(aG aF (xs.take i):Int)+1+1+(aG bj (xs.getD i (ag.mk zE zE (0:Int) (0:Int) [])).left.M:Int)+1:Int)⟩),(0, .av 50)] [] [(50, .av (.st .claim) ((dY k xs i).set i (OD (k+(aG aF (xs.take i):Int)) (xs.getD i (ag.mk zE zE (0:Int) (0:Int) []))):List ag))] (cQ 100013 (.u (i<xs.length) [44,45,46,47,48,49] [(5, .aH ⟨(.int .i64),((i:Int):Int)⟩),(1, .aH ⟨(.int .i64),(k+(aG aF (xs.take i):Int)+1+1+(aG bj (xs.getD i (ag.mk zE zE (0:Int) (0:Int) [])).left.M:Int)+1+1:Int)⟩),(0, .av 50)] [] [(50, .av (.st .claim) ((dY k xs i).set i (OE (k+(aG aF (xs.take i):Int)) (xs.getD i (ag.mk zE zE (0:Int) (0:Int) []))):List ag))] (cQ 100014 (.u (i<xs.length) [] [(5, .aH ⟨(.int .i64),((i:Int):Int)⟩),(1, .aH ⟨(.int .i64),(k+(aG aF (xs.take i):Int)+1+1+(aG bj (xs.getD i (ag.mk zE zE (0:Int) (0:Int) [])).left.M:Int)+1+1+(aG bj (xs.getD i (ag.mk zE zE (0:Int) (0:Int) [])).right.M:Int):Int)⟩),(0, .av 50)] [] [(50, .av (.st .claim) ((dY k xs i).set i (OF (k+(aG aF (xs.take i):Int)) (xs.getD i (ag.mk zE zE (0:Int) (0:Int) []))):List ag))] (cQ 100016 (.u (i<xs.length) [60,61,62,63,64] [(5, .aH ⟨(.int .i64),((i:Int):Int)⟩),(1, .aH ⟨(.int .i64),(k+(aG aF (xs.take i):Int)+1+1+(aG bj (xs.getD i (ag.mk zE zE (0:Int) (0:Int) [])).left.M:Int)+1+1+(aG bj (xs.getD i (ag.mk zE zE (0:Int) (0:Int) [])).right.M:Int)+1:Int)⟩),(0, .av 50)] [] [(50, .av (.st .claim) ((dY k xs i).set i (OG (k+(aG aF (xs.take i):Int)) (xs.getD i (ag.mk zE zE (0:Int) (0:Int) []))):List ag))] (cQ 100018 (.u (i<xs.length) [67,68,69,70,71] [(5, .aH ⟨(.int .i64),((i:Int):Int)⟩),(1, .aH ⟨(.int .i64),(k+(aG aF (xs.take i):Int)+1+1+(aG bj (xs.getD i (ag.mk zE zE (0:Int) (0:Int) [])).left.M:Int)+1+1+(aG bj (xs.getD i (ag.mk zE zE (0:Int) (0:Int) [])).right.M:Int)+1+1:Int)⟩),(0, .av 50)] [] [(50, .av (.st .claim) ((dY k xs i).set i (OH (k+(aG aF (xs.take i):Int)) (xs.getD i (ag.mk zE zE (0:Int) (0:Int) []))):List ag))] bJ) bJ)) bJ)) bJ)) bJ)) bJ)) bJ)) bJ)) bJ))) bJ)
def FA:MK.Good wR:=by
 refine⟨ar wk,uf [] [] [o5,pH] [] [35,59,80] [] [] [] trivial trivial ⟨rI,zn,ae⟩ trivial wk Hi (λ xs k=>Lo xs k) (λ (xs:List ag) (k:Int)=>(let v0:=ag.mk zE zE (0:Int) (0:Int) [];let v1:=(1:Int);(((∃ i1:Nat,(i1<=xs.length/\((True/\(k=(k+(aG aF (xs.take i1):Int))/\((0:Int)=(i1:Int)/\True)))/\(xs=(dY k xs i1)/\True))))/\(∀ i1:Nat,let v2:=(aG aF (xs.take i1):Int);let v3:=xs.getD i1 v0;let v4:=dY k xs i1;let v5:=(aG bj v3.left.M:Int);let v6:=k+v2;let v7:=(aG bj v3.right.M:Int);let vc:=v4.set i1 (OA v6 v3);let vd:=v4.set i1 (OC v6 v3);let ve:=v4.set i1 (OD v6 v3);let vf:=k+v2+1+1+v5+1+1+v7+1+1;let vg:=v4.set i1 (OF v6 v3);let vh:=v4.set i1 (OG v6 v3);let vi:=k+v2+1+1+v5+1+1+v7+1;let vj:=k+v2+1+1+v5+1+1;let vk:=(i1:Int);let vb:=vk=vk/\True;let vl:=k+v2+1+1+v5+1+1+v7;let vm:=v4.set i1 (OB v6 v3);let v8:=vm.getD i1 v0;let vn:=v4.set i1 (OE v6 v3);let v9:=vn.getD i1 v0;let vo:=v4.set i1 (OH v6 v3);let va:=vo.getD i1 v0;let vp:=k+v2+1+1+v5+1;let vq:=v4.getD i1 v0;let vr:=vc.getD i1 v0;let vs:=vd.getD i1 v0;let vt:=ve.getD i1 v0;let vu:=k+v2+1+1+v5;let vv:=k+v2+1+1;let vw:=vg.getD i1 v0;let vx:=vh.getD i1 v0;let vy:=decide (vk<((v4.length:Int)));let vz:=(aG aD va.steps:Int);(i1<=xs.length->((vy=true->(ak vk v4.length/\((O (v6+v1)/\(∃ u2:Unit,(i1<xs.length/\((True/\((v6+v1)=(k+v2+1)/\vb))/\((v4.set i1 (ag.mk (J.mk v6 vq.left.aS vq.left.M) (aI vq.right) vq.aM vq.ref vq.steps))=vc/\True)))))/\(∀ u2:Unit,(i1<xs.length->(ak vk vc.length/\((O ((k+v2+1)+v1)/\(∃ u3:Unit,(i1<xs.length/\((True/\(((k+v2+1)+v1)=vv/\vb))/\((vc.set i1 (ag.mk (J.mk vr.left.aq (k+v2+1) vr.left.M) (aI vr.right) vr.aM vr.ref vr.steps))=vm/\True)))))/\(∀ u3:Unit,(i1<xs.length->((ak vk vm.length/\((0<=vv/\vv+(aG bj v8.left.M:Int)<=4611686018427387904)/\(∃ u4:Unit,(i1<xs.length/\((True/\((vv+(aG bj v8.left.M:Int))=vu/\vb))/\((vm.set i1 (ag.mk (J.mk v8.left.aq v8.left.aS (c7 vv v8.left.M)) (aI v8.right) v8.aM v8.ref v8.steps))=vd/\True))))))/\(∀ u4:Unit,(i1<xs.length->(ak vk vd.length/\((O (vu+v1)/\(∃ u5:Unit,(i1<xs.length/\((True/\((vu+v1)=vp/\vb))/\((vd.set i1 (ag.mk (aI vs.left) (J.mk vu vs.right.aS vs.right.M) vs.aM vs.ref vs.steps))=ve/\True)))))/\(∀ u5:Unit,(i1<xs.length->(ak vk ve.length/\((O (vp+v1)/\(∃ u6:Unit,(i1<xs.length/\((True/\((vp+v1)=vj/\vb))/\((ve.set i1 (ag.mk (aI vt.left) (J.mk vt.right.aq vp vt.right.M) vt.aM vt.ref vt.steps))=vn/\True)))))/\(∀ u6:Unit,(i1<xs.length->((ak vk vn.length/\((0<=vj/\vj+(aG bj v9.right.M:Int)<=4611686018427387904)/\(∃ u7:Unit,(i1<xs.length/\((True/\((vj+(aG bj v9.right.M:Int))=vl/\vb))/\((vn.set i1 (ag.mk (aI v9.left) (J.mk v9.right.aq v9.right.aS (c7 vj v9.right.M)) v9.aM v9.ref v9.steps))=vg/\True))))))/\(∀ u7:Unit,(i1<xs.length->(ak vk vg.length/\((O (vl+v1)/\(∃ u8:Unit,(i1<xs.length/\((True/\((vl+v1)=vi/\vb))/\((vg.set i1 (ag.mk (aI vw.left) (aI vw.right) vl vw.ref vw.steps))=vh/\True)))))/\(∀ u8:Unit,(i1<xs.length->(ak vk vh.length/\((O (vi+v1)/\(∃ u9:Unit,(i1<xs.length/\((True/\((vi+v1)=vf/\vb))/\((vh.set i1 (ag.mk (aI vx.left) (aI vx.right) vx.aM vi vx.steps))=vo/\True)))))/\(∀ u9:Unit,(i1<xs.length->(ak vk vo.length/\((0<=vf/\vf+vz<=4611686018427387904)/\(O (vk+v1)/\(∃ i10:Nat,(i10<=xs.length/\(xs.length - i10<xs.length - i1/\((True/\((vf+vz)=(k+(aG aF (xs.take i10):Int))/\((vk+v1)=(i10:Int)/\True)))/\((vo.set i1 (ag.mk (aI va.left) (aI va.right) va.aM va.ref (iM aD bm vf va.steps)))=(dY k xs i10)/\True)))))))))))))))))))))))))))))))))))))))/\(vy=false->(v6=(k+(aG aF xs:Int))/\v4=(iM aF bI k xs)))))))))) ?_⟩;intro (xs:List ag) (k:Int) (hp:0<=k/\k+(aG aF xs:Int)<=4611686018427387904) hk;have f0:=WC k xs;have f1:=iq aF xs;have f2:=RL aF (λ x=>by rw[sY];omega) xs;refine⟨⟨0,?_,⟨ae,?_,?_,ae⟩,?_,ae⟩,λ i1 _=>have C9:=Yv k xs i1;have p7:=Yx k xs i1 (ag.mk zE zE (0:Int) (0:Int) []);have wu:=Yw k xs i1 (ag.mk zE zE (0:Int) (0:Int) []);have H2:=WB k xs i1 (ag.mk zE zE (0:Int) (0:Int) []);have To:=LZ k xs i1;have VU:=fj aF (ag.mk zE zE (0:Int) (0:Int) []) xs i1;have Zc:=bZ aF xs i1;have Zd:=bZ aF xs (i1+1);have Ze:=gX aF xs i1;have a1t:=sY (xs.getD i1 (ag.mk zE zE (0:Int) (0:Int) []));⟨λ _=>⟨?_,⟨?_,(),?_,⟨ae,?_,rfl,ae⟩,?_,ae⟩,λ u2 _=>⟨?_,⟨?_,(),?_,⟨ae,?_,rfl,ae⟩,?_,ae⟩,λ u3 _=>⟨⟨?_,?_,(),?_,⟨ae,?_,rfl,ae⟩,?_,ae⟩,λ u4 _=>⟨?_,⟨?_,(),?_,⟨ae,?_,rfl,ae⟩,?_,ae⟩,λ u5 _=>⟨?_,⟨?_,(),?_,⟨ae,?_,rfl,ae⟩,?_,ae⟩,λ u6 _=>⟨⟨?_,?_,(),?_,⟨ae,?_,rfl,ae⟩,?_,ae⟩,λ u7 _=>⟨?_,⟨?_,(),?_,⟨ae,?_,rfl,ae⟩,?_,ae⟩,λ u8 _=>⟨?_,⟨?_,(),?_,⟨ae,?_,rfl,ae⟩,?_,ae⟩,λ u9 _=>⟨?_,?_,?_,i1+1,?_,?_,⟨ae,?_,?_,ae⟩,?_,ae⟩⟩⟩⟩⟩⟩⟩⟩⟩,λ _=>⟨?_,?_⟩⟩⟩;all_goals try and_intros
 all_goals try (first|with_reducible rfl|with_reducible assumption)
 all_goals try simp only[J.eta,ag.eta,au.eta,aK,br,bL] at *
 all_goals first|rfl|trivial|omega|(simp only[b7V,b5V,b4N,b4M,ak,O] at *;first|omega|exact C9 (by omega)|(simp only[p7 _ (by omega)];rfl)|(simp only[p7 _ (by omega),wu (by omega)];first|done|omega|rfl)|(simp only[wu (by omega)];first|done|omega|rfl)|(simp only[p7 _ (by omega)];first|omega|exact H2 (by omega))|(simp only[p7 _ (by omega),OA,OB,OC,OD,OE,OF,OG,OH,OI];first|done|omega)|grind)
def zp:MK:=⟨BH,⟨(.st .proof),λ (x:ai) (k:Int)=>(some (0<=k/\k+(aG aF x.af:Int)<=4611686018427387904),(ai.mk x.sig (iM aF bI k x.af)),k+(aG aF x.af:Int))⟩⟩
def NU(x:ai)(k:Int):Nat->aA:=bJ
def HG:MK.Good zp:=by
 refine⟨ar xP,uf [] [] [wR] [] [8] [] [] [] trivial trivial ⟨FA,ae⟩ trivial xP Ig (λ x k=>NU x k) (λ (x:ai) (k:Int)=>(let v0:=(aG aF x.af:Int);let v1:=ai.mk x.sig (iM aF bI k x.af);(((0<=k/\k+v0<=4611686018427387904)/\((k+v0)=(k+v0)/\v1=v1))))) ?_⟩;intro (x:ai) (k:Int) (hp:0<=k/\k+(aG aF x.af:Int)<=4611686018427387904) hk;refine⟨?_,⟨rfl,rfl⟩⟩;all_goals try and_intros
 all_goals first|rfl|trivial|omega|(simp only[b4N,b4M,ak,O,bT,cB,bG,bc] at *;omega)|(simp[ak,O] at *;omega)|grind
mutual
def a1y:∀ (k:Int) (x:J),bj (SG k x)=bj x
 | k,⟨a,b,ks⟩=>by
  have:=RJ (k+2) ks;simp only[SG,bj,this]
def RJ:∀ (k:Int) (xs:List J),B2 (c7 k xs)=B2 xs
 | _,[]=>rfl
 | k,x::xs=>by
  have h1:=a1y k x;have h2:=RJ (k+(bj x:Int)) xs;simp only[c7,B2,h1,h2]
end
mutual
def a9P:∀ (k:Int) (x:J),SG k (SG k x)=SG k x
 | k,⟨a,b,ks⟩=>by
  have:=QJ (k+2) ks;simp only[SG,this]
def QJ:∀ (k:Int) (xs:List J),c7 k (c7 k xs)=c7 k xs
 | _,[]=>rfl
 | k,x::xs=>by
  have h1:=a9P k x;have h2:=a1y k x;have h3:=QJ (k+(bj x:Int)) xs;simp only[c7,h1,h2,h3]
end
def jJ(k:Int)(xs:List J):Bool:=bH (c7 k xs) xs
def qu(k:Int)(xs:List J):Int:=bif jJ k xs then k+(aG bj xs:Int) else -1
def ss(k:Int)(xs:List J):(jJ k xs=true/\qu k xs=k+(aG bj xs:Int))\/(jJ k xs=false/\qu k xs = -1):=by
 unfold qu;cases jJ k xs<;>simp
def Xt(z:J):∀ (k:Int) (xs:List J) (i:Nat),i<xs.length->c7 k (xs.take (i+1))=c7 k (xs.take i)++[SG (k+(aG bj (xs.take i):Int)) (xs.getD i z)]
 | k,[],i,h=>by simp at h
 | k,x::xs,0,h=>by simp[c7,aG]
 | k,x::xs,i+1,h=>by
  have:=Xt z (k+(bj x:Int)) xs i (by simpa using h);simp only[List.take_succ_cons,c7,this,List.getD_cons_succ,aG,List.cons_append];congr 4;omega
def okX(k:Int)(x:J):Bool:=decide (x.aq=k)&&decide (x.aS=k+1)&&jJ (k+2) x.M
def a2w(k:Int)(x:J):okX k x=true↔SG k x=x:=by
 cases x;simp[okX,jJ,SG];constructor
 .rintro⟨⟨h1,h2⟩,h3⟩;exact⟨h1.symm,h2.symm,h3⟩
 .rintro⟨h1,h2,h3⟩;exact⟨⟨h1.symm,h2.symm⟩,h3⟩
def a4n(z:J)(k:Int)(xs:List J)(i:Nat)(h:i<xs.length):jJ k (xs.take (i+1))=(jJ k (xs.take i)&&okX (k+(aG bj (xs.take i):Int)) (xs.getD i z)):=by
 rw[b6O,b4S,a2w];simp only[jJ,iD];rw[Xt z k xs i h,cC z xs i h];constructor
 .intro e;have:=List.append_inj e (by rw[kv]);exact⟨this.1,by simpa using this.2⟩
 .rintro⟨e1,e2⟩;rw[e1,e2]
def a6r(z:J)(k:Int)(xs:List J)(i:Nat)(h:i<xs.length)(e:okX (k+(aG bj (xs.take i):Int)) (xs.getD i z)=false):jJ k xs=false:=by
 cases hb:jJ k xs with
 | false=>rfl
 | true =>
  have h1:=N6 z k xs i h;simp only[jJ,iD] at hb;rw[hb] at h1;have:=(a2w _ _).2 h1.symm;rw[e] at this;cases this
def a4m(k:Int)(xs:List J)(i:Nat)(h:xs.length<=i):jJ k (xs.take i)=jJ k xs:=by rw[b5o h]
def a4l(k:Int)(x:J):okX k x=(decide (x.aq=k)&&decide (x.aS=k+1)&&jJ (k+1+1) x.M):=by
 rw[okX,show k+2=k+1+1 by omega]
def kq(n:Nat):aN:=⟨qM,[.v (.slice (.st .expr)), .v (.int .i64)],λ (xs:List J) (k:Int)=>⟨(some (cd xs<n/\0<=k/\k+(aG bj xs:Int)<=4611686018427387904),[⟨(.int .i64),qu k xs⟩])⟩⟩
def qF:aN:=⟨qM,[.v (.slice (.st .expr)), .v (.int .i64)],λ (xs:List J) (k:Int)=>⟨(some (0<=k/\k+(aG bj xs:Int)<=4611686018427387904),[⟨(.int .i64),qu k xs⟩])⟩⟩
def Qt(xs:List J)(k:Int):Nat->aA:=(cQ 0 (.b (Nat) (λ i=>i<=xs.length/\jJ k (xs.take i)=true) (λ i=>xs.length - i) [] (λ i=>[(5, .aH ⟨(.int .i64),((i:Int):Int)⟩),(1, .aH ⟨(.int .i64),((k+(aG bj (xs.take i):Int)):Int)⟩)])) bJ)
def Og(n:Nat)(hE:bC [kq n]):aN.Good (kq (n+1)):=by
 refine⟨ar jY,?_⟩;intro (xs:List J) (k:Int) (hp:cd xs<n+1/\0<=k/\k+(aG bj xs:Int)<=4611686018427387904);refine aX [kq n] [] [] [] hE jY Ib (Qt xs k) (let v0:=(1:Int);let v1:=(xs.length:Int);let v2:=qu k xs;(((∃ i1:Nat,((i1<=xs.length/\jJ k (xs.take i1)=true)/\((xs=xs/\(k=(k+(aG bj (xs.take i1):Int))/\((0:Int)=(i1:Int)/\True)))/\True)))/\(∀ i1:Nat,let v3:=k+(aG bj (xs.take i1):Int);let v4:=xs.getD i1 zE;let v6:=(i1:Int);let v7:=(v3+v0)+v0;let v5:=qu v7 v4.M;let v8 := !(decide (v4.aS=(v3+v0)));((i1<=xs.length/\jJ k (xs.take i1)=true)->(O v1->(((decide (v6<v1))=true->(ak v6 xs.length/\(O v4.aq->(((!(decide (v4.aq=v3)))=true->(-1:Int)=v2)/\((!(decide (v4.aq=v3)))=false->(O (v3+v0)/\(ak v6 xs.length/\(O v4.aS->((v8=true->(-1:Int)=v2)/\(v8=false->(O v7/\(ak v6 xs.length/\(v4.M.length<=140737488355328->((cd v4.M<n/\0<=v7/\v7+(aG bj v4.M:Int)<=4611686018427387904)/\(O v5->(((decide (v5<(0:Int)))=true->(-1:Int)=v2)/\((decide (v5<(0:Int)))=false->(O (v6+v0)/\(∃ i2:Nat,((i2<=xs.length/\jJ k (xs.take i2)=true)/\(xs.length - i2<xs.length - i1/\((xs=xs/\(v5=(k+(aG bj (xs.take i2):Int))/\((v6+v0)=(i2:Int)/\True)))/\True))))))))))))))))))))))/\((decide (v6<v1))=false->v3=v2)))))))) ?_;have f0:jJ k (xs.take 0)=true:=by simp[jJ,c7]
 have f1:=iq bj xs;have f2:=ss k xs;refine⟨⟨0,?_,⟨rfl,?_,?_,ae⟩,ae⟩,λ i1 _=>have C9:=a4n zE k xs i1;have p7:=a6r zE k xs i1;have wu:=a4m k xs i1;have H2:=a4l (k+(aG bj (xs.take i1):Int)) (xs.getD i1 zE);have To:=ss ((k+(aG bj (xs.take i1):Int))+1+1) (xs.getD i1 zE).M;have VU:=fj bj zE xs i1;have Zc:=bZ bj xs i1;have Zd:=bZ bj xs (i1+1);have Ze:=gX bj xs i1;have a1t:=V4 (xs.getD i1 zE);have a0h:=ca zE xs i1;have a0i:=dk (xs.getD i1 zE);λ _=>⟨λ _=>⟨?_,λ _=>⟨λ _=>?_,λ _=>⟨?_,?_,λ _=>⟨λ _=>?_,λ _=>⟨?_,?_,λ _=>⟨?_,λ _=>⟨λ _=>?_,λ _=>⟨?_,i1+1,?_,?_,⟨rfl,?_,?_,ae⟩,ae⟩⟩⟩⟩⟩⟩⟩⟩,λ _=>?_⟩⟩;all_goals try and_intros
 all_goals first|rfl|trivial|omega|(simp only[b4N,b4M,ak,O,b5a,b5k] at *;first|omega|grind)
def HT :∀ n,bC [kq n]
 | 0=>⟨⟨ar jY,λ _ _ h=>absurd h.1 (b5H _)⟩,ae⟩
 | n+1=>by
  have ih:=HT  n;exact⟨Og n ⟨ih.1,ae⟩,ae⟩
def tD :aN.Good qF :=
 ⟨ar jY,λ xs k hp=>(HT  (cd xs+1)).1.2 xs k (⟨b5C _,hp⟩)⟩
theorem ZO{α:Type}(cJ:α->Nat)(mk:Int->α->α)(z:α):∀ (k:Int) (xs:List α) (i:Nat),i<xs.length->iM cJ mk k (xs.take (i+1))=iM cJ mk k (xs.take i)++[mk (k+(aG cJ (xs.take i):Int)) (xs.getD i z)]
 | k,[],i,h=>by simp at h
 | k,x::xs,0,h=>by simp[iM,aG]
 | k,x::xs,i+1,h=>by
  have:=ZO cJ mk z (k+(cJ x:Int)) xs i (by simpa using h);simp only[List.take_succ_cons,iM,this,List.getD_cons_succ,aG,List.cons_append];congr 4;omega
theorem Vo{α:Type}(cJ:α->Nat)(mk:Int->α->α)(h1:∀ k x,mk k (mk k x)=mk k x)(h2:∀ k x,cJ (mk k x)=cJ x):∀ (k:Int) (xs:List α),iM cJ mk k (iM cJ mk k xs)=iM cJ mk k xs/\aG cJ (iM cJ mk k xs)=aG cJ xs
 | _,[]=>⟨rfl,rfl⟩
 | k,x::xs=>by
  obtain⟨i1,i2⟩:=Vo cJ mk h1 h2 (k+(cJ x:Int)) xs;simp only[iM,aG,h1,h2,i1,i2,and_self]
theorem J8(k:Int)(xs:List J):aG bj (c7 k xs)=aG bj xs:=by
 have:=RJ k xs;rw[Dj,Dj] at this;exact this
theorem Xp:∀ (k:Int) (xs:List Int),eB k (eB k xs)=eB k xs
 | _,[]=>rfl
 | k,x::xs=>by simp only[eB,Xp (k+1) xs]
theorem a4i(k:Int)(xs:List Int):eY k xs=bH (eB k xs) xs:=by
 rw[b6O,iD];refine⟨λ h=>?_,λ h=>by rw[<-h];exact a4j k xs⟩;have h1:=(BN k xs).1 h;refine List.ext_getElem (fR k xs) λ i hi hi2=>?_;have h2:=xk k xs i 0 hi2;have h3:=h1 i hi2;rw[b5b,b5p hi] at h2;rw[b5b,b5p hi2] at h3;exact h2.trans h3.symm
theorem a6e(k:Int)(xs:List Int):(eY k xs=true/\IN k xs=k+(xs.length:Int))\/(eY k xs=false/\IN k xs = -1):=by
 unfold IN;cases eY k xs<;>simp
section
variable {α:Type} (cJ:α->Nat) (mk:Int->α->α)
def rl(k:Int)(xs:List α):Bool:=bH (iM cJ mk k xs) xs
def nT(k:Int)(xs:List α):Int:=bif rl cJ mk k xs then k+(aG cJ xs:Int) else -1
theorem Kd(k:Int)(xs:List α):(rl cJ mk k xs=true/\nT cJ mk k xs=k+(aG cJ xs:Int))\/(rl cJ mk k xs=false/\nT cJ mk k xs = -1):=by
 unfold nT;cases rl cJ mk k xs<;>simp
theorem ZR(z:α)(k:Int)(xs:List α)(i:Nat)(h:i<xs.length):rl cJ mk k (xs.take (i+1))=(rl cJ mk k (xs.take i)&&bH (mk (k+(aG cJ (xs.take i):Int)) (xs.getD i z)) (xs.getD i z)):=by
 rw[b6O,b4S];simp only[rl,iD];rw[ZO cJ mk z k xs i h,cC z xs i h];constructor
 .intro e;have:=List.append_inj e (by rw[iN]);exact⟨this.1,by simpa using this.2⟩
 .rintro⟨e1,e2⟩;rw[e1,e2]
theorem a2v(z:α)(k:Int)(xs:List α)(i:Nat)(h:i<xs.length)(e:bH (mk (k+(aG cJ (xs.take i):Int)) (xs.getD i z)) (xs.getD i z)=false):rl cJ mk k xs=false:=by
 cases hb:rl cJ mk k xs with
 | false=>rfl
 | true =>
  have h1:=SF cJ mk z k xs i h;simp only[rl,iD] at hb;rw[hb] at h1;have:=iD.2 h1.symm;rw[e] at this;cases this
theorem ZQ(k:Int)(xs:List α)(i:Nat)(h:xs.length<=i):rl cJ mk k (xs.take i)=rl cJ mk k xs:=by rw[b5o h]
end
theorem a9N(k:Int)(x:U):bm k (bm k x)=bm k x:=by
 simp only[bm,J8,QJ,Xp,fR]
theorem a7s(k:Int)(x:U):aD (bm k x)=aD x:=by
 simp only[bm,aD,J8,fR]
theorem Xs(k:Int)(xs:List U):iM aD bm k (iM aD bm k xs)=iM aD bm k xs/\aG aD (iM aD bm k xs)=aG aD xs:=Vo aD bm a9N a7s k xs
theorem a5o(k:Int)(x:ag):bI k (bI k x)=bI k x:=by
 simp only[bI,J8,QJ,(Xs _ _).1,(Xs _ _).2]
theorem a1x(k:Int)(x:ag):aF (bI k x)=aF x:=by
 simp only[bI,aF,J8,(Xs _ _).2]
theorem a3L(k:Int)(xs:List ag):nT aF bI k (iM aF bI k xs)=k+(aG aF xs:Int):=by
 obtain⟨h1,h2⟩:=Vo aF bI a5o a1x k xs;have:rl aF bI k (iM aF bI k xs)=true:=by
  unfold rl;rw[iD];exact h1
 unfold nT;rw[this,h2];rfl
theorem a4k(k:Int)(x:U):bH (bm k x) x=(decide (x.use=k)&&decide (x.back=decide ((k+1).tmod 3=0))&&eY (k+1+1) x.path&&jJ (k+1+1+(x.path.length:Int)) x.aw &&
  jJ (k+1+1+(x.path.length:Int)+(aG bj x.aw:Int)) x.bd):=by
 obtain⟨a,b,p,t,c⟩:=x;rw[b6O];simp only[jJ,a4i,iD,bm,b4S,b4N,U.mk.injEq];constructor
 .rintro⟨h1,h2,h3,h4,h5⟩;exact⟨⟨⟨⟨h1.symm,h2.symm⟩,h3⟩,h4⟩,h5⟩
 .rintro⟨⟨⟨⟨h1,h2⟩,h3⟩,h4⟩,h5⟩;exact⟨h1.symm,h2.symm,h3,h4,h5⟩
theorem a4h(k:Int)(x:ag):bH (bI k x) x=(decide (x.left.aq=k)&&decide (x.left.aS=k+1)&&jJ (k+1+1) x.left.M&&decide (x.right.aq=k+1+1+(aG bj x.left.M:Int)) &&
  decide (x.right.aS=k+1+1+(aG bj x.left.M:Int)+1)&&jJ (k+1+1+(aG bj x.left.M:Int)+1+1) x.right.M&&decide (x.aM=k+1+1+(aG bj x.left.M:Int)+1+1+(aG bj x.right.M:Int)) &&
  decide (x.ref=k+1+1+(aG bj x.left.M:Int)+1+1+(aG bj x.right.M:Int)+1)&&rl aD bm (k+1+1+(aG bj x.left.M:Int)+1+1+(aG bj x.right.M:Int)+1+1) x.steps):=by
 obtain⟨⟨a,b,l⟩,⟨c,d,r⟩,e,f,s⟩:=x;rw[b6O];simp only[rl,jJ,iD,bI,b4S,b4N,ag.mk.injEq,J.mk.injEq];constructor
 .rintro⟨⟨h1,h2,h3⟩,⟨h4,h5,h6⟩,h7,h8,h9⟩;exact⟨⟨⟨⟨⟨⟨⟨⟨h1.symm,h2.symm⟩,h3⟩,h4.symm⟩,h5.symm⟩,h6⟩,h7.symm⟩,h8.symm⟩,h9⟩
 .rintro⟨⟨⟨⟨⟨⟨⟨⟨h1,h2⟩,h3⟩,h4⟩,h5⟩,h6⟩,h7⟩,h8⟩,h9⟩;exact⟨⟨h1.symm,h2.symm,h3⟩,⟨h4.symm,h5.symm,h6⟩,h7.symm,h8.symm,h9⟩
def qG:aN:=⟨qN,[.v (.slice (.st .proofStep)), .v (.int .i64)],λ (xs:List U) (k:Int)=>⟨(some (0<=k/\k+(aG aD xs:Int)<=4611686018427387904),[⟨(.int .i64),nT aD bm k xs⟩])⟩⟩
def Fu(xs:List U)(k:Int):Nat->aA:=(cQ 0 (.b (Nat) (λ i=>i<=xs.length/\rl aD bm k (xs.take i)=true) (λ i=>xs.length - i) [] (λ i=>[(5, .aH ⟨(.int .i64),((i:Int):Int)⟩),(1, .aH ⟨(.int .i64),((k+(aG aD (xs.take i):Int)):Int)⟩)])) bJ)
theorem Ao:aN.Good qG:=by
 refine⟨ar pk,?_⟩;intro (xs:List U) (k:Int) (hp:0<=k/\k+(aG aD xs:Int)<=4611686018427387904);refine aX [zc,qF] [] [] [] ⟨Hr,tD,ae⟩ pk Af (Fu xs k) (let v1:=(1:Int);let v2:=nT aD bm k xs;let v3:=(0:Int);let v0:=U.mk v3 false [] [] [];let v4:=(xs.length:Int);(((∃ i1:Nat,((i1<=xs.length/\rl aD bm k (xs.take i1)=true)/\((xs=xs/\(k=(k+(aG aD (xs.take i1):Int))/\(v3=(i1:Int)/\True)))/\True)))/\(∀ i1:Nat,let v6:=k+(aG aD (xs.take i1):Int);let v7:=xs.getD i1 v0;let v9 := !(v7.back == (decide (((v6+v1).tmod (3:Int))=v3)));let va:=(i1:Int);let vc:=(v6+v1)+v1;let v5:=IN vc v7.path;let v8:=qu v5 v7.aw;let vb:=qu v8 v7.bd;((i1<=xs.length/\rl aD bm k (xs.take i1)=true)->(O v4->(((decide (va<v4))=true->(ak va xs.length/\(O v7.use->(((!(decide (v7.use=v6)))=true->(-1:Int)=v2)/\((!(decide (v7.use=v6)))=false->(O (v6+v1)/\(ak va xs.length/\(((3:Int)≠v3/\O ((v6+v1).tmod (3:Int)))/\((v9=true->(-1:Int)=v2)/\(v9=false->(O vc/\(ak va xs.length/\(v7.path.length<=140737488355328->((0<=vc/\vc+(v7.path.length:Int)<=4611686018427387904)/\(O v5->(((decide (v5<v3))=true->(-1:Int)=v2)/\((decide (v5<v3))=false->(ak va xs.length/\(v7.aw.length<=140737488355328->((0<=v5/\v5+(aG bj v7.aw:Int)<=4611686018427387904)/\(O v8->(((decide (v8<v3))=true->(-1:Int)=v2)/\((decide (v8<v3))=false->(ak va xs.length/\(v7.bd.length<=140737488355328->((0<=v8/\v8+(aG bj v7.bd:Int)<=4611686018427387904)/\(O vb->(((decide (vb<v3))=true->(-1:Int)=v2)/\((decide (vb<v3))=false->(O (va+v1)/\(∃ i2:Nat,((i2<=xs.length/\rl aD bm k (xs.take i2)=true)/\(xs.length - i2<xs.length - i1/\((xs=xs/\(vb=(k+(aG aD (xs.take i2):Int))/\((va+v1)=(i2:Int)/\True)))/\True))))))))))))))))))))))))))))))))))/\((decide (va<v4))=false->v6=v2)))))))) ?_;have f0:rl aD bm k (xs.take 0)=true:=by simp[rl,iM]
 have f1:=iq aD xs;have f2:=Kd aD bm k xs;refine⟨⟨0,?_,⟨rfl,?_,?_,ae⟩,ae⟩,λ i1 _=>have C9:=ZR aD bm (U.mk (0:Int) false [] [] []) k xs i1;have p7:=a2v aD bm (U.mk (0:Int) false [] [] []) k xs i1;have wu:=ZQ aD bm k xs i1;have H2:=a4k (k+(aG aD (xs.take i1):Int)) (xs.getD i1 (U.mk (0:Int) false [] [] []));have To:=a6e ((k+(aG aD (xs.take i1):Int))+1+1) (xs.getD i1 (U.mk (0:Int) false [] [] [])).path;have VU:=ss ((k+(aG aD (xs.take i1):Int))+1+1+((xs.getD i1 (U.mk (0:Int) false [] [] [])).path.length:Int)) (xs.getD i1 (U.mk (0:Int) false [] [] [])).aw;have Zc:=ss ((k+(aG aD (xs.take i1):Int))+1+1+((xs.getD i1 (U.mk (0:Int) false [] [] [])).path.length:Int)+(aG bj (xs.getD i1 (U.mk (0:Int) false [] [] [])).aw:Int)) (xs.getD i1 (U.mk (0:Int) false [] [] [])).bd;have Zd:=fj aD (U.mk (0:Int) false [] [] []) xs i1;have Ze:=bZ aD xs i1;have a1t:=bZ aD xs (i1+1);have a0h:=gX aD xs i1;have a0i:=lD (xs.getD i1 (U.mk (0:Int) false [] [] []));λ _=>⟨λ _=>⟨?_,λ _=>⟨λ _=>?_,λ _=>⟨?_,?_,⟨?_,?_⟩,λ _=>?_,λ _=>⟨?_,?_,λ _=>⟨?_,λ _=>⟨λ _=>?_,λ _=>⟨?_,λ _=>⟨?_,λ _=>⟨λ _=>?_,λ _=>⟨?_,λ _=>⟨?_,λ _=>⟨λ _=>?_,λ _=>⟨?_,i1+1,?_,?_,⟨rfl,?_,?_,ae⟩,ae⟩⟩⟩⟩⟩⟩⟩⟩⟩⟩⟩⟩⟩,λ _=>?_⟩⟩;all_goals try and_intros
 all_goals first|rfl|trivial|omega|(simp only[b4N,b4M,ak,O,b5a,b5k] at *;first|omega|grind)
def zb:aN:=⟨zz,[.v (.slice (.st .claim)), .v (.int .i64)],λ (xs:List ag) (k:Int)=>⟨(some (0<=k/\k+(aG aF xs:Int)<=4611686018427387904),[⟨(.int .i64),nT aF bI k xs⟩])⟩⟩
def NQ(xs:List ag)(k:Int):Nat->aA:=(cQ 0 (.b (Nat) (λ i=>i<=xs.length/\rl aF bI k (xs.take i)=true) (λ i=>xs.length - i) [] (λ i=>[(5, .aH ⟨(.int .i64),((i:Int):Int)⟩),(1, .aH ⟨(.int .i64),((k+(aG aF (xs.take i):Int)):Int)⟩)])) bJ)
theorem Hq:aN.Good zb:=by
 refine⟨ar wi,?_⟩;intro (xs:List ag) (k:Int) (hp:0<=k/\k+(aG aF xs:Int)<=4611686018427387904);refine aX [qF,qG] [] [] [] ⟨tD,Ao,ae⟩ wi Hg (NQ xs k) (let v1:=(1:Int);let v2:=nT aF bI k xs;let v3:=(-1:Int);let v4:=(0:Int);let v0:=ag.mk zE zE v4 v4 [];let v5:=(xs.length:Int);(((∃ i1:Nat,((i1<=xs.length/\rl aF bI k (xs.take i1)=true)/\((xs=xs/\(k=(k+(aG aF (xs.take i1):Int))/\(v4=(i1:Int)/\True)))/\True)))/\(∀ i1:Nat,let v8:=xs.getD i1 v0;let v9:=k+(aG aF (xs.take i1):Int);let vb:=(i1:Int);let vc:=(v9+v1)+v1;let v6:=qu vc v8.left.M;let vd:=(v6+v1)+v1;let v7:=qu vd v8.right.M;let ve:=(v7+v1)+v1;let va:=nT aD bm ve v8.steps;let vf := !(decide (v8.right.aS=(v6+v1)));let vg := !(decide (v8.left.aS=(v9+v1)));let vh := !(decide (v8.right.aq=v6));let vi := !(decide (v8.ref=(v7+v1)));let vj := !(decide (v8.left.aq=v9));((i1<=xs.length/\rl aF bI k (xs.take i1)=true)->(O v5->(((decide (vb<v5))=true->(ak vb xs.length/\(O v8.left.aq->((vj=true->v3=v2)/\(vj=false->(O (v9+v1)/\(ak vb xs.length/\(O v8.left.aS->((vg=true->v3=v2)/\(vg=false->(O vc/\(ak vb xs.length/\(v8.left.M.length<=140737488355328->((0<=vc/\vc+(aG bj v8.left.M:Int)<=4611686018427387904)/\(O v6->(((decide (v6<v4))=true->v3=v2)/\((decide (v6<v4))=false->(ak vb xs.length/\(O v8.right.aq->((vh=true->v3=v2)/\(vh=false->(O (v6+v1)/\(ak vb xs.length/\(O v8.right.aS->((vf=true->v3=v2)/\(vf=false->(O vd/\(ak vb xs.length/\(v8.right.M.length<=140737488355328->((0<=vd/\vd+(aG bj v8.right.M:Int)<=4611686018427387904)/\(O v7->(((decide (v7<v4))=true->v3=v2)/\((decide (v7<v4))=false->(ak vb xs.length/\(O v8.aM->(((!(decide (v8.aM=v7)))=true->v3=v2)/\((!(decide (v8.aM=v7)))=false->(O (v7+v1)/\(ak vb xs.length/\(O v8.ref->((vi=true->v3=v2)/\(vi=false->(O ve/\(ak vb xs.length/\(v8.steps.length<=140737488355328->((0<=ve/\ve+(aG aD v8.steps:Int)<=4611686018427387904)/\(O va->(((decide (va<v4))=true->v3=v2)/\((decide (va<v4))=false->(O (vb+v1)/\(∃ i2:Nat,((i2<=xs.length/\rl aF bI k (xs.take i2)=true)/\(xs.length - i2<xs.length - i1/\((xs=xs/\(va=(k+(aG aF (xs.take i2):Int))/\((vb+v1)=(i2:Int)/\True)))/\True))))))))))))))))))))))))))))))))))))))))))))))))))))))/\((decide (vb<v5))=false->v9=v2)))))))) ?_;have f0:rl aF bI k (xs.take 0)=true:=by simp[rl,iM]
 have f1:=iq aF xs;have f2:=Kd aF bI k xs;refine⟨⟨0,?_,⟨rfl,?_,?_,ae⟩,ae⟩,λ i1 _=>have C9:=ZR aF bI (ag.mk zE zE (0:Int) (0:Int) []) k xs i1;have p7:=a2v aF bI (ag.mk zE zE (0:Int) (0:Int) []) k xs i1;have wu:=ZQ aF bI k xs i1;have H2:=a4h (k+(aG aF (xs.take i1):Int)) (xs.getD i1 (ag.mk zE zE (0:Int) (0:Int) []));have To:=ss ((k+(aG aF (xs.take i1):Int))+1+1) (xs.getD i1 (ag.mk zE zE (0:Int) (0:Int) [])).left.M;have VU:=ss ((k+(aG aF (xs.take i1):Int))+1+1+(aG bj (xs.getD i1 (ag.mk zE zE (0:Int) (0:Int) [])).left.M:Int)+1+1) (xs.getD i1 (ag.mk zE zE (0:Int) (0:Int) [])).right.M;have Zc:=Kd aD bm ((k+(aG aF (xs.take i1):Int))+1+1+(aG bj (xs.getD i1 (ag.mk zE zE (0:Int) (0:Int) [])).left.M:Int)+1+1+(aG bj (xs.getD i1 (ag.mk zE zE (0:Int) (0:Int) [])).right.M:Int)+1+1) (xs.getD i1 (ag.mk zE zE (0:Int) (0:Int) [])).steps;have Zd:=fj aF (ag.mk zE zE (0:Int) (0:Int) []) xs i1;have Ze:=bZ aF xs i1;have a1t:=bZ aF xs (i1+1);have a0h:=gX aF xs i1;have a0i:=sY (xs.getD i1 (ag.mk zE zE (0:Int) (0:Int) []));λ _=>⟨λ _=>⟨?_,λ _=>⟨λ _=>?_,λ _=>⟨?_,?_,λ _=>⟨λ _=>?_,λ _=>⟨?_,?_,λ _=>⟨?_,λ _=>⟨λ _=>?_,λ _=>⟨?_,λ _=>⟨λ _=>?_,λ _=>⟨?_,?_,λ _=>⟨λ _=>?_,λ _=>⟨?_,?_,λ _=>⟨?_,λ _=>⟨λ _=>?_,λ _=>⟨?_,λ _=>⟨λ _=>?_,λ _=>⟨?_,?_,λ _=>⟨λ _=>?_,λ _=>⟨?_,?_,λ _=>⟨?_,λ _=>⟨λ _=>?_,λ _=>⟨?_,i1+1,?_,?_,⟨rfl,?_,?_,ae⟩,ae⟩⟩⟩⟩⟩⟩⟩⟩⟩⟩⟩⟩⟩⟩⟩⟩⟩⟩⟩⟩⟩⟩,λ _=>?_⟩⟩;all_goals try and_intros
 all_goals first|rfl|trivial|omega|(simp only[b4N,b4M,ak,O,b5a,b5k] at *;first|omega|grind)
def Bo:aN:=⟨BG,[.v (.st .proof), .v (.int .i64)],λ (x:ai) (k:Int)=>⟨(some (0<=k/\k+(aG aF x.af:Int)<=4611686018427387904),[⟨(.int .i64),nT aF bI k x.af⟩])⟩⟩
def Qu(x:ai)(k:Int):Nat->aA:=bJ
theorem IG:aN.Good Bo:=by
 refine⟨ar xO,?_⟩;intro (x:ai) (k:Int) (hp:0<=k/\k+(aG aF x.af:Int)<=4611686018427387904);refine aX [zb] [] [] [2] ⟨Hq,ae⟩ xO Ic (Qu x k) (let v0:=nT aF bI k x.af;((x.af.length<=140737488355328->((0<=k/\k+(aG aF x.af:Int)<=4611686018427387904)/\(O v0->(((decide (v0<(0:Int)))=true->(-1:Int)=v0)/\((decide (v0<(0:Int)))=false->v0=v0))))))) ?_;have f2:=Kd aF bI k x.af;refine λ _=>⟨?_,λ _=>⟨λ _=>?_,λ _=>rfl⟩⟩;all_goals try and_intros
 all_goals first|rfl|trivial|omega|(simp only[b4N,b4M,ak,O,b5a,b5k] at *;first|omega|grind)
mutual
def aO:J->Nat
 | ⟨_,_,ks⟩=>1+c9 ks
def c9:List J->Nat
 | []=>0
 | k::ks=>aO k+c9 ks
end
def TU:∀ xs,c9 xs=aG aO xs
 | []=>rfl
 | x::xs=>by rw[c9,aG,TU xs]
def zM(x:J):aO x=1+aG aO x.M:=by
 cases x;simp[aO,TU]
mutual
def bM:J->Nat
 | ⟨_,_,ks⟩=>1+x6 ks
def x6:List J->Nat
 | []=>0
 | k::ks=>max (bM k) (x6 ks)
end
def Tv:∀ xs,x6 xs=iL bM xs
 | []=>rfl
 | x::xs=>by rw[x6,iL,Tv xs]
def gU(x:J):bM x=1+iL bM x.M:=by
 cases x;simp[bM,Tv]
mutual
def Pw:∀ x:J,bM x<=aO x
 | ⟨k,n,ks⟩=>by
  have:=LO ks;simp only[bM,aO];omega
def LO:∀ xs:List J,x6 xs<=c9 xs
 | []=>by simp[x6]
 | x::xs=>by
  have h1:=Pw x;have h2:=LO xs;simp only[x6,c9];omega
end
def MW(k:Int):Bool:=decide (k=1)||decide (k=2)||decide (k=3)||decide (k=5)||decide (k=6)||decide (k=7)
mutual
def bq:J->Bool
 | ⟨k,_,ks⟩=>MW k&&Vh ks
def Vh:List J->Bool
 | []=>true
 | k::ks=>bq k&&Vh ks
end
def V6:∀ xs,Vh xs=bu bq xs
 | []=>rfl
 | x::xs=>by rw[Vh,bu,V6 xs]
def RM(x:J):bq x=(MW x.aq&&bu bq x.M):=by
 cases x;simp[bq,V6]
def cV(k:Int):Int:=if k=1\/k=2\/k=3\/k=4 then 0 else if k=5\/k=8 then 1 else if k=6\/k=7 then 2 else -1
def fO:aN:=⟨Jt,[.v (.int .i64), .v (.int .i64), .v (.int .i64)],λ (n:Int) (least:Int) (most:Int)=>⟨(none,[⟨.bool,decide (least<=n/\n<=most)⟩])⟩⟩
def W6(n:Int)(least:Int)(most:Int):Nat->aA:=bJ
def fY:aN.Good fO:=by
 refine⟨ar F3,?_⟩;intro (n:Int) (least:Int) (most:Int) _;refine aX [] [] [] [] trivial F3 Pe (W6 n least most) (let v0:=decide (least<=n/\n<=most);((((decide (least<=n))=true->((decide (n<=most))=v0))/\((decide (least<=n))=(!true)->(false=v0))))) ?_;refine⟨λ _=>?_,λ _=>?_⟩;all_goals try and_intros
 all_goals first|rfl|trivial|(simp_all;done)|(simp_all;omega)
def gI:aN:=⟨Ct,[.v (.int .i64), .v (.int .i64), .v (.int .i64)],λ (n:Int) (low:Int) (high:Int)=>⟨(none,[⟨.bool,decide (low<=n/\n<=high)⟩])⟩⟩
def YK(n:Int)(low:Int)(high:Int):Nat->aA:=bJ
def jy:aN.Good gI:=by
 refine⟨ar HY,?_⟩;intro (n:Int) (low:Int) (high:Int) _;refine aX [] [] [] [] trivial HY RD (YK n low high) (let v0:=decide (low<=n/\n<=high);((((decide (low<=n))=true->((decide (n<=high))=v0))/\((decide (low<=n))=(!true)->(false=v0))))) ?_;refine⟨λ _=>?_,λ _=>?_⟩;all_goals try and_intros
 all_goals first|rfl|trivial|(simp_all;done)|(simp_all;omega)
def mn:aN:=⟨Ju,[.v (.int .i64), .v (.int .i64)],λ (a:Int) (b:Int)=>⟨(none,[⟨(.int .i64),max a b⟩])⟩⟩
def Xa(a:Int)(b:Int):Nat->aA:=bJ
def A0:aN.Good mn:=by
 refine⟨ar F4,?_⟩;intro (a:Int) (b:Int) _;refine aX [] [] [] [] trivial F4 Ph (Xa a b) ((((decide (b<a))=true->a=(max a b))/\((decide (b<a))=false->b=(max a b)))) ?_;refine⟨λ _=>?_,λ _=>?_⟩;all_goals try and_intros
 all_goals first|rfl|trivial|(simp_all;omega)
def y7:aN:=⟨Jp,[.v (.int .i64)],λ (k:Int)=>⟨(none,[⟨(.int .i64),cV k⟩])⟩⟩
def W2(k:Int):Nat->aA:=bJ
abbrev DJ(k:Int):Prop:=(let v0:=decide (k=(6:Int));((v0=true ->
 ((v0=true ->
 (2:Int)=(cV k))/\(v0=false ->
 (-1:Int)=(cV k))))/\(v0=false ->
 (((decide (k=(7:Int)))=true ->
 (2:Int)=(cV k))/\((decide (k=(7:Int)))=false ->
 (-1:Int)=(cV k))))))
abbrev Sb(k:Int):Prop:=(let v0:=decide (k=(5:Int));((v0=true ->
 ((v0=true ->
 (1:Int)=(cV k))/\(v0=false ->
 (DJ k))))/\(v0=false ->
 (((decide (k=(8:Int)))=true ->
 (1:Int)=(cV k))/\((decide (k=(8:Int)))=false ->
 (DJ k))))))
def PS:aN.Good y7:=by
 refine⟨ar F0,?_⟩;intro (k:Int) _;refine aX [] [] [] [] trivial F0 Pa (W2 k) (let v0:=decide (k=(1:Int));let v1:=decide (k=(2:Int));let v2:=decide (k=(3:Int));let v3:=Sb k;(((v0=true->((v0=true->(0:Int)=(cV k))/\(v0=false->v3)))/\(v0=false->((v1=true->((v1=true->(0:Int)=(cV k))/\(v1=false->v3)))/\(v1=false->((v2=true->((v2=true->(0:Int)=(cV k))/\(v2=false->v3)))/\(v2=false->(((decide (k=(4:Int)))=true->(0:Int)=(cV k))/\((decide (k=(4:Int)))=false->v3)))))))))) ?_;refine⟨λ _=>⟨λ _=>?_,λ _=>⟨λ _=>⟨λ _=>?_,λ _=>⟨λ _=>⟨λ _=>?_,λ _=>?_⟩,λ _=>⟨λ _=>?_,λ _=>?_⟩⟩⟩,λ _=>⟨λ _=>?_,λ _=>⟨λ _=>⟨λ _=>?_,λ _=>?_⟩,λ _=>⟨λ _=>?_,λ _=>?_⟩⟩⟩⟩⟩,λ _=>⟨λ _=>⟨λ _=>?_,λ _=>⟨λ _=>⟨λ _=>?_,λ _=>⟨λ _=>⟨λ _=>?_,λ _=>?_⟩,λ _=>⟨λ _=>?_,λ _=>?_⟩⟩⟩,λ _=>⟨λ _=>?_,λ _=>⟨λ _=>⟨λ _=>?_,λ _=>?_⟩,λ _=>⟨λ _=>?_,λ _=>?_⟩⟩⟩⟩⟩,λ _=>⟨λ _=>⟨λ _=>?_,λ _=>⟨λ _=>⟨λ _=>?_,λ _=>⟨λ _=>⟨λ _=>?_,λ _=>?_⟩,λ _=>⟨λ _=>?_,λ _=>?_⟩⟩⟩,λ _=>⟨λ _=>?_,λ _=>⟨λ _=>⟨λ _=>?_,λ _=>?_⟩,λ _=>⟨λ _=>?_,λ _=>?_⟩⟩⟩⟩⟩,λ _=>⟨λ _=>?_,λ _=>⟨λ _=>⟨λ _=>?_,λ _=>⟨λ _=>⟨λ _=>?_,λ _=>?_⟩,λ _=>⟨λ _=>?_,λ _=>?_⟩⟩⟩,λ _=>⟨λ _=>?_,λ _=>⟨λ _=>⟨λ _=>?_,λ _=>?_⟩,λ _=>⟨λ _=>?_,λ _=>?_⟩⟩⟩⟩⟩⟩⟩⟩;all_goals try and_intros
 all_goals first|rfl|trivial|(simp only[decide_eq_true_eq,decide_eq_false_iff_not] at *;simp[cV, *];done)|(simp only[decide_eq_true_eq,decide_eq_false_iff_not] at *;unfold cV;repeat (first|omega|split))
def vK:aN:=⟨GU,[.v (.int .i64)],λ (k:Int)=>⟨(none,[⟨(.int .i64),cV k⟩])⟩⟩
def UF(k:Int):Nat->aA:=bJ
abbrev A7(k:Int):Prop:=(let v0:=decide (k=(6:Int));((v0=true ->
 ((v0=true ->
 (2:Int)=(cV k))/\(v0=false ->
 (-1:Int)=(cV k))))/\(v0=false ->
 (((decide (k=(7:Int)))=true ->
 (2:Int)=(cV k))/\((decide (k=(7:Int)))=false ->
 (-1:Int)=(cV k))))))
abbrev Qp(k:Int):Prop:=(let v0:=decide (k=(5:Int));((v0=true ->
 ((v0=true ->
 (1:Int)=(cV k))/\(v0=false ->
 (A7 k))))/\(v0=false ->
 (((decide (k=(8:Int)))=true ->
 (1:Int)=(cV k))/\((decide (k=(8:Int)))=false ->
 (A7 k))))))
def Nk:aN.Good vK:=by
 refine⟨ar CZ,?_⟩;intro (k:Int) _;refine aX [] [] [] [] trivial CZ MF (UF k) (let v0:=decide (k=(1:Int));let v1:=decide (k=(2:Int));let v2:=decide (k=(3:Int));let v3:=Qp k;(((v0=true->((v0=true->(0:Int)=(cV k))/\(v0=false->v3)))/\(v0=false->((v1=true->((v1=true->(0:Int)=(cV k))/\(v1=false->v3)))/\(v1=false->((v2=true->((v2=true->(0:Int)=(cV k))/\(v2=false->v3)))/\(v2=false->(((decide (k=(4:Int)))=true->(0:Int)=(cV k))/\((decide (k=(4:Int)))=false->v3)))))))))) ?_;refine⟨λ _=>⟨λ _=>?_,λ _=>⟨λ _=>⟨λ _=>?_,λ _=>⟨λ _=>⟨λ _=>?_,λ _=>?_⟩,λ _=>⟨λ _=>?_,λ _=>?_⟩⟩⟩,λ _=>⟨λ _=>?_,λ _=>⟨λ _=>⟨λ _=>?_,λ _=>?_⟩,λ _=>⟨λ _=>?_,λ _=>?_⟩⟩⟩⟩⟩,λ _=>⟨λ _=>⟨λ _=>?_,λ _=>⟨λ _=>⟨λ _=>?_,λ _=>⟨λ _=>⟨λ _=>?_,λ _=>?_⟩,λ _=>⟨λ _=>?_,λ _=>?_⟩⟩⟩,λ _=>⟨λ _=>?_,λ _=>⟨λ _=>⟨λ _=>?_,λ _=>?_⟩,λ _=>⟨λ _=>?_,λ _=>?_⟩⟩⟩⟩⟩,λ _=>⟨λ _=>⟨λ _=>?_,λ _=>⟨λ _=>⟨λ _=>?_,λ _=>⟨λ _=>⟨λ _=>?_,λ _=>?_⟩,λ _=>⟨λ _=>?_,λ _=>?_⟩⟩⟩,λ _=>⟨λ _=>?_,λ _=>⟨λ _=>⟨λ _=>?_,λ _=>?_⟩,λ _=>⟨λ _=>?_,λ _=>?_⟩⟩⟩⟩⟩,λ _=>⟨λ _=>?_,λ _=>⟨λ _=>⟨λ _=>?_,λ _=>⟨λ _=>⟨λ _=>?_,λ _=>?_⟩,λ _=>⟨λ _=>?_,λ _=>?_⟩⟩⟩,λ _=>⟨λ _=>?_,λ _=>⟨λ _=>⟨λ _=>?_,λ _=>?_⟩,λ _=>⟨λ _=>?_,λ _=>?_⟩⟩⟩⟩⟩⟩⟩⟩;all_goals try and_intros
 all_goals first|rfl|trivial|(simp only[decide_eq_true_eq,decide_eq_false_iff_not] at *;simp[cV, *];done)|(simp only[decide_eq_true_eq,decide_eq_false_iff_not] at *;unfold cV;repeat (first|omega|split))
def iJ(n:Nat):aN:=⟨nW,[.v (.st .expr)],λ (x:J)=>⟨(some (cd x<n),[⟨.bool,bq x⟩])⟩⟩
def fg:aN:=⟨nW,[.v (.st .expr)],λ (x:J)=>⟨(none,[⟨.bool,bq x⟩])⟩⟩
def Lj(x:J):Nat->aA:=(cQ 1 (.b (Nat) (λ k=>k<=x.M.length/\bu bq (x.M.take k)=true) (λ k=>x.M.length - k) [0,1,5,6,7,8,9,10,11,12,13,14] (λ k=>[(17, .aH ⟨(.int .i64),((k:Int):Int)⟩)])) bJ)
abbrev Hy(n:Nat)(x:J):Prop:=(let v0:=(x.M.length:Int);(x.M.length<=140737488355328 ->
 (O v0 ->
 ((∃ k1:Nat,((k1<=x.M.length/\bu bq (x.M.take k1)=true)/\((x.M=x.M/\(v0=v0/\((0:Int)=(k1:Int)/\True)))/\True)))/\(∀ k1:Nat,let v1:=aI (x.M.getD k1 zE);((k1<=x.M.length/\bu bq (x.M.take k1)=true) ->
 (((decide ((k1:Int)<v0))=true ->
 (ak (k1:Int) x.M.length/\(cd v1<n/\(((!(bq v1))=true ->
 false=(bq x))/\((!(bq v1))=false ->
 (O ((k1:Int)+(1:Int))/\(∃ k2:Nat,((k2<=x.M.length/\bu bq (x.M.take k2)=true)/\(x.M.length - k2<x.M.length - k1/\((x.M=x.M/\(v0=v0/\(((k1:Int)+(1:Int))=(k2:Int)/\True)))/\True))))))))))/\((decide ((k1:Int)<v0))=false ->
 true=(bq x)))))))))
def JM(n:Nat)(hE:bC [iJ n]):aN.Good (iJ (n+1)):=by
 refine⟨ar iz,?_⟩;intro (x:J) (hp:cd x<n+1);refine aX [iJ n] [] [] [1] hE iz ER (Lj x) (let v0:=Hy n x;let v1:=decide (x.aq=(1:Int));let v2:=decide (x.aq=(2:Int));let v3:=decide (x.aq=(3:Int));let v4:=decide (x.aq=(5:Int));let v5:=decide (x.aq=(6:Int));let v6:=bq x;((O x.aq->((v1=true->((v1=true->v0)/\(v1=false->false=v6)))/\(v1=false->((v2=true->((v2=true->v0)/\(v2=false->false=v6)))/\(v2=false->((v3=true->((v3=true->v0)/\(v3=false->false=v6)))/\(v3=false->((v4=true->((v4=true->v0)/\(v4=false->false=v6)))/\(v4=false->((v5=true->((v5=true->v0)/\(v5=false->false=v6)))/\(v5=false->(((decide (x.aq=(7:Int)))=true->v0)/\((decide (x.aq=(7:Int)))=false->false=v6))))))))))))))) ?_;have f0:=dk x;have f1:=all_zero bq x.M;refine λ _=>⟨λ _=>⟨λ _ _ _=>⟨⟨0,?_,⟨rfl,rfl,?_,ae⟩,ae⟩,λ k1 _=>have b2K:=dj bq zE x.M k1;have b2L:=dK bq zE x.M k1;have b2M:=dW bq x.M k1;have b4v:=ca zE x.M k1;⟨λ _=>⟨?_,?_,λ _=>?_,λ _=>⟨?_,k1+1,?_,?_,⟨rfl,rfl,?_,ae⟩,ae⟩⟩,λ _=>?_⟩⟩,λ _=>?_⟩,λ _=>⟨λ _=>⟨λ _ _ _=>⟨⟨0,?_,⟨rfl,rfl,?_,ae⟩,ae⟩,λ k1 _=>have b4w:=dj bq zE x.M k1;have b4x:=dK bq zE x.M k1;have b4y:=dW bq x.M k1;have b4z:=ca zE x.M k1;⟨λ _=>⟨?_,?_,λ _=>?_,λ _=>⟨?_,k1+1,?_,?_,⟨rfl,rfl,?_,ae⟩,ae⟩⟩,λ _=>?_⟩⟩,λ _=>?_⟩,λ _=>⟨λ _=>⟨λ _ _ _=>⟨⟨0,?_,⟨rfl,rfl,?_,ae⟩,ae⟩,λ k1 _=>have a7j:=dj bq zE x.M k1;have a7k:=dK bq zE x.M k1;have a7l:=dW bq x.M k1;have b0v:=ca zE x.M k1;⟨λ _=>⟨?_,?_,λ _=>?_,λ _=>⟨?_,k1+1,?_,?_,⟨rfl,rfl,?_,ae⟩,ae⟩⟩,λ _=>?_⟩⟩,λ _=>?_⟩,λ _=>⟨λ _=>⟨λ _ _ _=>⟨⟨0,?_,⟨rfl,rfl,?_,ae⟩,ae⟩,λ k1 _=>have b4A:=dj bq zE x.M k1;have b4B:=dK bq zE x.M k1;have b4C:=dW bq x.M k1;have b4D:=ca zE x.M k1;⟨λ _=>⟨?_,?_,λ _=>?_,λ _=>⟨?_,k1+1,?_,?_,⟨rfl,rfl,?_,ae⟩,ae⟩⟩,λ _=>?_⟩⟩,λ _=>?_⟩,λ _=>⟨λ _=>⟨λ _ _ _=>⟨⟨0,?_,⟨rfl,rfl,?_,ae⟩,ae⟩,λ k1 _=>have b0w:=dj bq zE x.M k1;have b0x:=dK bq zE x.M k1;have b0y:=dW bq x.M k1;have b2T:=ca zE x.M k1;⟨λ _=>⟨?_,?_,λ _=>?_,λ _=>⟨?_,k1+1,?_,?_,⟨rfl,rfl,?_,ae⟩,ae⟩⟩,λ _=>?_⟩⟩,λ _=>?_⟩,λ _=>⟨λ _ _ _=>⟨⟨0,?_,⟨rfl,rfl,?_,ae⟩,ae⟩,λ k1 _=>have b0w:=dj bq zE x.M k1;have b0x:=dK bq zE x.M k1;have b0y:=dW bq x.M k1;have b2T:=ca zE x.M k1;⟨λ _=>⟨?_,?_,λ _=>?_,λ _=>⟨?_,k1+1,?_,?_,⟨rfl,rfl,?_,ae⟩,ae⟩⟩,λ _=>?_⟩⟩,λ _=>?_⟩⟩⟩⟩⟩⟩;all_goals try and_intros
 all_goals try (first|with_reducible rfl|with_reducible assumption)
 all_goals try simp only[J.eta,ag.eta,au.eta,aK,br,bL] at *
 all_goals try rw[RM x]
 all_goals first|rfl|trivial|(simp only[b4N,b4M,ak,O] at *;omega)|(simp_all [MW];done)|(simp_all [MW,ak,O];omega)
def Tb :∀ n,bC [iJ n]
 | 0=>⟨⟨ar iz,λ _ h=>absurd h (b5H _)⟩,ae⟩
 | n+1=>by
  have ih:=Tb  n;exact⟨JM n ⟨ih.1,ae⟩,ae⟩
def gB :aN.Good fg :=
 ⟨ar iz,λ x hp=>(Tb  (cd x+1)).1.2 x (b5C _)⟩
def hH(n:Nat):aN:=⟨iO,[.r (.st .expr)],λ (x:J)=>⟨(some (cd x<n),[⟨.bool,bq x⟩])⟩⟩
def iI:aN:=⟨iO,[.r (.st .expr)],λ (x:J)=>⟨(none,[⟨.bool,bq x⟩])⟩⟩
def Jc(x:J):Nat->aA:=(cQ 0 (.b (Nat) (λ k=>k<=x.M.length/\bu bq (x.M.take k)=true) (λ k=>x.M.length - k) [4,5,6,7,8,9,10,11,12,13,14,15,16] (λ k=>[(3, .aH ⟨(.int .i64),((k:Int):Int)⟩)])) bJ)
abbrev qz(n:Nat)(x:J):Prop:=(let v0:=(x.M.length:Int);((∃ k1:Nat,((k1<=x.M.length/\bu bq (x.M.take k1)=true)/\((x=x/\((0:Int)=(k1:Int)/\True))/\True)))/\(∀ k1:Nat,let v1:=x.M.getD k1 zE;((k1<=x.M.length/\bu bq (x.M.take k1)=true) ->
 (x.M.length<=140737488355328 ->
 (O v0 ->
 (((decide ((k1:Int)<v0))=true ->
 (x.M.length<=140737488355328 ->
 (ak (k1:Int) x.M.length/\(cd v1<n/\(((!(bq v1))=true ->
 false=(bq x))/\((!(bq v1))=false ->
 (O ((k1:Int)+(1:Int))/\(∃ k2:Nat,((k2<=x.M.length/\bu bq (x.M.take k2)=true)/\(x.M.length - k2<x.M.length - k1/\((x=x/\(((k1:Int)+(1:Int))=(k2:Int)/\True))/\True)))))))))))/\((decide ((k1:Int)<v0))=false ->
 true=(bq x)))))))))
def HN(n:Nat)(hE:bC [hH n,gI]):aN.Good (hH (n+1)):=by
 refine⟨ar gZ,?_⟩;intro (x:J) (hp:cd x<n+1);refine aX [hH n,gI] [] [] [] hE gZ De (Jc x) (let v0 := !(decide ((1:Int)<=x.aq/\x.aq<=(7:Int)));((O x.aq->(((v0=false)->(O x.aq->(((decide (x.aq=(4:Int)))=true->false=(bq x))/\((decide (x.aq=(4:Int)))=false->(qz n x)))))/\((v0=(!false))->((true=true->false=(bq x))/\(true=false->(qz n x)))))))) ?_;have f0:=dk x;have f1:=all_zero bq x.M;refine λ _=>⟨λ _ _=>⟨λ _=>?_,λ _=>⟨⟨0,?_,⟨rfl,?_,ae⟩,ae⟩,λ k1 _=>have b2G:=dj bq zE x.M k1;have b2H:=dK bq zE x.M k1;have b2I:=dW bq x.M k1;have b2J:=ca zE x.M k1;λ _ _=>⟨λ _ _=>⟨?_,?_,λ _=>?_,λ _=>⟨?_,k1+1,?_,?_,⟨rfl,?_,ae⟩,ae⟩⟩,λ _=>?_⟩⟩⟩,λ _=>⟨λ _=>?_,λ _=>⟨⟨0,?_,⟨rfl,?_,ae⟩,ae⟩,λ k1 _=>have a4Q:=dj bq zE x.M k1;have a4R:=dK bq zE x.M k1;have b2F:=dW bq x.M k1;have b4u:=ca zE x.M k1;λ _ _=>⟨λ _ _=>⟨?_,?_,λ _=>?_,λ _=>⟨?_,k1+1,?_,?_,⟨rfl,?_,ae⟩,ae⟩⟩,λ _=>?_⟩⟩⟩⟩;all_goals try and_intros
 all_goals try rw[RM x]
 all_goals first|rfl|trivial|(simp only[b4N,b4M,ak,O] at *;omega)|(simp_all [MW];done)|(simp_all [MW,ak,O];omega)
def Tc :∀ n,bC [hH n]
 | 0=>⟨⟨ar gZ,λ _ h=>absurd h (b5H _)⟩,ae⟩
 | n+1=>by
  have ih:=Tc  n;exact⟨HN n ⟨ih.1,jy,ae⟩,ae⟩
def jz :aN.Good iI :=
 ⟨ar gZ,λ x hp=>(Tc  (cd x+1)).1.2 x (b5C _)⟩
def oV(t a:Int)(x:J):Bool:=decide (cV x.aq=(x.M.length:Int)) &&
 (if x.aq=3 then decide (0<=x.aS/\x.aS<=t) else if x.aq=4 then decide (0<=x.aS/\x.aS<=a) else decide (x.aS=0)) &&
 (!decide (x.aq=5)||bq (x.M.getD 0 ⟨0,0,[]⟩))
mutual
def bg(t a:Int):J->Bool
 | ⟨k,n,ks⟩=>oV t a ⟨k,n,ks⟩&&nw t a ks
def nw(t a:Int):List J->Bool
 | []=>true
 | k::ks=>bg t a k&&nw t a ks
end
def Yj(t a:Int):∀ xs,nw t a xs=bu (bg t a) xs
 | []=>rfl
 | x::xs=>by rw[nw,bu,Yj t a xs]
def iu(t a:Int)(x:J):bg t a x=(oV t a x&&bu (bg t a) x.M):=by
 cases x;simp[bg,Yj]
def bo(n:Int):Int:=IntKind.wrap .i64 (n - 1)
def FK(n:Int)(h : -9223372036854775807<=n/\n<=9223372036854775807):bo n=n - 1:=by
 simp[bo,IntKind.wrap,IntKind.signed,IntKind.bits];omega
def mZ(n:Nat):aN:=⟨vV,[.r (.st .expr), .v (.int .i64)],λ (x:J) (left:Int)=>⟨(some (cd x<n/\0<=left/\left<=1048576),[⟨(.int .i64),fE (aO x) left⟩])⟩⟩
def Gv:aN:=⟨vV,[.r (.st .expr), .v (.int .i64)],λ (x:J) (left:Int)=>⟨(some (0<=left/\left<=1048576),[⟨(.int .i64),fE (aO x) left⟩])⟩⟩
def UG(x:J)(left:Int):Nat->aA:=(cQ 0 (.b (Nat) (λ k=>k<=x.M.length) (λ k=>x.M.length - k) [4,6,7] (λ k=>[(5, .aH ⟨(.int .i64),((k:Int):Int)⟩),(1, .aH ⟨(.int .i64),(fE (1+aG aO (x.M.take k)) left:Int)⟩)])) bJ)
abbrev A8(n:Nat)(x:J)(left:Int)(k1:Nat):Prop:=(let v0:=fE (1+aG aO (x.M.take k1)) left;let v1:=fE (aO (x.M.getD k1 zE)) v0;(x.M.length<=140737488355328 ->
 (ak (k1:Int) x.M.length/\((cd (x.M.getD k1 zE)<n/\0<=v0/\v0<=1048576)/\(O v1 ->
 (O ((k1:Int)+(1:Int))/\(∃ k2:Nat,(k2<=x.M.length/\(x.M.length - k2<x.M.length - k1/\((x=x/\(v1=(fE (1+aG aO (x.M.take k2)) left)/\(((k1:Int)+(1:Int))=(k2:Int)/\True)))/\True))))))))))
def SR(n:Nat)(hE:bC [mZ n]):aN.Good (mZ (n+1)):=by
 refine⟨ar mI,?_⟩;intro (x:J) (left:Int) (hp:cd x<n+1/\0<=left/\left<=1048576);refine aX [mZ n] [] [] [] hE mI MG (UG x left) (let v0:=(x.M.length:Int);((O (left - (1:Int))/\((∃ k1:Nat,(k1<=x.M.length/\((x=x/\((left - (1:Int))=(fE (1+aG aO (x.M.take k1)) left)/\((0:Int)=(k1:Int)/\True)))/\True)))/\(∀ k1:Nat,let v1:=fE (1+aG aO (x.M.take k1)) left;(k1<=x.M.length->(x.M.length<=140737488355328->(O v0->(((decide ((k1:Int)<v0))=true->(((decide ((0:Int)<=v1))=true->(A8 n x left k1))/\((decide ((0:Int)<=v1))=false->v1=(fE (aO x) left))))/\((decide ((k1:Int)<v0))=(!true)->((false=true->(A8 n x left k1))/\(false=false->v1=(fE (aO x) left))))))))))))) ?_;have f0:=dk x;have f1:=iq aO x.M;have f2:=eo (1+aG aO (x.M.take 0)) left;refine⟨?_,⟨0,?_,⟨rfl,?_,?_,ae⟩,ae⟩,λ k1 _=>have C9:=fj aO zE x.M k1;have p7:=bZ aO x.M k1;have wu:=bZ aO x.M (k1+1);have H2:=gX aO x.M k1;have To:=ca zE x.M k1;have VU:=eo (1+aG aO (x.M.take k1)) left;have Zc:=eo (1+aG aO (x.M.take (k1+1))) left;have Zd:=eo (aO (x.M.getD k1 zE)) (fE (1+aG aO (x.M.take k1)) left);have Ze:=eo (1+aG aO x.M) left;λ _ _=>⟨λ _=>⟨λ _ _=>⟨?_,?_,λ _=>⟨?_,k1+1,?_,?_,⟨rfl,?_,?_,ae⟩,ae⟩⟩,λ _=>?_⟩,λ _=>⟨λ _ _=>⟨?_,?_,λ _=>⟨?_,k1+1,?_,?_,⟨rfl,?_,?_,ae⟩,ae⟩⟩,λ _=>?_⟩⟩⟩;all_goals try and_intros
 all_goals try rw[zM x]
 all_goals first|rfl|trivial|omega|(simp only[b4N,b4M,ak,O,bT,cB,bG,bc] at *;omega)|(simp[ak,O] at *;omega)|grind
def Td :∀ n,bC [mZ n]
 | 0=>⟨⟨ar mI,λ _ _ h=>absurd h.1 (b5H _)⟩,ae⟩
 | n+1=>by
  have ih:=Td  n;exact⟨SR n ⟨ih.1,ae⟩,ae⟩
def Nl :aN.Good Gv :=
 ⟨ar mI,λ x left hp=>(Td  (cd x+1)).1.2 x left (⟨b5C _,hp⟩)⟩
def lH(n:Nat):aN:=⟨sM,[.r (.st .expr)],λ (x:J)=>⟨(some (cd x<n/\bM x<=1048576),[⟨(.int .i64),(bM x:Int)⟩])⟩⟩
def DU:aN:=⟨sM,[.r (.st .expr)],λ (x:J)=>⟨(some (bM x<=1048576),[⟨(.int .i64),(bM x:Int)⟩])⟩⟩
def Ss(x:J):Nat->aA:=(cQ 0 (.b (Nat) (λ k=>k<=x.M.length) (λ k=>x.M.length - k) [2] (λ k=>[(4, .aH ⟨(.int .i64),((k:Int):Int)⟩),(3, .aH ⟨(.int .i64),((iL bM (x.M.take k):Int):Int)⟩)])) bJ)
def QT(n:Nat)(hE:bC [lH n,mn]):aN.Good (lH (n+1)):=by
 refine⟨ar lC,?_⟩;intro (x:J) (hp:cd x<n+1/\bM x<=1048576);refine aX [lH n,mn] [] [] [] hE lC KM (Ss x) (let v0:=(x.M.length:Int);(((∃ k1:Nat,(k1<=x.M.length/\((x=x/\((0:Int)=(iL bM (x.M.take k1):Int)/\((0:Int)=(k1:Int)/\True)))/\True)))/\(∀ k1:Nat,let v1:=(iL bM (x.M.take k1):Int);let v3:=x.M.getD k1 zE;let v2:=(bM v3:Int);(k1<=x.M.length->(x.M.length<=140737488355328->(O v0->(((decide ((k1:Int)<v0))=true->(x.M.length<=140737488355328->(ak (k1:Int) x.M.length/\((cd v3<n/\bM v3<=1048576)/\(O v2->(O (max v1 v2)->(O ((k1:Int)+(1:Int))/\(∃ k2:Nat,(k2<=x.M.length/\(x.M.length - k2<x.M.length - k1/\((x=x/\((max v1 v2)=(iL bM (x.M.take k2):Int)/\(((k1:Int)+(1:Int))=(k2:Int)/\True)))/\True)))))))))))/\((decide ((k1:Int)<v0))=false->(O (v1+(1:Int))/\(v1+(1:Int))=(bM x:Int))))))))))) ?_;rw[gU x] at hp;have f0:=dk x;have f1:=Xn bM x.M;refine⟨⟨0,?_,⟨rfl,?_,?_,ae⟩,ae⟩,λ k1 _=>have C9:=sH bM zE x.M k1;have p7:=jc bM x.M k1;have wu:=jc bM x.M (k1+1);have H2:=Ea bM x.M k1;have To:=ca zE x.M k1;have VU:=sG bM zE x.M k1;λ _ _=>⟨λ _ _=>⟨?_,?_,λ _ _=>⟨?_,k1+1,?_,?_,⟨rfl,?_,?_,ae⟩,ae⟩⟩,λ _=>⟨?_,?_⟩⟩⟩;all_goals try and_intros
 all_goals try rw[gU x]
 all_goals first|rfl|trivial|omega|(simp only[b4N,b4M,ak,O,bT,cB,bG,bc] at *;omega)|(simp[ak,O] at *;omega)|grind
def OY :∀ n,bC [lH n]
 | 0=>⟨⟨ar lC,λ _ h=>absurd h.1 (b5H _)⟩,ae⟩
 | n+1=>by
  have ih:=OY  n;exact⟨QT n ⟨ih.1,A0,ae⟩,ae⟩
def K5 :aN.Good DU :=
 ⟨ar lC,λ x hp=>(OY  (cd x+1)).1.2 x (⟨b5C _,hp⟩)⟩
def ng(n:Nat):aN:=⟨vY,[.v (.st .sig), .r (.st .expr)],λ (gg:aW) (x:J)=>⟨(some (cd x<n),[⟨.bool,bg (bo gg.aw) (bo gg.bh) x⟩])⟩⟩
def Gw:aN:=⟨vY,[.v (.st .sig), .r (.st .expr)],λ (gg:aW) (x:J)=>⟨(none,[⟨.bool,bg (bo gg.aw) (bo gg.bh) x⟩])⟩⟩
def UJ(gg:aW)(x:J):Nat->aA:=(cQ 1 (.b (Nat) (λ k=>k<=x.M.length/\bu (bg (bo gg.aw) (bo gg.bh)) (x.M.take k)=true) (λ k=>x.M.length - k) [0,6,7,8,9,10,11,12,13,14,15,16,17,18,19,20,21,22,31,32,41,42,43,44,45,46,47,48,49,50,51,52,53,54,55,56,57,58,59,60,61] (λ k=>[(5, .aH ⟨(.int .i64),((k:Int):Int)⟩)])) bJ)
abbrev Qq(n:Nat)(gg:aW)(x:J):Prop:=(let v0:=bo gg.bh;let v1:=bo gg.aw;let v2:=(x.M.length:Int);((∃ k1:Nat,((k1<=x.M.length/\bu (bg v1 v0) (x.M.take k1)=true)/\((x=x/\(gg=gg/\((0:Int)=(k1:Int)/\True)))/\True)))/\(∀ k1:Nat,let v3 := !(bg v1 v0 (x.M.getD k1 zE));((k1<=x.M.length/\bu (bg v1 v0) (x.M.take k1)=true) ->
 (x.M.length<=140737488355328 ->
 (O v2 ->
 (((decide ((k1:Int)<v2))=true ->
 (ak (k1:Int) x.M.length/\(x.M.length<=140737488355328 ->
 (cd (x.M.getD k1 zE)<n/\((v3=true ->
 false=(bg v1 v0 x))/\(v3=false ->
 (O ((k1:Int)+(1:Int))/\(∃ k2:Nat,((k2<=x.M.length/\bu (bg v1 v0) (x.M.take k2)=true)/\(x.M.length - k2<x.M.length - k1/\((x=x/\(gg=gg/\(((k1:Int)+(1:Int))=(k2:Int)/\True)))/\True)))))))))))/\((decide ((k1:Int)<v2))=false ->
 true=(bg v1 v0 x)))))))))
def SV(n:Nat)(hE:bC [ng n,vK,gI,iI]):aN.Good (ng (n+1)):=by
 refine⟨ar mL,?_⟩;intro (gg:aW) (x:J) (hp:cd x<n+1);refine aX [ng n,vK,gI,iI] [29,39] [] [2] hE mL MJ (UJ gg x) (let v0:=bg (bo gg.aw) (bo gg.bh) x;let v1 := !(decide (((x.M.length:Int))=(cV x.aq)));let v2:=Qq n gg x;let v3 := !(decide (x.aS=(0:Int)));((x.M.length<=140737488355328->(O ((x.M.length:Int))->(O x.aq->(O (cV x.aq)->((v1=true->false=v0)/\(v1=false->(O x.aq->(((decide (x.aq=(3:Int)))=true->(O x.aS->(O gg.aw->((decide ((0:Int)<=x.aS/\x.aS<=(IntKind.wrap .i64 (gg.aw - (1:Int)))))=v0))))/\((decide (x.aq=(3:Int)))=false->(((decide (x.aq=(4:Int)))=true->(O x.aS->(O gg.bh->((decide ((0:Int)<=x.aS/\x.aS<=(IntKind.wrap .i64 (gg.bh - (1:Int)))))=v0))))/\((decide (x.aq=(4:Int)))=false->(O x.aS->((v3=false->(O x.aq->(((decide (x.aq=(5:Int)))=true->(x.M.length<=140737488355328->(ak (0:Int) x.M.length/\(((!(bq (x.M.getD 0 zE)))=true->false=v0)/\((!(bq (x.M.getD 0 zE)))=false->v2)))))/\((decide (x.aq=(5:Int)))=(!true)->((false=true->false=v0)/\(false=false->v2))))))/\(v3=(!false)->((true=true->false=v0)/\(true=false->v2)))))))))))))))))) ?_;have f0:=dk x;have f1:=all_zero (bg (bo gg.aw) (bo gg.bh)) x.M;refine λ _ _ _ _=>⟨λ _=>?_,λ _ _=>⟨λ _ _ _=>?_,λ _=>⟨λ _ _ _=>?_,λ _ _=>⟨λ _ _=>⟨λ _ _=>⟨?_,λ _=>?_,λ _=>⟨⟨0,?_,⟨rfl,rfl,?_,ae⟩,ae⟩,λ k1 _=>have b4m:=dj (bg (bo gg.aw) (bo gg.bh)) zE x.M k1;have b4n:=dK (bg (bo gg.aw) (bo gg.bh)) zE x.M k1;have b4o:=dW (bg (bo gg.aw) (bo gg.bh)) x.M k1;have b4p:=ca zE x.M k1;λ _ _=>⟨λ _=>⟨?_,λ _=>⟨?_,λ _=>?_,λ _=>⟨?_,k1+1,?_,?_,⟨rfl,rfl,?_,ae⟩,ae⟩⟩⟩,λ _=>?_⟩⟩⟩,λ _=>⟨λ _=>?_,λ _=>⟨⟨0,?_,⟨rfl,rfl,?_,ae⟩,ae⟩,λ k1 _=>have b4i:=dj (bg (bo gg.aw) (bo gg.bh)) zE x.M k1;have b4j:=dK (bg (bo gg.aw) (bo gg.bh)) zE x.M k1;have b4k:=dW (bg (bo gg.aw) (bo gg.bh)) x.M k1;have b4l:=ca zE x.M k1;λ _ _=>⟨λ _=>⟨?_,λ _=>⟨?_,λ _=>?_,λ _=>⟨?_,k1+1,?_,?_,⟨rfl,rfl,?_,ae⟩,ae⟩⟩⟩,λ _=>?_⟩⟩⟩⟩,λ _=>⟨λ _=>?_,λ _=>⟨⟨0,?_,⟨rfl,rfl,?_,ae⟩,ae⟩,λ k1 _=>have a3m:=dj (bg (bo gg.aw) (bo gg.bh)) zE x.M k1;have a3n:=dK (bg (bo gg.aw) (bo gg.bh)) zE x.M k1;have a3o:=dW (bg (bo gg.aw) (bo gg.bh)) x.M k1;have a7i:=ca zE x.M k1;λ _ _=>⟨λ _=>⟨?_,λ _=>⟨?_,λ _=>?_,λ _=>⟨?_,k1+1,?_,?_,⟨rfl,rfl,?_,ae⟩,ae⟩⟩⟩,λ _=>?_⟩⟩⟩⟩⟩⟩⟩;all_goals try and_intros
 all_goals try rw[iu _ _ x]
 all_goals first|rfl|trivial|(simp only[decide_eq_true_eq,decide_eq_false_iff_not,ak,O] at *;omega)|(simp_all [oV,bo];done)|(simp_all [oV,bo,ak,O];omega)|grind [oV,bo,cV,ak,O]
def Tg :∀ n,bC [ng n]
 | 0=>⟨⟨ar mL,λ _ _ h=>absurd h (b5H _)⟩,ae⟩
 | n+1=>by
  have ih:=Tg  n;exact⟨SV n ⟨ih.1,Nk,jy,jz,ae⟩,ae⟩
def No :aN.Good Gw :=
 ⟨ar mL,λ gg x hp=>(Tg  (cd x+1)).1.2 gg x (b5C _)⟩
def bP(gg:aW):Bool:=decide (0<=gg.aw/\gg.aw<=3)&&decide (0<=gg.bh/\gg.bh<=4)
def LB(gg:aW)(x:J)(bO depth:Int):Bool:=bg (bo gg.aw) (bo gg.bh) x&&decide ((aO x:Int)<=bO)&&decide ((bM x:Int)<=depth)
def U9(gg:aW)(x:J)(bO depth:Int):Int:=bif LB gg x bO depth then bO - aO x else 0
def sC:aN:=⟨Eb,[.v (.st .sig)],λ (gg:aW)=>⟨(none,[⟨.bool,bP gg⟩])⟩⟩
def Sj(gg:aW):Nat->aA:=bJ
def wA:aN.Good sC:=by
 refine⟨ar AB,?_⟩;intro (gg:aW) _;refine aX [fO] [] [] [1] ⟨fY,ae⟩ AB Ky (Sj gg) (let v0:=decide ((0:Int)<=gg.aw/\gg.aw<=(3:Int));((O gg.aw->(((v0=true)->(O gg.bh->((decide ((0:Int)<=gg.bh/\gg.bh<=(4:Int)))=(bP gg))))/\((v0=(!true))->false=(bP gg)))))) ?_;refine λ _=>⟨λ _ _=>?_,λ _=>?_⟩;all_goals try and_intros
 all_goals first|rfl|trivial|(simp_all [bP];done)|(simp_all [bP];omega)
def qH:aN:=⟨Jv,[.v (.st .sig)],λ (gg:aW)=>⟨(none,[⟨.bool,bP gg⟩])⟩⟩
def Xb(gg:aW):Nat->aA:=bJ
def qo:aN.Good qH:=by
 refine⟨ar F5,?_⟩;intro (gg:aW) _;refine aX [gI] [] [] [1] ⟨jy,ae⟩ F5 Pk (Xb gg) (let v0:=decide ((0:Int)<=gg.aw/\gg.aw<=(3:Int));((O gg.aw->(((v0=true)->(O gg.bh->((decide ((0:Int)<=gg.bh/\gg.bh<=(4:Int)))=(bP gg))))/\((v0=(!true))->false=(bP gg)))))) ?_;refine λ _=>⟨λ _ _=>?_,λ _=>?_⟩;all_goals try and_intros
 all_goals first|rfl|trivial|(simp_all [bP];done)|(simp_all [bP];omega)
def JC(t a:Int)(x:J):Bool:=if x.aq=3 then decide (0<=x.aS/\x.aS<=t) else if x.aq=4 then decide (0<=x.aS/\x.aS<=a) else decide (x.aS=0)
def xv(t a:Int)(x:J):oV t a x=(decide (cV x.aq=(x.M.length:Int))&&JC t a x&&(!decide (x.aq=5)||bq (x.M.getD 0 ⟨0,0,[]⟩))):=rfl
def zS(gg:aW)(x:J)(bO depth:Int) :
  (bg (bo gg.aw) (bo gg.bh) x=true/\(aO x:Int)<=bO/\(bM x:Int)<=depth/\LB gg x bO depth=true/\U9 gg x bO depth=bO - aO x) \/
  ((bg (bo gg.aw) (bo gg.bh) x=false\/bO<(aO x:Int)\/depth<(bM x:Int))/\LB gg x bO depth=false/\U9 gg x bO depth=0):=by
 unfold U9 LB;cases bg (bo gg.aw) (bo gg.bh) x
 .right;simp
 .rcases b8R bO (aO x) with h|h
  .right;simp[h,Int.not_le.2 h]
  .rcases b8R depth (bM x) with h'|h'
   .right;simp[h',Int.not_le.2 h']
   .left;simp[h,h']
def oD(n:Nat):aN:=⟨zw,[.v (.st .sig), .v (.st .expr), .v (.int .i64), .v (.int .i64)],λ (gg:aW) (x:J) (bO:Int) (depth:Int)=>⟨(some (cd x<n/\0<=bO/\bO<=1048576/\0<=depth/\depth<=1048576),[⟨(.int .i64),U9 gg x bO depth⟩,⟨.bool,LB gg x bO depth⟩])⟩⟩
def I1:aN:=⟨zw,[.v (.st .sig), .v (.st .expr), .v (.int .i64), .v (.int .i64)],λ (gg:aW) (x:J) (bO:Int) (depth:Int)=>⟨(some (0<=bO/\bO<=1048576/\0<=depth/\depth<=1048576),[⟨(.int .i64),U9 gg x bO depth⟩,⟨.bool,LB gg x bO depth⟩])⟩⟩
def W4(gg:aW)(x:J)(bO:Int)(depth:Int):Nat->aA:=(cQ 100012 (.u (cV x.aq=(x.M.length:Int)/\1<=bO/\1<=depth/\JC (bo gg.aw) (bo gg.bh) x=true) [0,1,14,15,16,17,18,19,20,21,22,23,24,25,26,27,28] [] [] [] (cQ 100014 (.u (oV (bo gg.aw) (bo gg.bh) x=true/\1<=bO/\1<=depth) [] [] [] [] (cQ 1 (.b (Nat) (λ k=>k<=x.M.length/\bu (bg (bo gg.aw) (bo gg.bh)) (x.M.take k)=true/\1+(aG aO (x.M.take k):Int)<=bO/\1+(iL bM (x.M.take k):Int)<=depth) (λ k=>x.M.length - k) [5,63,64,65] (λ k=>[(68, .aH ⟨(.int .i64),((k:Int):Int)⟩),(2, .aH ⟨(.int .i64),(bO - (1+(aG aO (x.M.take k):Int)):Int)⟩)])) bJ)) bJ)) bJ)
abbrev Sc(gg:aW)(x:J)(bO:Int)(depth:Int):Prop:=(∃ u1:Unit,((cV x.aq=(x.M.length:Int)/\1<=bO/\1<=depth/\JC (bo gg.aw) (bo gg.bh) x=true)/\((bO=bO/\(depth=depth/\(gg=gg/\(x=x/\True))))/\True)))
abbrev Sd(gg:aW)(x:J)(bO:Int)(depth:Int):Prop:=(∃ u2:Unit,((oV (bo gg.aw) (bo gg.bh) x=true/\1<=bO/\1<=depth)/\((bO=bO/\(depth=depth/\(gg=gg/\(x=x/\True))))/\True)))
abbrev DL(n:Nat)(gg:aW)(x:J)(bO:Int)(depth:Int):Prop:=(let v1:=(x.M.length:Int);let v6:=Sc gg x bO depth;let v7:=(0:Int);let v0:=v7=(U9 gg x bO depth)/\false=(LB gg x bO depth);let v8:=(1:Int);let v2:=depth - v8;let v3 := !(decide (v7<=x.aS/\x.aS<=(IntKind.wrap .i64 (gg.bh - v8))));let v4 := !(decide (v7<=x.aS/\x.aS<=(IntKind.wrap .i64 (gg.aw - v8))));let v9:=bo gg.bh;let va:=Sd gg x bO depth;let vb:=bo gg.aw;let v5:=bg vb v9;((O x.aq ->
 (((decide (x.aq=(3:Int)))=true ->
 (O x.aS ->
 (O gg.aw ->
 (((v4=true) ->
 v0)/\((v4=false) ->
 v6)))))/\((decide (x.aq=(3:Int)))=false ->
 (((decide (x.aq=(4:Int)))=true ->
 (O x.aS ->
 (O gg.bh ->
 (((v3=true) ->
 v0)/\((v3=false) ->
 v6)))))/\((decide (x.aq=(4:Int)))=false ->
 (O x.aS ->
 (((!(decide (x.aS=v7)))=true ->
 v0)/\((!(decide (x.aS=v7)))=false ->
 v6))))))))/\(∀ u1:Unit,((cV x.aq=v1/\1<=bO/\1<=depth/\JC vb v9 x=true) ->
 ((O x.aq ->
 (((decide (x.aq=(5:Int)))=true ->
 (x.M.length<=140737488355328 ->
 (ak v7 x.M.length/\(((!(bq (x.M.getD 0 zE)))=true ->
 v0)/\((!(bq (x.M.getD 0 zE)))=false ->
 va)))))/\((decide (x.aq=(5:Int)))=(!true) ->
 ((false=true ->
 v0)/\(false=false ->
 va)))))/\(∀ u2:Unit,((oV vb v9 x=true/\1<=bO/\1<=depth) ->
 (O (bO - v8)/\(x.M.length<=140737488355328 ->
 (O (v1) ->
 ((∃ k3:Nat,let vc:=x.M.take k3;((k3<=x.M.length/\bu v5 vc=true/\1+(aG aO vc:Int)<=bO/\1+(iL bM vc:Int)<=depth)/\(((bO - v8)=(bO - (1+(aG aO vc:Int)))/\(depth=depth/\(gg=gg/\(x.M=x.M/\((v1)=(v1)/\(v7=(k3:Int)/\True))))))/\True)))/\(∀ k3:Nat,let vd:=aI (x.M.getD k3 zE);let ve:=x.M.take k3;let vc:=bO - (1+(aG aO ve:Int));((k3<=x.M.length/\bu v5 ve=true/\1+(aG aO ve:Int)<=bO/\1+(iL bM ve:Int)<=depth) ->
 (((decide ((k3:Int)<(v1)))=true ->
 (ak (k3:Int) x.M.length/\(O v2/\((cd vd<n/\0<=vc/\vc<=1048576/\0<=v2/\v2<=1048576)/\(O (U9 gg vd vc v2) ->
 (((!(LB gg vd vc v2))=true ->
 v0)/\((!(LB gg vd vc v2))=false ->
 (O ((k3:Int)+v8)/\(∃ k4:Nat,let vf:=x.M.take k4;((k4<=x.M.length/\bu v5 vf=true/\1+(aG aO vf:Int)<=bO/\1+(iL bM vf:Int)<=depth)/\(x.M.length - k4<x.M.length - k3/\(((U9 gg vd vc v2)=(bO - (1+(aG aO vf:Int)))/\(depth=depth/\(gg=gg/\(x.M=x.M/\((v1)=(v1)/\(((k3:Int)+v8)=(k4:Int)/\True))))))/\True))))))))))))/\((decide ((k3:Int)<(v1)))=false ->
 (vc=(U9 gg x bO depth)/\true=(LB gg x bO depth)))))))))))))))))
abbrev Se(n:Nat)(gg:aW)(x:J)(bO:Int)(depth:Int):Prop:=(let v0 := !(decide ((cV x.aq)=((x.M.length:Int))));(O x.aq ->
 (O (cV x.aq) ->
 (x.M.length<=140737488355328 ->
 (O ((x.M.length:Int)) ->
 ((v0=true ->
 ((0:Int)=(U9 gg x bO depth)/\false=(LB gg x bO depth)))/\(v0=false ->
 (DL n gg x bO depth))))))))
abbrev Sf(n:Nat)(gg:aW)(x:J)(bO:Int)(depth:Int):Prop:=((true=true ->
 ((0:Int)=(U9 gg x bO depth)/\false=(LB gg x bO depth)))/\(true=false ->
 (DL n gg x bO depth)))
def U3(n:Nat)(hE:bC [oD n,y7,fO,fg]):aN.Good (oD (n+1)):=by
 refine⟨ar oo,?_⟩;intro (gg:aW) (x:J) (bO:Int) (depth:Int) (hp:cd x<n+1/\0<=bO/\bO<=1048576/\0<=depth/\depth<=1048576);refine aX [oD n,y7,fO,fg] [40,49] [] [4,5] hE oo Pc (W4 gg x bO depth) (let v0:=Se n gg x bO depth;let v1:=Sf n gg x bO depth;((((decide (bO=(0:Int)))=false->(((decide (depth=(0:Int)))=false->v0)/\((decide (depth=(0:Int)))=(!false)->v1)))/\((decide (bO=(0:Int)))=(!false)->((true=false->v0)/\(true=(!false)->v1)))))) ?_;have fs:=zS gg x bO depth;rw[iu _ _ x,zM x,gU x] at fs;have f0:=dk x;have f1:=iq aO x.M;have f2:=Xn bM x.M;have f3:=all_zero (bg (bo gg.aw) (bo gg.bh)) x.M;refine⟨λ _=>⟨λ _ _ _ _ _=>⟨λ _=>⟨?_,?_⟩,λ _=>⟨λ _=>⟨λ _ _ _=>⟨λ _=>⟨?_,?_⟩,λ _=>⟨(),?_,⟨rfl,rfl,rfl,rfl,ae⟩,ae⟩⟩,λ _=>⟨λ _ _ _=>⟨λ _=>⟨?_,?_⟩,λ _=>⟨(),?_,⟨rfl,rfl,rfl,rfl,ae⟩,ae⟩⟩,λ _ _=>⟨λ _=>⟨?_,?_⟩,λ _=>⟨(),?_,⟨rfl,rfl,rfl,rfl,ae⟩,ae⟩⟩⟩⟩,λ u1 _=>⟨λ _=>⟨λ _ _=>⟨?_,λ _=>⟨?_,?_⟩,λ _=>⟨(),?_,⟨rfl,rfl,rfl,rfl,ae⟩,ae⟩⟩,λ _=>⟨λ _=>⟨?_,?_⟩,λ _=>⟨(),?_,⟨rfl,rfl,rfl,rfl,ae⟩,ae⟩⟩⟩,λ u2 _=>⟨?_,λ _ _=>⟨⟨0,?_,⟨?_,rfl,rfl,rfl,rfl,?_,ae⟩,ae⟩,λ k3 _=>have a3m:=dj (bg (bo gg.aw) (bo gg.bh)) zE x.M k3;have a3n:=dK (bg (bo gg.aw) (bo gg.bh)) zE x.M k3;have a3o:=dW (bg (bo gg.aw) (bo gg.bh)) x.M k3;have a7i:=ca zE x.M k3;have b1t:=fj aO zE x.M k3;have b1u:=bZ aO x.M (k3+1);have b1v:=gX aO x.M k3;have b1w:=sH bM zE x.M k3;have b1x:=jc bM x.M (k3+1);have b1y:=Ea bM x.M k3;have a9t:=zS gg (x.M.getD k3 zE) (bO - (1+(aG aO (x.M.take k3):Int))) (depth - 1);⟨λ _=>⟨?_,?_,?_,λ _=>⟨λ _=>⟨?_,?_⟩,λ _=>⟨?_,k3+1,?_,?_,⟨?_,rfl,rfl,rfl,rfl,?_,ae⟩,ae⟩⟩⟩,λ _=>⟨?_,?_⟩⟩⟩⟩⟩⟩⟩,λ _=>⟨λ _=>⟨?_,?_⟩,λ _=>⟨λ _=>⟨λ _ _ _=>⟨λ _=>⟨?_,?_⟩,λ _=>⟨(),?_,⟨rfl,rfl,rfl,rfl,ae⟩,ae⟩⟩,λ _=>⟨λ _ _ _=>⟨λ _=>⟨?_,?_⟩,λ _=>⟨(),?_,⟨rfl,rfl,rfl,rfl,ae⟩,ae⟩⟩,λ _ _=>⟨λ _=>⟨?_,?_⟩,λ _=>⟨(),?_,⟨rfl,rfl,rfl,rfl,ae⟩,ae⟩⟩⟩⟩,λ u1 _=>⟨λ _=>⟨λ _ _=>⟨?_,λ _=>⟨?_,?_⟩,λ _=>⟨(),?_,⟨rfl,rfl,rfl,rfl,ae⟩,ae⟩⟩,λ _=>⟨λ _=>⟨?_,?_⟩,λ _=>⟨(),?_,⟨rfl,rfl,rfl,rfl,ae⟩,ae⟩⟩⟩,λ u2 _=>⟨?_,λ _ _=>⟨⟨0,?_,⟨?_,rfl,rfl,rfl,rfl,?_,ae⟩,ae⟩,λ k3 _=>have a7j:=dj (bg (bo gg.aw) (bo gg.bh)) zE x.M k3;have a7k:=dK (bg (bo gg.aw) (bo gg.bh)) zE x.M k3;have a7l:=dW (bg (bo gg.aw) (bo gg.bh)) x.M k3;have b0v:=ca zE x.M k3;have b2N:=fj aO zE x.M k3;have b2O:=bZ aO x.M (k3+1);have b2P:=gX aO x.M k3;have b2Q:=sH bM zE x.M k3;have b2R:=jc bM x.M (k3+1);have b2S:=Ea bM x.M k3;have b1z:=zS gg (x.M.getD k3 zE) (bO - (1+(aG aO (x.M.take k3):Int))) (depth - 1);⟨λ _=>⟨?_,?_,?_,λ _=>⟨λ _=>⟨?_,?_⟩,λ _=>⟨?_,k3+1,?_,?_,⟨?_,rfl,rfl,rfl,rfl,?_,ae⟩,ae⟩⟩⟩,λ _=>⟨?_,?_⟩⟩⟩⟩⟩⟩⟩⟩,λ _=>⟨λ _ _ _ _ _=>⟨λ _=>⟨?_,?_⟩,λ _=>⟨λ _=>⟨λ _ _ _=>⟨λ _=>⟨?_,?_⟩,λ _=>⟨(),?_,⟨rfl,rfl,rfl,rfl,ae⟩,ae⟩⟩,λ _=>⟨λ _ _ _=>⟨λ _=>⟨?_,?_⟩,λ _=>⟨(),?_,⟨rfl,rfl,rfl,rfl,ae⟩,ae⟩⟩,λ _ _=>⟨λ _=>⟨?_,?_⟩,λ _=>⟨(),?_,⟨rfl,rfl,rfl,rfl,ae⟩,ae⟩⟩⟩⟩,λ u1 _=>⟨λ _=>⟨λ _ _=>⟨?_,λ _=>⟨?_,?_⟩,λ _=>⟨(),?_,⟨rfl,rfl,rfl,rfl,ae⟩,ae⟩⟩,λ _=>⟨λ _=>⟨?_,?_⟩,λ _=>⟨(),?_,⟨rfl,rfl,rfl,rfl,ae⟩,ae⟩⟩⟩,λ u2 _=>⟨?_,λ _ _=>⟨⟨0,?_,⟨?_,rfl,rfl,rfl,rfl,?_,ae⟩,ae⟩,λ k3 _=>have a3m:=dj (bg (bo gg.aw) (bo gg.bh)) zE x.M k3;have a3n:=dK (bg (bo gg.aw) (bo gg.bh)) zE x.M k3;have a3o:=dW (bg (bo gg.aw) (bo gg.bh)) x.M k3;have a7i:=ca zE x.M k3;have b1t:=fj aO zE x.M k3;have b1u:=bZ aO x.M (k3+1);have b1v:=gX aO x.M k3;have b1w:=sH bM zE x.M k3;have b1x:=jc bM x.M (k3+1);have b1y:=Ea bM x.M k3;have a9t:=zS gg (x.M.getD k3 zE) (bO - (1+(aG aO (x.M.take k3):Int))) (depth - 1);⟨λ _=>⟨?_,?_,?_,λ _=>⟨λ _=>⟨?_,?_⟩,λ _=>⟨?_,k3+1,?_,?_,⟨?_,rfl,rfl,rfl,rfl,?_,ae⟩,ae⟩⟩⟩,λ _=>⟨?_,?_⟩⟩⟩⟩⟩⟩⟩,λ _=>⟨λ _=>⟨?_,?_⟩,λ _=>⟨λ _=>⟨λ _ _ _=>⟨λ _=>⟨?_,?_⟩,λ _=>⟨(),?_,⟨rfl,rfl,rfl,rfl,ae⟩,ae⟩⟩,λ _=>⟨λ _ _ _=>⟨λ _=>⟨?_,?_⟩,λ _=>⟨(),?_,⟨rfl,rfl,rfl,rfl,ae⟩,ae⟩⟩,λ _ _=>⟨λ _=>⟨?_,?_⟩,λ _=>⟨(),?_,⟨rfl,rfl,rfl,rfl,ae⟩,ae⟩⟩⟩⟩,λ u1 _=>⟨λ _=>⟨λ _ _=>⟨?_,λ _=>⟨?_,?_⟩,λ _=>⟨(),?_,⟨rfl,rfl,rfl,rfl,ae⟩,ae⟩⟩,λ _=>⟨λ _=>⟨?_,?_⟩,λ _=>⟨(),?_,⟨rfl,rfl,rfl,rfl,ae⟩,ae⟩⟩⟩,λ u2 _=>⟨?_,λ _ _=>⟨⟨0,?_,⟨?_,rfl,rfl,rfl,rfl,?_,ae⟩,ae⟩,λ k3 _=>have a7j:=dj (bg (bo gg.aw) (bo gg.bh)) zE x.M k3;have a7k:=dK (bg (bo gg.aw) (bo gg.bh)) zE x.M k3;have a7l:=dW (bg (bo gg.aw) (bo gg.bh)) x.M k3;have b0v:=ca zE x.M k3;have b2N:=fj aO zE x.M k3;have b2O:=bZ aO x.M (k3+1);have b2P:=gX aO x.M k3;have b2Q:=sH bM zE x.M k3;have b2R:=jc bM x.M (k3+1);have b2S:=Ea bM x.M k3;have b1z:=zS gg (x.M.getD k3 zE) (bO - (1+(aG aO (x.M.take k3):Int))) (depth - 1);⟨λ _=>⟨?_,?_,?_,λ _=>⟨λ _=>⟨?_,?_⟩,λ _=>⟨?_,k3+1,?_,?_,⟨?_,rfl,rfl,rfl,rfl,?_,ae⟩,ae⟩⟩⟩,λ _=>⟨?_,?_⟩⟩⟩⟩⟩⟩⟩⟩⟩;all_goals try and_intros
 all_goals try (first|with_reducible rfl|with_reducible assumption)
 all_goals try simp only[J.eta,ag.eta,au.eta,aK,br,bL] at *
 all_goals ((try simp only[bo] at *);generalize IntKind.wrap .i64 (gg.aw - 1)=T at *;generalize IntKind.wrap .i64 (gg.bh - 1)=A at *;first|rfl|trivial|(simp only[decide_eq_true_eq,decide_eq_false_iff_not,ak,O] at *;omega)|(rcases fs with ⟨t1,t2,t3,t4,t5⟩|⟨t1,t4,t5⟩<;>(try rw[t4])<;>(try rw[t5])<;>clear t4 t5<;>simp only[decide_eq_true_eq,decide_eq_false_iff_not,xv,JC,Bool.and_eq_true,Bool.and_eq_false_iff,Bool.not_eq_true',Bool.not_eq_false',O] at *<;>first|rfl|omega|grind|grind [cV]))
def LG :∀ n,bC [oD n]
 | 0=>⟨⟨ar oo,λ _ _ _ _ h=>absurd h.1 (b5H _)⟩,ae⟩
 | n+1=>by
  have ih:=LG  n;exact⟨U3 n ⟨ih.1,PS,fY,gB,ae⟩,ae⟩
def PT :aN.Good I1 :=
 ⟨ar oo,λ gg x bO depth hp=>(LG  (cd x+1)).1.2 gg x bO depth (⟨b5C _,hp⟩)⟩
def X4(gg:aW):bP gg=true↔(0<=gg.aw/\gg.aw<=3)/\(0<=gg.bh/\gg.bh<=4):=by
 simp[bP]
def cE(gg:aW)(x:J):Bool:=LB gg x 200 40
def As(gg:aW)(x:J):Bool:=bP gg&&cE gg x
def yL(gg:aW)(x:J):cE gg x=true↔bg (bo gg.aw) (bo gg.bh) x=true/\aO x<=200/\bM x<=40:=by
 simp only[cE,LB,b4S,b4N];constructor
 .rintro⟨⟨a,b⟩,c⟩;exact⟨a,by omega,by omega⟩
 .rintro⟨a,b,c⟩;exact⟨⟨a,by omega⟩,by omega⟩
def a1U(t a t' a':Int)(h1:t<=t')(h2:a<=a')(x:J)(h:oV t a x=true):oV t' a' x=true:=by
 rw[xv] at h ⊢;simp only[Bool.and_eq_true] at h ⊢;refine⟨⟨h.1.1,?_⟩,h.2⟩;have:=h.1.2;unfold JC at this ⊢;split
 .rename_i e;rw[b5u e] at this;simp only[b4N] at this ⊢;omega
 .rename_i e;rw[b4Z e] at this;split
  .rename_i e';rw[b5u e'] at this;simp only[b4N] at this ⊢;omega
  .rename_i e';rw[b4Z e'] at this;exact this
mutual
def JZ(t a t' a':Int)(h1:t<=t')(h2:a<=a'):∀ x:J,bg t a x=true->bg t' a' x=true
 | ⟨k,n,ks⟩=>λ h=>by
  simp only[bg,b4S] at h ⊢;exact⟨a1U t a t' a' h1 h2 _ h.1,Rk t a t' a' h1 h2 ks h.2⟩
def Rk(t a t' a':Int)(h1:t<=t')(h2:a<=a'):∀ xs:List J,nw t a xs=true->nw t' a' xs=true
 | []=>λ _=>rfl
 | x::xs=>λ h=>by
  simp only[nw,b4S] at h ⊢;exact⟨JZ t a t' a' h1 h2 x h.1,Rk t a t' a' h1 h2 xs h.2⟩
end
def Y7(p:Nat->Bool):Nat->Bool
 | 0=>true
 | n+1=>Y7 p n&&p n
def mj:aN:=⟨Jn,[.v (.st .sig), .v (.st .expr)],λ (gg:aW) (x:J)=>⟨(none,[⟨.bool,cE gg x⟩])⟩⟩
def W0(gg:aW)(x:J):Nat->aA:=bJ
def lE:aN.Good mj:=by
 refine⟨ar FY,?_⟩;intro (gg:aW) (x:J) _;refine aX [I1] [] [] [2,3] ⟨PT,ae⟩ FY O8 (W0 gg x) (((0<=(200:Int)/\(200:Int)<=1048576/\0<=(40:Int)/\(40:Int)<=1048576)/\(O (U9 gg x (200:Int) (40:Int))->(LB gg x (200:Int) (40:Int))=(cE gg x)))) ?_;refine⟨?_,λ _=>?_⟩;all_goals try and_intros
 all_goals first|rfl|trivial|omega|(simp only[b4N,b4M,ak,O,bT,cB,bG,bc] at *;omega)|(simp[ak,O] at *;omega)|grind
def s5:aN:=⟨Cu,[.v (.st .sig), .r (.st .expr)],λ (gg:aW) (x:J)=>⟨(none,[⟨.bool,As gg x⟩])⟩⟩
def YL(gg:aW)(x:J):Nat->aA:=bJ
abbrev Ge(gg:aW)(x:J):Prop:=(let v0:=decide (((bM x:Int))<=(40:Int));(bM x<=1048576/\(O ((bM x:Int)) ->
 ((v0=true ->
 (bg (bo gg.aw) (bo gg.bh) x)=(As gg x))/\(v0=(!true) ->
 false=(As gg x))))))
def mQ:aN.Good s5:=by
 refine⟨ar HZ,?_⟩;intro (gg:aW) (x:J) _;refine aX [qH,Gv,DU,Gw] [] [] [2] ⟨qo,Nl,K5,No,ae⟩ HZ RE (YL gg x) (let v0:=decide ((0:Int)<=(fE (aO x) (200:Int)));let v1:=bg (bo gg.aw) (bo gg.bh) x;((((bP gg)=true->((0<=(200:Int)/\(200:Int)<=1048576)/\(O (fE (aO x) (200:Int))->((v0=true->(Ge gg x))/\(v0=(!true)->((false=true->v1=(As gg x))/\(false=(!true)->false=(As gg x))))))))/\((bP gg)=(!true)->((false=true->(Ge gg x))/\(false=(!true)->((false=true->v1=(As gg x))/\(false=(!true)->false=(As gg x))))))))) ?_;have f1:=eo (aO x) 200;have f2:=Pw x;have f3:As gg x=(bP gg&&(bg (bo gg.aw) (bo gg.bh) x&&decide ((aO x:Int)<=200)&&decide ((bM x:Int)<=40))):=rfl;refine⟨λ _=>⟨?_,λ _=>⟨λ _=>⟨?_,λ _=>⟨λ _=>?_,λ _=>?_⟩⟩,λ _=>⟨λ _=>?_,λ _=>?_⟩⟩⟩,λ _=>⟨λ _=>⟨?_,λ _=>⟨λ _=>?_,λ _=>?_⟩⟩,λ _=>⟨λ _=>?_,λ _=>?_⟩⟩⟩;all_goals try and_intros
 all_goals try rw[f3]
 all_goals first|rfl|trivial|omega|(simp only[b4N,b4M,b5a,b5k] at *;omega)|grind
def oX:aN:=⟨zx,[.v (.st .sig), .v (.slice (.st .expr))],λ (gg:aW) (xs:List J)=>⟨(none,[⟨.bool,bu (cE gg) xs&&bP gg⟩])⟩⟩
def NP(gg:aW)(xs:List J):Nat->aA:=(cQ 0 (.b (Nat) (λ k=>k<=xs.length/\bu (cE gg) (xs.take k)=true) (λ k=>xs.length - k) [0,1] (λ k=>[(9, .aH ⟨(.int .i64),((k:Int):Int)⟩)])) bJ)
def rA:aN.Good oX:=by
 refine⟨ar wh,?_⟩;intro (gg:aW) (xs:List J) _;refine aX [mj,sC] [] [] [2] ⟨lE,wA,ae⟩ wh Hf (NP gg xs) (let v0:=(xs.length:Int);((O v0->((∃ k1:Nat,((k1<=xs.length/\bu (cE gg) (xs.take k1)=true)/\((gg=gg/\(xs=xs/\(v0=v0/\((0:Int)=(k1:Int)/\True))))/\True)))/\(∀ k1:Nat,let v1 := !(cE gg (aI (xs.getD k1 zE)));((k1<=xs.length/\bu (cE gg) (xs.take k1)=true)->(((decide ((k1:Int)<v0))=true->(ak (k1:Int) xs.length/\((v1=true->false=(bu (cE gg) xs&&bP gg))/\(v1=false->(O ((k1:Int)+(1:Int))/\(∃ k2:Nat,((k2<=xs.length/\bu (cE gg) (xs.take k2)=true)/\(xs.length - k2<xs.length - k1/\((gg=gg/\(xs=xs/\(v0=v0/\(((k1:Int)+(1:Int))=(k2:Int)/\True))))/\True)))))))))/\((decide ((k1:Int)<v0))=false->(bP gg)=(bu (cE gg) xs&&bP gg))))))))) ?_;have f1:=all_zero (cE gg) xs;refine λ _=>⟨⟨0,?_,⟨rfl,rfl,rfl,?_,ae⟩,ae⟩,λ k1 _=>have H3:=dj (cE gg) zE xs k1;have H4:=dK (cE gg) zE xs k1;have H5:=dW (cE gg) xs k1;⟨λ _=>⟨?_,λ _=>?_,λ _=>⟨?_,k1+1,?_,?_,⟨rfl,rfl,rfl,?_,ae⟩,ae⟩⟩,λ _=>?_⟩⟩;all_goals try and_intros
 all_goals try (first|with_reducible rfl|with_reducible assumption)
 all_goals try simp only[J.eta,ag.eta,au.eta,aK,br,bL] at *
 all_goals first|rfl|trivial|(simp only[b4N,b4M,ak,O] at *;omega)|(simp_all;done)|(simp_all [ak,O];omega)
mutual
def dx(ts as_:List J):J->J
 | ⟨k,n,ks⟩=>if k=3 then ts.getD n.toNat zE else if k=4 then as_.getD n.toNat zE else ⟨k,n,jP ts as_ ks⟩
def jP(ts as_:List J):List J->List J
 | []=>[]
 | x::xs=>dx ts as_ x::jP ts as_ xs
end
mutual
def du:J->Int×Int
 | ⟨k,n,ks⟩=>if k=3 then (n+1,0) else if k=4 then (0,n+1) else cu ks
def cu:List J->Int×Int
 | []=>(0,0)
 | x::xs=>(max (du x).1 (cu xs).1,max (du x).2 (cu xs).2)
end
def Zt(ts as_:List J):∀ xs,jP ts as_ xs=xs.map (dx ts as_)
 | []=>by rw[jP];rfl
 | x::xs=>by rw[jP,Zt ts as_ xs];rfl
def a0s(ts as_:List J)(x:J):dx ts as_ x=if x.aq=3 then ts.getD x.aS.toNat zE else if x.aq=4 then as_.getD x.aS.toNat zE else ⟨x.aq,x.aS,x.M.map (dx ts as_)⟩:=by
 cases x with
 | mk k n ks=>rw[dx,Zt]
def EE(x:J):du x=if x.aq=3 then (x.aS+1,0) else if x.aq=4 then (0,x.aS+1) else cu x.M:=by
 cases x with
 | mk k n ks=>rw[du]
structure gf(ts as_:List J)(x:J):Prop where
 t:(du x).1<=(ts.length:Int)
 a:(du x).2<=(as_.length:Int)
def PG(ts as_:List J)(xs:List J):Prop:=(cu xs).1<=(ts.length:Int)/\(cu xs).2<=(as_.length:Int)
def a0r(ts as_:List J)(x:J)(xs:List J):PG ts as_ (x::xs)↔gf ts as_ x/\PG ts as_ xs:=by
 have e:gf ts as_ x↔(du x).1<=(ts.length:Int)/\(du x).2<=(as_.length:Int):=⟨λ h=>⟨h.t,h.a⟩,λ h=>⟨h.1,h.2⟩⟩;rw[e];unfold PG;rw[cu];dsimp only;omega
def a3C{ts as_:List J}{x:J}(h:gf ts as_ x)(h3:¬ x.aq=3)(h4:¬ x.aq=4):PG ts as_ x.M:=by
 have h1:=h.t;have h2:=h.a;rw[EE,b4Z h3,b4Z h4] at h1 h2;exact⟨h1,h2⟩
def Zs{ts as_:List J}:∀ {xs:List J},PG ts as_ xs->∀ x∈xs,gf ts as_ x
 | [],_,_,h=>by cases h
 | y::ys,h,x,hx=>by
  rw[a0r] at h;rcases b5h.1 hx with rfl|hx
  .exact h.1
  .exact Zs h.2 x hx
def a5b{ts as_:List J}{x:J}(h:gf ts as_ x)(h3:x.aq=3):x.aS<(ts.length:Int):=by
 have:=h.t;rw[EE,if_pos h3] at this;dsimp only at this;omega
def a5a{ts as_:List J}{x:J}(h:gf ts as_ x)(h4:x.aq=4):x.aS<(as_.length:Int):=by
 have:=h.a;rw[EE,if_neg (by omega),if_pos h4] at this;dsimp only at this;omega
mutual
def e9(ts as_:List J):J->Int->J×Int
 | ⟨k,n,ks⟩,l=>if l - 1<0 then (zE,l - 1) else
   if k=3\/k=4 then (let e:=(if k=4 then as_ else ts).getD n.toNat zE;(e,l - 1 - ((aO e:Int) - 1))) else
   (⟨k,n,(dS ts as_ ks (l - 1)).1⟩,(dS ts as_ ks (l - 1)).2)
def dS(ts as_:List J):List J->Int->List J×Int
 | [],l=>([],l)
 | x::xs,l=>((e9 ts as_ x l).1::(dS ts as_ xs (e9 ts as_ x l).2).1,(dS ts as_ xs (e9 ts as_ x l).2).2)
end
def BL(x:J):1<=aO x:=by cases x;rw[aO];omega
mutual
def a2D(ts as_:List J):∀ (x:J) (l:Int),(e9 ts as_ x l).2<=l - 1/\(0<=(e9 ts as_ x l).2->(e9 ts as_ x l).1=dx ts as_ x/\(e9 ts as_ x l).2=l - (aO (dx ts as_ x):Int))/\((e9 ts as_ x l).2<0->l<(aO (dx ts as_ x):Int))
 | ⟨k,n,ks⟩,l=>by
  rw[e9,dx];have hp:=BL;by_cases h0:l - 1<0
  .rw[if_pos h0];have:=hp (if k=3 then ts.getD n.toNat zE else if k=4 then as_.getD n.toNat zE else ⟨k,n,jP ts as_ ks⟩);refine⟨Int.le_refl _,λ h=>by dsimp only at h;omega,λ _=>by omega⟩
  .rw[b4Z h0];by_cases h3:k=3
   .subst h3;have:=hp (ts.getD n.toNat zE);rw[if_pos (Or.inl rfl:(3:Int)=3\/(3:Int)=4),if_pos rfl,if_neg (show ¬ (3:Int)=4 by decide)];dsimp only;exact⟨by omega,λ h=>⟨rfl,by omega⟩,λ h=>by omega⟩
   .by_cases h4:k=4
    .subst h4;have:=hp (as_.getD n.toNat zE);rw[if_pos (Or.inr rfl:(4:Int)=3\/(4:Int)=4),if_neg h3,if_pos rfl,if_pos rfl];dsimp only;exact⟨by omega,λ h=>⟨rfl,by omega⟩,λ h=>by omega⟩
    .rw[b4Z (by omega),b4Z h3,b4Z h4,aO];obtain⟨s1,s2,s3⟩:=Km ts as_ ks (l - 1);refine⟨s1,λ h=>?_,λ h=>?_⟩
     .obtain⟨g1,g2⟩:=s2 h;rw[g1];exact⟨rfl,by rw[g2];omega⟩
     .have:=s3 (by omega) h;omega
def Km(ts as_:List J):∀ (xs:List J) (l:Int),(dS ts as_ xs l).2<=l/\(0<=(dS ts as_ xs l).2->(dS ts as_ xs l).1=jP ts as_ xs/\(dS ts as_ xs l).2=l - (c9 (jP ts as_ xs):Int))/\(0<=l->(dS ts as_ xs l).2<0->l<(c9 (jP ts as_ xs):Int))
 | [],l=>by
  rw[dS,jP,c9];exact⟨Int.le_refl _,λ _=>⟨rfl,by dsimp only;omega⟩,λ h h'=>by dsimp only at h';omega⟩
 | x::xs,l=>by
  rw[dS,jP,c9];obtain⟨a1,a2,a3⟩:=a2D ts as_ x l;obtain⟨b1,b2,b3⟩:=Km ts as_ xs (e9 ts as_ x l).2;dsimp only;refine⟨by omega,λ h=>?_,λ h h'=>?_⟩
  .obtain⟨c1,c2⟩:=b2 h;obtain⟨d1,d2⟩:=a2 (by omega);rw[c1,d1];exact⟨rfl,by omega⟩
  .rcases b8R (e9 ts as_ x l).2 0 with g|g
   .have:=a3 g;omega
   .have:=b3 g h';obtain⟨d1,d2⟩:=a2 g;omega
end
def Vt(gg:aW)(ts as_:List J)(x:J):(decide (0<=(e9 ts as_ x 200).2)&&cE gg (e9 ts as_ x 200).1)=cE gg (dx ts as_ x)/\(0<=(e9 ts as_ x 200).2->(e9 ts as_ x 200).1=dx ts as_ x):=by
 obtain⟨s1,s2,s3⟩:=a2D ts as_ x 200;refine⟨?_,λ h=>(s2 h).1⟩;by_cases h:0<=(e9 ts as_ x 200).2
 .rw[b5B h,(s2 h).1,b6e]
 .have:=s3 (by omega);have e:cE gg (dx ts as_ x)=false:=by
   unfold cE LB;rw[show decide ((aO (dx ts as_ x):Int)<=200)=false from decide_eq_false (by omega)];simp
  rw[b5c h,e];rfl
def fV(y:J):J->List Int->J
 | _,[]=>y
 | x,k::ks=>⟨x.aq,x.aS,x.M.set k.toNat (fV y (x.M.getD k.toNat zE) ks)⟩
structure CJ(x:J)(ks:List Int)(k:Nat):Prop where
 le:k<=ks.length
 ok:eC x (ks.take k)=true
def CJ.zero(x:J)(ks:List Int):CJ x ks 0:=⟨b5Y _,rfl⟩
def CJ.bad{x:J}{ks:List Int}{k:Nat}(h:CJ x ks k)(hk:k<ks.length)(hb:¬ (0<=ks.getD k 0/\ks.getD k 0<=((dM x (ks.take k)).M.length:Int) - 1)):eC x ks=false :=
 a5t x ks (k+1) (by rw[(zK x ks k hk).1,show R9 (dM x (ks.take k)) (ks.getD k 0)=false from b5c hb,b6n])
def CJ.next{x:J}{ks:List Int}{k:Nat}(h:CJ x ks k)(hk:k<ks.length)(hb:0<=ks.getD k 0/\ks.getD k 0<=((dM x (ks.take k)).M.length:Int) - 1):CJ x ks (k+1) :=
 ⟨hk,by rw[(zK x ks k hk).1,show R9 (dM x (ks.take k)) (ks.getD k 0)=true from b5B hb,h.ok];rfl⟩
def CJ.done{x:J}{ks:List Int}{k:Nat}(h:CJ x ks k)(hk:ks.length<=k):eC x ks=true:=by rw[<-(a0P x ks k hk).1];exact h.ok
def Cn:aN:=⟨QK,[.v (.int .i64), .v (.int .i64)],λ (k:Int) (m:Int)=>⟨(none,[⟨(.st .expr),J.mk k m []⟩])⟩⟩
def YO(k:Int)(m:Int):Nat->aA:=bJ
def SM:aN.cZ Cn:=by
 refine⟨ar LH,?_⟩;intro (k:Int) (m:Int) _;refine cp [] [] [] [] [] [] [] [] trivial trivial trivial trivial LH Ue (YO k m) ((J.mk k m [])=(J.mk k m [])) ?_;refine rfl;all_goals try and_intros
 all_goals first|rfl|trivial|omega|(simp only[b4N,b4M,ak,O,bT,cB,bG,bc] at *;omega)|(simp[ak,O] at *;omega)|grind
def od:aN:=⟨FD,[.v (.int .i64), .o (.slice (.st .expr))],λ (k:Int) (ks:List J)=>⟨(none,[⟨(.st .expr),J.mk k 0 ks⟩])⟩⟩
def YP(k:Int)(ks:List J):Nat->aA:=bJ
def Ev:aN.cZ od:=by
 refine⟨ar sV,?_⟩;intro (k:Int) (ks:List J) _;refine cp [] [] [] [] [] [] [] [] trivial trivial trivial trivial sV F8 (YP k ks) ((J.mk k (0:Int) ks)=(J.mk k 0 ks)) ?_;refine ?_;all_goals try and_intros
 all_goals first|rfl|trivial|omega|(simp only[b4N,b4M,ak,O,bT,cB,bG,bc] at *;omega)|(simp[ak,O] at *;omega)|grind
def kr(n:Nat):aN:=⟨sI,[.v (.st .expr)],λ (e:J)=>⟨(some (cd e<n/\aE e<=1048576),[⟨(.st .expr),e⟩])⟩⟩
def eV:aN:=⟨sI,[.v (.st .expr)],λ (e:J)=>⟨(some (aE e<=1048576),[⟨(.st .expr),e⟩])⟩⟩
def Qz(e:J):Nat->aA:=(cQ 0 (.a (Nat) (λ i=>i<=e.M.length) (λ i=>e.M.length - i) [0,1,6,7,8,9,10,11] (λ i=>[(14, .aH ⟨(.int .i64),((i:Int):Int)⟩)]) [2] (λ i=>[(3, .box [.aH ⟨(.int .i64),(e.aq:Int)⟩, .aH ⟨(.int .i64),(e.aS:Int)⟩, .av 2400]),(2400, .av (.st .expr) (e.M.take i:List J))])) bJ)
def Oh(n:Nat)(hE:bC [])(hO:gn [kr n])(hM:iv [])(hS:gF []):aN.cZ (kr (n+1)):=by
 refine⟨ar lv,?_⟩;intro (e:J) (hp:cd e<n+1/\aE e<=1048576);refine cp [] [kr n] [] [] [21,22,23] [] [] [1] hE hO hM hS lv KA (Qz e) (let v0:=(e.M.length:Int);let v1:=((0:Int)=(0:Int)/\((0:Int)=(0:Int)/\(True/\True)))/\True;let v2:=(3:Nat)=3/\(2:Nat)=2;let v3:=e.aq=e.aq/\(e.aS=e.aS/\(True/\True));((O e.aq->(O e.aS->(e.M.length<=140737488355328->(O v0->((∃ i1:Nat,(i1<=e.M.length/\((True/\(True/\(e.M=e.M/\(v0=v0/\((0:Int)=(i1:Int)/\True)))))/\(v3/\((e.M.take i1)=[]/\v1)))))/\(∀ i1:Nat,let v4:=e.M.getD i1 zE;(i1<=e.M.length->(((decide ((i1:Int)<v0))=true->(ak (i1:Int) e.M.length/\(v2/\((2400:Nat)=2400/\((v4.aq=v4.aq/\(v4.aS=v4.aS/\(v4.M=v4.M/\True)))/\((cd (aI v4)<n/\aE (aI v4)<=1048576)/\(v2/\((2400:Nat)=2400/\(v2/\((2400:Nat)=2400/\(bc ((e.M.take i1).length+([(aI v4)]).length) 40/\(O ((i1:Int)+(1:Int))/\(∃ i2:Nat,(i2<=e.M.length/\(e.M.length - i2<e.M.length - i1/\((True/\(True/\(e.M=e.M/\(v0=v0/\(((i1:Int)+(1:Int))=(i2:Int)/\True)))))/\(v3/\(((e.M.take i1)++([(aI v4)]))=(e.M.take i2)/\v1))))))))))))))))))/\((decide ((i1:Int)<v0))=false->(J.mk e.aq e.aS (e.M.take i1))=e))))))))))) ?_;rw[jU] at hp;have f0:=dk e;have f1:=λ i (h:i<e.M.length)=>fi aE zE e.M i h;have f2:=λ i (h:i<e.M.length)=>ca zE e.M i h;have f3:=λ i (h:i<e.M.length)=>cC zE e.M i h;have f4:e.M.take 0=[]:=by simp
 have f5:∀ i,e.M.length<=i->e.M.take i=e.M:=λ i h=>b5o h;have f6:∀ i,(e.M.take i).length<=e.M.length:=λ i=>by simp;omega
 have f7:∀ ks,ks=e.M->J.mk e.aq e.aS ks=e:=λ ks h=>by subst h;cases e;rfl
 refine λ _ _ _ _=>⟨⟨0,?_,⟨ae,ae,rfl,rfl,?_,ae⟩,⟨rfl,rfl,ae,ae⟩,?_,⟨rfl,rfl,ae,ae⟩,ae⟩,λ i1 _=>⟨λ _=>⟨?_,⟨?_,?_⟩,?_,⟨rfl,rfl,rfl,?_⟩,?_,⟨?_,?_⟩,?_,⟨?_,?_⟩,?_,?_,?_,i1+1,?_,?_,⟨ae,ae,rfl,rfl,?_,ae⟩,⟨rfl,rfl,ae,ae⟩,?_,⟨rfl,rfl,ae,ae⟩,ae⟩,λ _=>?_⟩⟩;all_goals try and_intros
 all_goals try (first|with_reducible rfl|with_reducible assumption)
 all_goals try simp only[J.eta,ag.eta,au.eta,aK,br,bL] at *
 all_goals first|rfl|trivial|omega|(simp only[b4N,b4M,ak,O,bc,b4Y,b5j] at *;first|omega|(have:=f6 i1;omega)|exact f7 _ (f5 _ (by omega))|grind)|grind
def Th:∀ n,gn [kr n]
 | 0=>⟨⟨ar lv,λ _ h=>absurd h.1 (b5H _)⟩,ae⟩
 | n+1=>by
  have ih:=Th n;exact⟨Oh n trivial ⟨ih.1,ae⟩ trivial trivial,ae⟩
def iP:aN.cZ eV :=
 ⟨ar lv,λ e hp=>(Th (cd e+1)).1.2 e (⟨b5C _,hp⟩)⟩
def nj(n:Nat):aN:=⟨qQ,[.r (.st .expr)],λ (e:J)=>⟨(some (cd e<n/\aE e<=1048576),[⟨(.st .expr),e⟩])⟩⟩
def fm:aN:=⟨qQ,[.r (.st .expr)],λ (e:J)=>⟨(some (aE e<=1048576),[⟨(.st .expr),e⟩])⟩⟩
def UX(e:J):Nat->aA:=(cQ 0 (.a (Nat) (λ i=>i<=e.M.length) (λ i=>e.M.length - i) [5,6,7,8,9,10,11,12,13] (λ i=>[(4, .aH ⟨(.int .i64),((i:Int):Int)⟩)]) [2] (λ i=>[(3, .box [.aH ⟨(.int .i64),(e.aq:Int)⟩, .aH ⟨(.int .i64),(e.aS:Int)⟩, .av 3400]),(3400, .av (.st .expr) (e.M.take i:List J))])) bJ)
def SZ(n:Nat)(hE:bC [])(hO:gn [nj n])(hM:iv [])(hS:gF []):aN.cZ (nj (n+1)):=by
 refine⟨ar ou,?_⟩;intro (e:J) (hp:cd e<n+1/\aE e<=1048576);refine cp [] [nj n] [] [] [31,32,33] [] [] [] hE hO hM hS ou Pj (UX e) (let v0:=((0:Int)=(0:Int)/\((0:Int)=(0:Int)/\(True/\True)))/\True;let v1:=(3:Nat)=3/\(2:Nat)=2;let v2:=e.aq=e.aq/\(e.aS=e.aS/\(True/\True));let v3:=(e.M.length:Int);((O e.aq->(O e.aS->((∃ i1:Nat,(i1<=e.M.length/\((e=e/\(True/\(True/\((0:Int)=(i1:Int)/\True))))/\(v2/\((e.M.take i1)=[]/\v0)))))/\(∀ i1:Nat,let v4:=e.M.getD i1 zE;let v5:=(i1:Int);(i1<=e.M.length->(e.M.length<=140737488355328->(O v3->(((decide (v5<v3))=true->(e.M.length<=140737488355328->(O v5->(ak v5 e.M.length/\(v1/\((3400:Nat)=3400/\(e=e/\(e=e/\(e.M=e.M/\(e.M=e.M/\(v5=v5/\(ak v5 e.M.length/\(v4=v4/\((cd v4<n/\aE v4<=1048576)/\(v1/\((3400:Nat)=3400/\(v1/\((3400:Nat)=3400/\(bc ((e.M.take i1).length+([(aI v4)]).length) 40/\(O (v5+(1:Int))/\(∃ i2:Nat,(i2<=e.M.length/\(e.M.length - i2<e.M.length - i1/\((e=e/\(True/\(True/\((v5+(1:Int))=(i2:Int)/\True))))/\(v2/\(((e.M.take i1)++([(aI v4)]))=(e.M.take i2)/\v0))))))))))))))))))))))))))/\((decide (v5<v3))=false->(J.mk e.aq e.aS (e.M.take i1))=e))))))))))) ?_;rw[jU] at hp;have f0:=dk e;have f1:=λ i (h:i<e.M.length)=>fi aE zE e.M i h;have f2:=λ i (h:i<e.M.length)=>ca zE e.M i h;have f3:=λ i (h:i<e.M.length)=>cC zE e.M i h;have f4:e.M.take 0=[]:=by simp
 have f5:∀ i,e.M.length<=i->e.M.take i=e.M:=λ i h=>b5o h;have f6:∀ i,(e.M.take i).length<=e.M.length:=λ i=>by simp;omega
 have f7:∀ ks,ks=e.M->J.mk e.aq e.aS ks=e:=λ ks h=>by subst h;cases e;rfl
 refine λ _ _=>⟨⟨0,?_,⟨rfl,ae,ae,?_,ae⟩,⟨rfl,rfl,ae,ae⟩,?_,⟨rfl,rfl,ae,ae⟩,ae⟩,λ i1 _ _ _=>⟨λ _ _ _=>⟨?_,⟨?_,?_⟩,?_,rfl,rfl,rfl,rfl,rfl,?_,rfl,?_,⟨?_,?_⟩,?_,⟨?_,?_⟩,?_,?_,?_,i1+1,?_,?_,⟨rfl,ae,ae,?_,ae⟩,⟨rfl,rfl,ae,ae⟩,?_,⟨rfl,rfl,ae,ae⟩,ae⟩,λ _=>?_⟩⟩;all_goals try and_intros
 all_goals try (first|with_reducible rfl|with_reducible assumption)
 all_goals try simp only[J.eta,ag.eta,au.eta,aK,br,bL] at *
 all_goals first|rfl|trivial|omega|(simp only[b4N,b4M,ak,O,bc,b4Y,b5j] at *;first|omega|(have:=f6 i1;omega)|exact f7 _ (f5 _ (by omega))|grind)|grind
def VD:∀ n,gn [nj n]
 | 0=>⟨⟨ar ou,λ _ h=>absurd h.1 (b5H _)⟩,ae⟩
 | n+1=>by
  have ih:=VD n;exact⟨SZ n trivial ⟨ih.1,ae⟩ trivial trivial,ae⟩
def gV:aN.cZ fm :=
 ⟨ar ou,λ e hp=>(VD (cd e+1)).1.2 e (⟨b5C _,hp⟩)⟩
def A1:aN.Good fm:=gV.plain
mutual
def Kq:∀ x:J,aE x+1=aO x
 | ⟨_,_,ks⟩=>by
  have:=Ya ks;simp only[aE,aO];omega
def Ya:∀ xs:List J,xs.length+xB xs=c9 xs
 | []=>rfl
 | x::xs=>by
  have h1:=Kq x;have h2:=Ya xs;simp only[xB,c9,b4Y];omega
end
def Fq(gg:aW)(x:J)(h:cE gg x=true):aE x<=1048576:=by
 rw[yL] at h;have:=Kq x;omega
end
end Go.Proofs.YtmjfpcajohhbeaaGreatDoor

namespace Go.Proofs
open Go.Shelf
def Tryz.Qw:Go.Shelf.Ren:=⟨λ|169=>157|n=>n,λ|70=>193|9=>9|0=>0|72=>196|37=>194|127=>212|3=>3|5=>5|n=>n,λ|n=>n⟩
def Tryz.a8f:Go.Proofs.Lays.n169 Tryz.prog Tryz.Qw:={
 mixed:=by kernel_rfl
 f169:=Tryz.func157.trans (congrArg some (by kernel_rfl))
 t0:=Tryz.underlying0
 a0:=Tryz.isAgg0
 z0:=Tryz.sizeOf0
 v0:=Tryz.zeroValue0
 t3:=Tryz.underlying3
 a3:=Tryz.isAgg3
 z3:=Tryz.sizeOf3
 v3:=Tryz.zeroValue3
 t9:=Tryz.underlying9
 a9:=Tryz.isAgg9
 z9:=Tryz.sizeOf9
 v9:=Tryz.zeroValue9
 t37:=Tryz.underlying194
 a37:=Tryz.isAgg194
 z37:=Tryz.sizeOf194
 v37:=Tryz.zeroValue194
 t70:=Tryz.underlying193
 a70:=Tryz.isAgg193
 z70:=Tryz.sizeOf193
 v70:=Tryz.zeroValue193
 t72:=Tryz.underlying196
 a72:=Tryz.isAgg196
 z72:=Tryz.sizeOf196
 v72:=Tryz.zeroValue196
 t127:=Tryz.underlying212
 a127:=Tryz.isAgg212
 z127:=Tryz.sizeOf212
 v127:=Tryz.zeroValue212 }
def Tryz.Mp:Builder.Extra Tryz.prog Tryz.Qw:={
 sizeBuilder:=by kernel_rfl
 liesBuilder:=by kernel_rfl
 t5:=Tryz.underlying5
 a5:=Tryz.isAgg5
 z5:=Tryz.sizeOf5
 v5:=Tryz.zeroValue5
 infoByte:=by kernel_rfl
 cellsByte:=by kernel_rfl
 sizeByte:=by kernel_rfl
 neB5:=by decide }
open Go.RowKit in
def Tryz.Builder_String_any(B b:Nat)(l:List UInt8)(w:World)(h:Lib.IsBuilder 196 5 B b (Lib.byteCells l) w)(iY:B<=w.heap.size) :
  Calls Tryz.prog 157 #[.pointer (some ⟨b,0,none⟩)] w λ e w'=>e = .returned (.string ⟨l.toArray⟩)/\Below B w w':=Any.Builder_String_any Tryz.a8f Tryz.Mp B b l w h iY
def Tryz.a0J:Go.Shelf.Ren:=⟨λ|246=>175|283=>176|284=>177|285=>178|286=>179|129=>181|317=>180|318=>182|319=>183|320=>184|337=>185|338=>186|n=>n,λ|2=>2|3=>3|9=>9|4=>4|171=>220|0=>0|53=>221|37=>194|5=>5|173=>224|212=>227|51=>213|20=>20|213=>228|46=>203|232=>232|233=>233|n=>n,λ|17=>1|18=>2|19=>3|n=>n⟩
def Tryz.a8g:Go.Proofs.Lays.n246 Tryz.prog Tryz.a0J:={
 mixed:=by kernel_rfl
 f129:=Tryz.func181.trans (congrArg some (by kernel_rfl))
 f246:=Tryz.func175.trans (congrArg some (by kernel_rfl))
 f283:=Tryz.func176.trans (congrArg some (by kernel_rfl))
 f284:=Tryz.func177.trans (congrArg some (by kernel_rfl))
 f285:=Tryz.func178.trans (congrArg some (by kernel_rfl))
 f286:=Tryz.func179.trans (congrArg some (by kernel_rfl))
 f317:=Tryz.func180.trans (congrArg some (by kernel_rfl))
 f318:=Tryz.func182.trans (congrArg some (by kernel_rfl))
 f319:=Tryz.func183.trans (congrArg some (by kernel_rfl))
 f320:=Tryz.func184.trans (congrArg some (by kernel_rfl))
 f337:=Tryz.func185.trans (congrArg some (by kernel_rfl))
 f338:=Tryz.func186.trans (congrArg some (by kernel_rfl))
 t0:=Tryz.underlying0
 a0:=Tryz.isAgg0
 z0:=Tryz.sizeOf0
 v0:=Tryz.zeroValue0
 t2:=Tryz.underlying2
 a2:=Tryz.isAgg2
 z2:=Tryz.sizeOf2
 v2:=Tryz.zeroValue2
 t3:=Tryz.underlying3
 a3:=Tryz.isAgg3
 z3:=Tryz.sizeOf3
 v3:=Tryz.zeroValue3
 t4:=Tryz.underlying4
 a4:=Tryz.isAgg4
 z4:=Tryz.sizeOf4
 v4:=Tryz.zeroValue4
 t5:=Tryz.underlying5
 a5:=Tryz.isAgg5
 z5:=Tryz.sizeOf5
 v5:=Tryz.zeroValue5
 t9:=Tryz.underlying9
 a9:=Tryz.isAgg9
 z9:=Tryz.sizeOf9
 v9:=Tryz.zeroValue9
 t20:=Tryz.underlying20
 a20:=Tryz.isAgg20
 z20:=Tryz.sizeOf20
 v20:=Tryz.zeroValue20
 t37:=Tryz.underlying194
 a37:=Tryz.isAgg194
 z37:=Tryz.sizeOf194
 v37:=Tryz.zeroValue194
 t46:=Tryz.underlying203
 a46:=Tryz.isAgg203
 z46:=Tryz.sizeOf203
 v46:=Tryz.zeroValue203
 t51:=Tryz.underlying213
 a51:=Tryz.isAgg213
 z51:=Tryz.sizeOf213
 v51:=Tryz.zeroValue213
 t53:=Tryz.underlying221
 a53:=Tryz.isAgg221
 z53:=Tryz.sizeOf221
 v53:=Tryz.zeroValue221
 t171:=Tryz.underlying220
 a171:=Tryz.isAgg220
 z171:=Tryz.sizeOf220
 v171:=Tryz.zeroValue220
 t173:=Tryz.underlying224
 a173:=Tryz.isAgg224
 z173:=Tryz.sizeOf224
 v173:=Tryz.zeroValue224
 t212:=Tryz.underlying227
 a212:=Tryz.isAgg227
 z212:=Tryz.sizeOf227
 v212:=Tryz.zeroValue227
 t213:=Tryz.underlying228
 a213:=Tryz.isAgg228
 z213:=Tryz.sizeOf228
 t232:=Tryz.underlying232
 a232:=Tryz.isAgg232
 z232:=Tryz.sizeOf232
 v232:=Tryz.zeroValue232
 t233:=Tryz.underlying233
 a233:=Tryz.isAgg233
 z233:=Tryz.sizeOf233
 v233:=Tryz.zeroValue233
 g17:=by kernel_rfl
 g18:=by kernel_rfl
 g19:=by kernel_rfl }
open Go.RowKit Go.Sort Go.Lib in
def Tryz.internal_strconv_FormatInt_10_small(i:Nat)(hi:i<100)(w:World) :
  Calls Tryz.prog 175 #[.int .i64 i, .int .i64 10] w λ e w'=>e = .returned (.string ⟨(Lib.decDigits i).toArray⟩)/\w'=w:=Any.internal_strconv_FormatInt_10_small Tryz.a8g i hi w
end Go.Proofs



namespace Go.Proofs.YtmjfpcajohhbeaaGreatDoor
open Go.RowKit Go.Proofs
def a1u:(Tryz.prog.info? 196).map (·.size)=some 2:=by kernel_rfl
def a7n:liesAt Tryz.prog Tryz.prog.depth 196 (2 / Tryz.prog.cellsOf 196) 0 196 1=true:=by kernel_rfl
def a7m:(Tryz.prog.info? 5).map (λ i=>(i.zero,i.size,i.bytes))=some (some (.int .u8 0),1,1):=by kernel_rfl
def jq(b:Nat)(w w':World):Prop:=∀ k cs T fz,w.heap[k]?=some (.cells cs T fz)->T≠5->k≠b->w'.heap[k]?=w.heap[k]?
def jq.refl(b:Nat)(w:World):jq b w w:=λ _ _ _ _ _ _ _=>rfl
def jq.trans{b:Nat}{w w1 w2:World}(h:jq b w w1)(k:jq b w1 w2):jq b w w2:=λ i cs T fz hi hT hb=>by
 have e:=h i cs T fz hi hT hb;rw[k i cs T fz (e.trans hi) hT hb,e]
def jq.setCell{b:Nat}{w w1:World}(h:jq b w w1)(o:Nat)(v:Value):jq b w (w1.setCell ⟨b,o,none⟩ v):=λ i cs T fz hi hT hb=>by
 rw[Below.heap_setCell w1 _ v i hb];exact h i cs T fz hi hT hb
def bE{w:World}{k:Nat}{x:Obj}(h:w.heap[k]?=some x):k<w.heap.size:=by
 rcases b5Q k w.heap.size with h'|h'
 .exact h'
 .simp[b6p h'] at h
def jq.alloc{b:Nat}{w w1:World}(h:jq b w w1)(o:Obj):jq b w (w1.alloc o):=λ i cs T fz hi hT hb=>by
 have e:=h i cs T fz hi hT hb;rw[<-e];exact Lib.alloc_old w1 o i (bE (e.trans hi))
set_option maxRecDepth 100000 in
def Uf(b:Nat)(w:World)(h0:w.cell? ⟨b,0,none⟩=some (.pointer (some ⟨b,0,none⟩))) :
  Calls Tryz.prog 172 #[.pointer (some ⟨b,0,none⟩)] w λ e w'=>e = .returned (.tuple #[])/\w'=w:=by
 obtain⟨j,hj,_⟩:=b5L.1 a1u;go_enter Tryz.func172,Tryz.ntmps172;go_wp2;rw[Lib.run_neq_ptr_same w _ Tryz.underlying193 hj];go_wp2;go_end0;exact⟨rfl,rfl⟩
set_option maxRecDepth 100000 in
def RN(b:Nat)(w:World)(h0:w.cell? ⟨b,0,none⟩=some (.pointer none))(Hv:w.shape? b=some (196,2))(hfz:w.frozen? ⟨b,0,none⟩=false) :
  Calls Tryz.prog 172 #[.pointer (some ⟨b,0,none⟩)] w λ e w'=>e = .returned (.tuple #[])/\w'=w.setCell ⟨b,0,none⟩ (.pointer (some ⟨b,0,none⟩)):=by
 obtain⟨j,hj,hjs⟩:=b5L.1 a1u;go_enter Tryz.func172,Tryz.ntmps172;go_wp2;rw[Lib.run_to_unsafe w ⟨b,0,none⟩ Tryz.underlying193 Tryz.underlying217 hj (by rw[hjs];decide) Hv (Nat.zero_lt_succ 1)];simp only[Result.andThen];rw[b8z];go_wp2;rw[run_callFunc_extern Tryz.func174 (by kernel_rfl) (by kernel_rfl) (by kernel_rfl) (e:=Extern.AbiNoEscape.same) (by kernel_rfl)];rw[Lib.run_noEscape];simp only[Result.andThen];rw[b8z];go_wp2;rw[Lib.run_from_unsafe w ⟨b,0,none⟩ Tryz.underlying217 Tryz.underlying193 hj Hv a7n];simp only[Result.andThen];rw[b8z];go_wp2;go_end0;exact⟨rfl,rfl⟩
def a3x(B b:Nat)(bs:List Value)(w:World)(h:Lib.IsBuilder 196 5 B b bs w) :
  Calls Tryz.prog 172 #[.pointer (some ⟨b,0,none⟩)] w λ e w'=>e = .returned (.tuple #[])/\(Lib.BuilderAt 196 5 B b (.pointer (some ⟨b,0,none⟩)) bs w'/\Below B w w'/\jq b w w'):=by
 rcases h with h|h
 .refine (RN b w h.cell0 h.shape h.frozen0).mono ?_;rintro e w' ⟨rfl,rfl⟩;exact⟨rfl,h.used _,(b8r B w).setCell (p:=⟨b,0,none⟩) h.1 _,(jq.refl b w).setCell 0 _⟩
 .refine (Uf b w h.cell0).mono ?_;rintro e w' ⟨rfl,rfl⟩;exact⟨rfl,h,b8r B _,jq.refl b _⟩
set_option maxRecDepth 100000 in
def writeString(B b:Nat)(bs:List Value)(s:ByteArray)(w:World)(h:Lib.IsBuilder 196 5 B b bs w)(hlen:bs.length+s.size<=140737488355328)(iY:B<=w.heap.size) :
  Calls Tryz.prog 167 #[.pointer (some ⟨b,0,none⟩), .string s] w λ e w'=>e = .returned (.tuple #[.int .i64 s.size, .nilIface])/\(Lib.IsBuilder 196 5 B b (bs++Lib.strCells s) w'/\Below B w w'/\jq b w w'):=by
 obtain⟨i0,hi,hz⟩:=b5L.1 a7m;simp only[b4P] at hz;obtain⟨hz0,R7,hz2⟩:=hz;go_enter Tryz.func167,Tryz.ntmps167;go_wp2_with (go_at_call 172;refine (a3x B b bs _ h).mono ?_);rintro e w1 ⟨rfl,h1,yD,R2⟩;obtain⟨hB,v,hbk,n9,eR⟩:=h1;have c0:w1.cell? ⟨b,0,none⟩=some (.pointer (some ⟨b,0,none⟩)):=by rw[b7B hbk];rfl
 have c1:w1.cell? ⟨b,1,none⟩=some v:=by rw[b7B hbk];rfl
 go_wp2_with (at_builtin;refine Lib.wpList_append_own_string _ rfl _ _ 194 9 rfl B 5 i0 Tryz.underlying194 Tryz.underlying9 hi hz0 R7 hz2 _ _ _ rfl n9 s rfl ?c3 ?c4 ?c5 ?_);case c3=>unfold maxLen;omega
 case c4=>omega
 case c5=>have:=yD.size;omega
 intro v' w2 a7Q ND _;have bK:b<w1.heap.size:=bE hbk;have Fg:w2.heap[b]?=some (.cells #[.pointer (some ⟨b,0,none⟩),v] 196 (0,0)):=by
  rw[ND.block b bK (λ e=>eR e.symm)];exact hbk
 have d0:w2.cell? ⟨b,0,none⟩=some (.pointer (some ⟨b,0,none⟩)):=by rw[b7B Fg];rfl
 have d1:w2.cell? ⟨b,1,none⟩=some v:=by rw[b7B Fg];rfl
 have f1:w2.frozen? ⟨b,1,none⟩=false:=Lib.frozen_of_heap Fg 1;have hk2:jq b w1 w2:=λ i cs T fz hi hT hib=>ND.block i (bE hi) λ e=>by
  rcases n9.2 with ⟨hv,_⟩|⟨g,cap,cur,hv,_,hg,_⟩
  .rw[hv] at e;cases e
  .rw[hv] at e;injection e with e;subst e;rw[hg] at hi;simp only[b4L,Obj.cells.injEq] at hi;exact hT hi.2.1.symm
 obtain⟨ao,n',cap,rfl⟩:∃ ao n' cap,v' = .slice ao n' cap:=by
  rcases a7Q.2 with ⟨hv,_⟩|⟨g,cap,cur,hv,_⟩
  .exact⟨_,_,_,hv⟩
  .exact⟨_,_,_,hv⟩
 go_wp2;go_ret2;refine⟨rfl,?_,?_,?_⟩
 .exact Or.inr (Lib.BuilderAt.put (T:=196) (e:=5) hB Fg (bs':=bs++Lib.strCells s) (by simpa [Lib.strCells_length] using a7Q) (by decide))
 .exact (yD.grown ND (by have:=yD.size;omega) (λ k hk=>(n9.lt k hk).1)).setCell (p:=⟨b,1,none⟩) hB _
 .exact (R2.trans hk2).setCell 1 _
end Go.Proofs.YtmjfpcajohhbeaaGreatDoor

namespace Go.Proofs.YtmjfpcajohhbeaaGreatDoor
noncomputable section
open Go.RowKit Go.Proofs
def bt(n:Int):UInt8:=UInt8.ofNat n.toNat
def ig:aN:=⟨ij,[.v .str, .v .str],λ (s:List UInt8) (p:List UInt8)=>⟨(none,[⟨.bool,decide (p.length<=s.length)&&decide (s.take p.length=p)⟩])⟩⟩
def pO(s:List UInt8)(p:List UInt8):Nat->aA:=bJ
def nQ:aN.Good ig:=by
 refine⟨ar gT,?_⟩;intro (s:List UInt8) (p:List UInt8) _;refine aX [] [] [] [] trivial gT nH (pO s p) (let v0:=(p.length:Int);let v1:=decide (p.length<=s.length)&&decide (s.take p.length=p);let v2:=decide (v0<=((s.length:Int)));((O ((s.length:Int))->(O v0->((v2=true->(O v0->(cB (0:Int) v0 s.length/\(decide (((s.take (Int.toNat v0)).drop 0)=p))=v1)))/\(v2=(!true)->false=v1)))))) ?_;refine λ _ _=>⟨λ _ _=>⟨?_,?_⟩,λ _=>?_⟩;all_goals try and_intros
 all_goals first|rfl|trivial|omega|(simp only[b4N,b4M,ak,O,cB,bc,b5f,b4Y,b5j] at *;first|omega|grind)|grind
def tZ:aN:=⟨uk,[.v .str, .v .str],λ (s:List UInt8) (p:List UInt8)=>⟨(none,[⟨.bool,decide (p.length<=s.length)&&decide (s.take p.length=p)⟩])⟩⟩
def Jd(s:List UInt8)(p:List UInt8):Nat->aA:=bJ
def Dv:aN.Good tZ:=by
 refine⟨ar rz,?_⟩;intro (s:List UInt8) (p:List UInt8) _;refine aX [ig] [] [] [] ⟨nQ,ae⟩ rz Df (Jd s p) (let v0:=decide (p.length<=s.length)&&decide (s.take p.length=p);(v0=v0)) ?_;refine ?_;all_goals try and_intros
 all_goals first|rfl|trivial|omega|(simp only[b4N,b4M,ak,O,bT,cB,bG,bc] at *;omega)|(simp[ak,O] at *;omega)|grind
end
end Go.Proofs.YtmjfpcajohhbeaaGreatDoor

namespace Go.Proofs.YtmjfpcajohhbeaaGreatDoor
noncomputable section
def fB(b:UInt8):Bool:=decide (48<=b.toNat)&&decide (b.toNat<=57)
def gG(s:List UInt8):Int:=s.foldl (λ n b=>n * 10+((b.toNat:Int) - 48)) 0
def nC(m:Int)(s:List UInt8):Bool:=decide (1<=s.length)&&decide ((s.length:Int)<=m) && !(decide (1<s.length)&&decide ((s.getD 0 0).toNat=48))&&bu fB s
def kP(m:Int)(s:List UInt8):Int:=bif nC m s then gG s else 0
def V8(s:List UInt8)(k:Nat)(h:k<s.length):gG (s.take (k+1))=gG (s.take k) * 10+(((s.getD k 0).toNat:Int) - 48):=by
 rw[cC 0 s k h];simp[gG,List.foldl_append]
def a1E:∀ (k:Nat) (s:List UInt8),k<=s.length->bu fB (s.take k)=true->0<=gG (s.take k)/\gG (s.take k)<10 ^ k
 | 0,s,_,_=>by simp[gG]
 | k+1,s,h,ha=>by
  have h1:=dj fB 0 s k (by omega);rw[ha] at h1;have h1':=h1.symm;simp only[b4S] at h1';obtain⟨h2,h3⟩:=h1';have ih:=a1E k s (by omega) h2;rw[V8 s k (by omega)];simp only[fB,b4S,b4N] at h3;have:(10:Int) ^ (k+1)=10 ^ k * 10:=by rw[Int.pow_succ]
  omega
def a1F(s:List UInt8)(k:Nat)(h:k<=s.length)(h9:s.length<=9)(ha:bu fB (s.take k)=true):0<=gG (s.take k)/\gG (s.take k)<=1000000000:=by
 have:=a1E k s h ha;have h2:(10:Int) ^ k<=10 ^ 9:=by
  have:(10:Nat) ^ k<=10 ^ 9:=Nat.pow_le_pow_right (by decide) (by omega);exact_mod_cast this
 omega
def a4Y(s:List UInt8)(k:Nat):fB (s.getD k 0)=(decide (48<=(s.getD k 0).toNat)&&decide ((s.getD k 0).toNat<=57)):=rfl
def b0o:IntKind.u8.min=0:=rfl
def b0n:IntKind.u8.max=255:=rfl
def a3Q(n:Int):bT .u8 n↔0<=n/\n<=255:=b6P
def a0D(n:Int):bT .i64 n↔O n:=b6P
def Eu(m:Int)(s:List UInt8):nC m s=(decide (1<=s.length)&&decide ((s.length:Int)<=m) && !(decide (1<s.length)&&decide ((s.getD 0 0).toNat=48))&&bu fB s):=rfl
def a5u(m:Int)(s:List UInt8)(h:¬ (1<=s.length/\(s.length:Int)<=m/\¬ (1<s.length/\(s.getD 0 0).toNat=48))):kP m s=0/\nC m s=false:=by
 have e:nC m s=false:=by
  cases hb:nC m s with
  | false=>rfl
  | true =>
   rw[Eu] at hb;simp only[b4S,b4N,b5a,b7g,b4M] at hb;exact absurd ⟨hb.1.1.1,hb.1.1.2,λ h=>by rcases hb.1.2 with g|g<;>omega⟩ h
 exact⟨by simp[kP,e],e⟩
structure JD(m:Int)(s:List UInt8)(k:Nat):Prop where
 len:k<=s.length/\s.length<=9
 ok:1<=s.length/\(s.length:Int)<=m/\¬ (1<s.length/\(s.getD 0 0).toNat=48)
 all:bu fB (s.take k)=true
def a6q(m:Int)(s:List UInt8)(h:1<=s.length/\(s.length:Int)<=m/\¬ (1<s.length/\(s.getD 0 0).toNat=48))(hm:m<=9):JD m s 0 :=
 ⟨⟨by omega,by omega⟩,h,by simp[bu]⟩
def a2r(m:Int)(s:List UInt8)(k:Nat)(h:JD m s k)(hk:k<s.length)(hb:(s.getD k 0).toNat<48\/57<(s.getD k 0).toNat):kP m s=0/\nC m s=false:=by
 have e:bu fB s=false:=dK fB 0 s k hk (by rw[a4Y,b7g,b4M,b4M];omega);have e':nC m s=false:=by rw[Eu,e];simp
 exact⟨by simp[kP,e'],e'⟩
def SJ(m:Int)(s:List UInt8)(k:Nat)(h:JD m s k)(hk:k<s.length)(h1:48<=(s.getD k 0).toNat)(h2:(s.getD k 0).toNat<=57):JD m s (k+1)/\gG (s.take (k+1))=gG (s.take k) * 10+(((s.getD k 0).toNat:Int) - 48) :=
 ⟨⟨⟨hk,h.len.2⟩,h.ok,by rw[dj fB 0 s k hk,h.all,a4Y,b5B h1,b5B h2];rfl⟩,V8 s k hk⟩
def a2s(m:Int)(s:List UInt8)(k:Nat)(h:JD m s k)(hk:s.length<=k):kP m s=gG (s.take k)/\nC m s=true:=by
 have e:s.take k=s:=b5o hk;have ha:=h.all;rw[e] at ha;have e':nC m s=true:=by
  rw[Eu,ha];have:=h.ok;simp only[b4S,b4N,b5a,b7g,b4M];exact⟨⟨⟨this.1,this.2.1⟩,(b5Q 1 s.length).elim (λ g => .inr (by omega)) (λ g => .inl (by omega))⟩,ae⟩
 exact⟨by rw[e];simp[kP,e'],e'⟩
def a9W(m:Int)(s:List UInt8)(k:Nat)(h:JD m s k):k<=s.length/\0<=gG (s.take k)/\gG (s.take k)<=1000000000 :=
 ⟨h.len.1,a1F s k h.len.1 h.len.2 h.all⟩
def Bp:aN:=⟨BJ,[.v .str],λ (s:List UInt8)=>⟨(none,[⟨(.int .i64),kP 9 s⟩,⟨.bool,nC 9 s⟩])⟩⟩
def Qv(s:List UInt8):Nat->aA:=(cQ 0 (.b (Nat) (λ k=>JD 9 s k) (λ k=>s.length - k) [6,7,8,9,10,11,12,13,14,15,16,17,18,19,20,21,22,23] (λ k=>[(5, .aH ⟨(.int .i64),((k:Int):Int)⟩),(4, .aH ⟨(.int .i64),(gG (s.take k):Int)⟩)])) bJ)
abbrev wG(s:List UInt8)(k1:Nat):Prop:=(let v0:=(((s.getD k1 0).toNat:Int)) - (48:Int);let v1:=(gG (s.take k1)) * (10:Int);(O v1/\(ak (k1:Int) s.length/\(bT .u8 v0/\(O v0/\(O (v1+v0)/\(O ((k1:Int)+(1:Int))/\(∃ k2:Nat,(JD 9 s k2/\(s.length - k2<s.length - k1/\((s=s/\((v1+v0)=(gG (s.take k2))/\(((k1:Int)+(1:Int))=(k2:Int)/\True)))/\True)))))))))))
abbrev jk(s:List UInt8):Prop:=(let v0:=(0:Int)=(kP 9 s)/\false=(nC 9 s);let v1:=(s.length:Int);((∃ k1:Nat,(JD 9 s k1/\((s=s/\((0:Int)=(gG (s.take k1))/\((0:Int)=(k1:Int)/\True)))/\True)))/\(∀ k1:Nat,let v2:=((s.getD k1 0).toNat:Int);(JD 9 s k1 ->
 (O v1 ->
 (((decide ((k1:Int)<v1))=true ->
 (ak (k1:Int) s.length/\(((decide (v2<(48:Int)))=false ->
 (ak (k1:Int) s.length/\(((decide ((57:Int)<v2))=true ->
 v0)/\((decide ((57:Int)<v2))=false ->
 (wG s k1)))))/\((decide (v2<(48:Int)))=(!false) ->
 ((true=true ->
 v0)/\(true=false ->
 (wG s k1)))))))/\((decide ((k1:Int)<v1))=false ->
 ((gG (s.take k1))=(kP 9 s)/\true=(nC 9 s)))))))))
abbrev wH(s:List UInt8):Prop:=(let v0:=decide ((((s.getD 0 0).toNat:Int))=(48:Int));let v1:=(0:Int)=(kP 9 s)/\false=(nC 9 s);let v2:=decide ((1:Int)<((s.length:Int)));(ak (0:Int) s.length/\((v0=true ->
 (O ((s.length:Int)) ->
 ((v2=true ->
 v1)/\(v2=false ->
 (jk s)))))/\(v0=(!true) ->
 ((false=true ->
 v1)/\(false=false ->
 (jk s)))))))
def II:aN.Good Bp:=by
 refine⟨ar xR,?_⟩;intro (s:List UInt8) _;refine aX [] [] [] [] trivial xR Ii (Qv s) (let v0:=(s.length:Int);let v1:=(0:Int)=(kP 9 s)/\false=(nC 9 s);((O v0->(((decide (v0<(1:Int)))=false->(O v0->(((decide ((9:Int)<v0))=false->(wH s))/\((decide ((9:Int)<v0))=(!false)->((true=true->v1)/\(true=false->(jk s)))))))/\((decide (v0<(1:Int)))=(!false)->((true=false->(wH s))/\(true=(!false)->((true=true->v1)/\(true=false->(jk s)))))))))) ?_;have f1:gG (s.take 0)=0:=by simp[gG]
 refine λ _=>⟨λ _ _=>⟨λ _=>⟨?_,λ _ _=>⟨λ _=>⟨?_,?_⟩,λ _=>⟨⟨0,?_,⟨rfl,?_,?_,ae⟩,ae⟩,λ k1 _ _=>⟨λ _=>⟨?_,λ _=>⟨?_,λ _=>⟨?_,?_⟩,λ _=>⟨?_,?_,?_,?_,?_,?_,k1+1,?_,?_,⟨rfl,?_,?_,ae⟩,ae⟩⟩,λ _=>⟨λ _=>⟨?_,?_⟩,λ _=>⟨?_,?_,?_,?_,?_,?_,k1+1,?_,?_,⟨rfl,?_,?_,ae⟩,ae⟩⟩⟩,λ _=>⟨?_,?_⟩⟩⟩⟩,λ _=>⟨λ _=>⟨?_,?_⟩,λ _=>⟨⟨0,?_,⟨rfl,?_,?_,ae⟩,ae⟩,λ k1 _ _=>⟨λ _=>⟨?_,λ _=>⟨?_,λ _=>⟨?_,?_⟩,λ _=>⟨?_,?_,?_,?_,?_,?_,k1+1,?_,?_,⟨rfl,?_,?_,ae⟩,ae⟩⟩,λ _=>⟨λ _=>⟨?_,?_⟩,λ _=>⟨?_,?_,?_,?_,?_,?_,k1+1,?_,?_,⟨rfl,?_,?_,ae⟩,ae⟩⟩⟩,λ _=>⟨?_,?_⟩⟩⟩⟩⟩,λ _=>⟨λ _=>⟨?_,?_⟩,λ _=>⟨⟨0,?_,⟨rfl,?_,?_,ae⟩,ae⟩,λ k1 _ _=>⟨λ _=>⟨?_,λ _=>⟨?_,λ _=>⟨?_,?_⟩,λ _=>⟨?_,?_,?_,?_,?_,?_,k1+1,?_,?_,⟨rfl,?_,?_,ae⟩,ae⟩⟩,λ _=>⟨λ _=>⟨?_,?_⟩,λ _=>⟨?_,?_,?_,?_,?_,?_,k1+1,?_,?_,⟨rfl,?_,?_,ae⟩,ae⟩⟩⟩,λ _=>⟨?_,?_⟩⟩⟩⟩⟩,λ _=>⟨λ _=>⟨?_,λ _ _=>⟨λ _=>⟨?_,?_⟩,λ _=>⟨⟨0,?_,⟨rfl,?_,?_,ae⟩,ae⟩,λ k1 _ _=>⟨λ _=>⟨?_,λ _=>⟨?_,λ _=>⟨?_,?_⟩,λ _=>⟨?_,?_,?_,?_,?_,?_,k1+1,?_,?_,⟨rfl,?_,?_,ae⟩,ae⟩⟩,λ _=>⟨λ _=>⟨?_,?_⟩,λ _=>⟨?_,?_,?_,?_,?_,?_,k1+1,?_,?_,⟨rfl,?_,?_,ae⟩,ae⟩⟩⟩,λ _=>⟨?_,?_⟩⟩⟩⟩,λ _=>⟨λ _=>⟨?_,?_⟩,λ _=>⟨⟨0,?_,⟨rfl,?_,?_,ae⟩,ae⟩,λ k1 _ _=>⟨λ _=>⟨?_,λ _=>⟨?_,λ _=>⟨?_,?_⟩,λ _=>⟨?_,?_,?_,?_,?_,?_,k1+1,?_,?_,⟨rfl,?_,?_,ae⟩,ae⟩⟩,λ _=>⟨λ _=>⟨?_,?_⟩,λ _=>⟨?_,?_,?_,?_,?_,?_,k1+1,?_,?_,⟨rfl,?_,?_,ae⟩,ae⟩⟩⟩,λ _=>⟨?_,?_⟩⟩⟩⟩⟩,λ _=>⟨λ _=>⟨?_,?_⟩,λ _=>⟨⟨0,?_,⟨rfl,?_,?_,ae⟩,ae⟩,λ k1 _ _=>⟨λ _=>⟨?_,λ _=>⟨?_,λ _=>⟨?_,?_⟩,λ _=>⟨?_,?_,?_,?_,?_,?_,k1+1,?_,?_,⟨rfl,?_,?_,ae⟩,ae⟩⟩,λ _=>⟨λ _=>⟨?_,?_⟩,λ _=>⟨?_,?_,?_,?_,?_,?_,k1+1,?_,?_,⟨rfl,?_,?_,ae⟩,ae⟩⟩⟩,λ _=>⟨?_,?_⟩⟩⟩⟩⟩⟩;all_goals try and_intros
 all_goals first|rfl|trivial|omega|((try simp only[b4T,b4R,b4N,b4M,ak,a3Q,a0D,O,b0o,b0n] at *);first|omega|exact (a5u 9 s (by omega)).1.symm|exact (a5u 9 s (by omega)).2.symm|exact a6q 9 s (by omega) (by omega)|(have hq:JD 9 s k1:=(by with_reducible assumption);have hl:=a9W 9 s k1 hq;first|omega|exact (a2r 9 s k1 hq (by omega) (by omega)).1.symm|exact (a2r 9 s k1 hq (by omega) (by omega)).2.symm|exact (SJ 9 s k1 hq (by omega) (by omega) (by omega)).1|exact (SJ 9 s k1 hq (by omega) (by omega) (by omega)).2.symm|(rw[(SJ 9 s k1 hq (by omega) (by omega) (by omega)).2];omega)|exact (a2s 9 s k1 hq (by omega)).1.symm|exact (a2s 9 s k1 hq (by omega)).2.symm))
def wE(b n:Int):Bool:=decide (0<=n/\n<=b - 1)
def a7U(b n:Int):wE b n=decide (0<=n/\n<=b - 1):=rfl
def Gi:aN:=⟨GM,[.v (.slice (.int .i64)), .v (.int .i64)],λ (xs:List Int) (below:Int)=>⟨(some (0<=below/\below<=4096),[⟨.bool,bu (wE below) xs⟩])⟩⟩
def Ut(xs:List Int)(below:Int):Nat->aA:=(cQ 0 (.b (Nat) (λ k=>k<=xs.length/\bu (wE below) (xs.take k)=true) (λ k=>xs.length - k) [0] (λ k=>[(9, .aH ⟨(.int .i64),((k:Int):Int)⟩)])) bJ)
def M6:aN.Good Gi:=by
 refine⟨ar CS,?_⟩;intro (xs:List Int) (below:Int) (hp:0<=below/\below<=4096);refine aX [fO] [] [] [] ⟨fY,ae⟩ CS Mw (Ut xs below) (let v0:=(xs.length:Int);let v1:=(0:Int);let v2:=wE below;let v3:=below - (1:Int);((O v0->((∃ k1:Nat,((k1<=xs.length/\bu v2 (xs.take k1)=true)/\((below=below/\(xs=xs/\(v0=v0/\(v1=(k1:Int)/\True))))/\True)))/\(∀ k1:Nat,let v4 := !(decide (v1<=(xs.getD k1 v1)/\(xs.getD k1 v1)<=v3));((k1<=xs.length/\bu v2 (xs.take k1)=true)->(((decide ((k1:Int)<v0))=true->(ak (k1:Int) xs.length/\(O (xs.getD k1 v1)->(O v3/\(((v4=true)->false=(bu v2 xs))/\((v4=false)->(O ((k1:Int)+(1:Int))/\(∃ k2:Nat,((k2<=xs.length/\bu v2 (xs.take k2)=true)/\(xs.length - k2<xs.length - k1/\((below=below/\(xs=xs/\(v0=v0/\(((k1:Int)+(1:Int))=(k2:Int)/\True))))/\True)))))))))))/\((decide ((k1:Int)<v0))=false->true=(bu v2 xs))))))))) ?_;have f0:=all_zero (wE below) xs;refine λ _=>⟨⟨0,?_,⟨rfl,rfl,rfl,?_,ae⟩,ae⟩,λ k1 _=>have H3:=dj (wE below) 0 xs k1;have H4:=dK (wE below) 0 xs k1;have H5:=dW (wE below) xs k1;have VV:=a7U below (xs.getD k1 0);⟨λ _=>⟨?_,λ _=>⟨?_,λ _=>?_,λ _=>⟨?_,k1+1,?_,?_,⟨rfl,rfl,rfl,?_,ae⟩,ae⟩⟩⟩,λ _=>?_⟩⟩;all_goals try and_intros
 all_goals first|rfl|trivial|omega|(simp only[decide_eq_true_eq,decide_eq_false_iff_not,ak,O] at *;first|omega|grind)|grind [ak,O]
end
end Go.Proofs.YtmjfpcajohhbeaaGreatDoor

/- How a function's contract is stated, and how it follows from the abstract machine. -/
import Derived.Test.YtmdefiphdgcijaaDoorVmNew
set_option linter.unusedVariables false
namespace Go.Proofs.YtmdefiphdgcijaaDoor
inductive PK where
 | v (τ:Ty)
 | r (τ:Ty)
 | f
 | c (ps:List Ty) (r:Ty)
 | o (τ:Ty)
 | b (k:Nat)
@[reducible] def KT:List PK→Type 1
 | []=>ULift (Vc×List TV)
 | .v τ::l=>τ.den→KT l
 | .r τ::l=>τ.den→KT l
 | .f::l=>FuncId→KT l
 | .c ps r::l=>FN ps r→KT l
 | .o τ::l=>τ.den→KT l
 | .b _::l=>KT l
def kOf:(l:List PK)→KT l→List Arg→Option (Vc×List TV)
 | [],x,[]=>some x.down
 | .v τ::l,g, .val a::zs=>match a.as τ with
  | some x=>kOf l (g x) zs
  | none=>none
 | .r τ::l,g, .ref a::zs=>match a.as τ with
  | some x=>kOf l (g x) zs
  | none=>none
 | .f::l,g, .fn a::zs=>kOf l (g a) zs
 | .c ps r::l,g, .clo a::zs=>match a.as ps r with
  | some x=>kOf l (g x) zs
  | none=>none
 | .o τ::l,g, .own a::zs=>match a.as τ with
  | some x=>kOf l (g x) zs
  | none=>none
 | _,_,_=>none
def KOk(P:Program)(f:FuncId):(l:List PK)→KT l→List Arg→Prop
 | [],x,acc=>x.down.1.ok→a1h P f acc (·=x.down.2)
 | .v τ::l,g,acc=>∀ x,KOk P f l (g x) (acc++[.val ⟨τ,x⟩])
 | .r τ::l,g,acc=>∀ x,KOk P f l (g x) (acc++[.ref ⟨τ,x⟩])
 | .f::l,g,acc=>∀ x,KOk P f l (g x) (acc++[.fn x])
 | .c ps r::l,g,acc=>∀ x,KOk P f l (g x) (acc++[.clo ⟨ps,r,x⟩])
 | .o τ::l,g,acc=>∀ x,KOk P f l (g x) (acc++[.own ⟨τ,x⟩])
 | .b _::_,_,_=>True
theorem b4h{P:Program}{f:FuncId}:∀ (l:List PK) (g:KT l) (acc zs:List Arg) (pre:Vc) (res:List TV),KOk P f l g acc→kOf l g zs=some (pre,res)→pre.ok→a1h P f (acc++zs) (·=res)
 | [],g,acc,zs,pre,res,h,e,hp=>by
  cases zs with
  | nil =>
   simp only[kOf,Option.some.injEq] at e
   have h':g.down.1.ok→a1h P f acc (·=g.down.2):=h
   rw[e] at h'
   rw[List.append_nil]
   exact h' hp
  | cons a zs=>simp[kOf] at e
 | .v τ::l,g,acc,zs,pre,res,h,e,hp=>by
  cases zs with
  | nil=>simp[kOf] at e
  | cons a zs =>
   cases a with
   | val a =>
    rw[kOf] at e
    split at e
    ·rename_i x hx
     have:=b4h l (g x) (acc++[.val ⟨τ,x⟩]) zs pre res (h x) e hp
     rw[TV.as_some hx]
     simpa using this
    ·cases e
   | ref a=>simp[kOf] at e
   | clo a=>simp[kOf] at e
   | own a=>simp[kOf] at e
   | fn a=>simp[kOf] at e
   | box a=>simp[kOf] at e
 | .r τ::l,g,acc,zs,pre,res,h,e,hp=>by
  cases zs with
  | nil=>simp[kOf] at e
  | cons a zs =>
   cases a with
   | ref a =>
    rw[kOf] at e
    split at e
    ·rename_i x hx
     have:=b4h l (g x) (acc++[.ref ⟨τ,x⟩]) zs pre res (h x) e hp
     rw[TV.as_some hx]
     simpa using this
    ·cases e
   | val a=>simp[kOf] at e
   | clo a=>simp[kOf] at e
   | own a=>simp[kOf] at e
   | fn a=>simp[kOf] at e
   | box a=>simp[kOf] at e
 | .f::l,g,acc,zs,pre,res,h,e,hp=>by
  cases zs with
  | nil=>simp[kOf] at e
  | cons a zs =>
   cases a with
   | fn a =>
    rw[kOf] at e
    have:=b4h l (g a) (acc++[.fn a]) zs pre res (h a) e hp
    simpa using this
   | val a=>simp[kOf] at e
   | clo a=>simp[kOf] at e
   | own a=>simp[kOf] at e
   | ref a=>simp[kOf] at e
   | box a=>simp[kOf] at e
 | .c ps r::l,g,acc,zs,pre,res,h,e,hp=>by
  cases zs with
  | nil=>simp[kOf] at e
  | cons a zs =>
   cases a with
   | clo a =>
    rw[kOf] at e
    split at e
    ·rename_i x hx
     have:=b4h l (g x) (acc++[.clo ⟨ps,r,x⟩]) zs pre res (h x) e hp
     rw[FV.as_some hx]
     simpa using this
    ·cases e
   | val a=>simp[kOf] at e
   | ref a=>simp[kOf] at e
   | fn a=>simp[kOf] at e
   | own a=>simp[kOf] at e
   | box a=>simp[kOf] at e
 | .o τ::l,g,acc,zs,pre,res,h,e,hp=>by
  cases zs with
  | nil=>simp[kOf] at e
  | cons a zs =>
   cases a with
   | own a =>
    rw[kOf] at e
    split at e
    ·rename_i x hx
     have:=b4h l (g x) (acc++[.own ⟨τ,x⟩]) zs pre res (h x) e hp
     rw[TV.as_some hx]
     simpa using this
    ·cases e
   | val a=>simp[kOf] at e
   | ref a=>simp[kOf] at e
   | fn a=>simp[kOf] at e
   | clo a=>simp[kOf] at e
   | box a=>simp[kOf] at e
 | .b k::l,g,acc,zs,pre,res,h,e,hp=>by
  cases zs<;>simp[kOf] at e
structure Ctr where
 n:Nat
 l:List PK
 g:KT l
def Ctr.Good(c:Ctr):Prop:=a5p a0k c.n∧KOk a0k c.n c.l c.g []
def b0o:List Ctr→Nat→List Arg→Option (Vc×List TV)
 | [],_,_=>none
 | c::r,f,zs=>match Nat.beq c.n f with
  | true=>kOf c.l c.g zs
  | false=>b0o r f zs
def PK.own:PK→Bool
 | .o _=>true
 | _=>false
def e4s:List Ctr→Nat→List Bool
 | [],_=>[]
 | c::r,f=>match Nat.beq c.n f with
  | true=>match c.l.any PK.own with
   | true=>c.l.map PK.own
   | false=>[]
  | false=>e4s r f
def a1c(l:List Ctr)(wr:List Nat:=[])(cl:List (Nat×c2o):=[])(ro:List Nat:=[]):Env:=Env.mk b9g d6t (b0o l) wr [] (fun _ _=>none) (fun _=>none) (a0f cl) ro (fun _=>[]) (fun _=>none) (fun _ _ _=>none) d0d c0y
def a0z:List Ctr→Prop
 | []=>True
 | c::r=>c.Good∧a0z r
theorem d3q:∀ (l:List Ctr),a0z l→∀ f args pre res,b0o l f args=some (pre,res)→pre.ok→a5p a0k f∧a1h a0k f args (·=res)
 | [],_,f,args,pre,res,e,_=>by cases e
 | c::r,h,f,args,pre,res,e,hp=>by
  rw[b0o] at e
  split at e
  ·rename_i hb
   have hb:=Nat.eq_of_beq_eq_true hb
   subst hb
   exact⟨h.1.1,b4h c.l c.g [] args pre res h.1.2 e hp⟩
  ·exact d3q r h.2 f args pre res e hp
theorem c4r{α:Type}:∀ (l:List (Nat×α)) (n:Nat) (v:α),a0f l n=some v→(n,v)∈l
 | [],n,v,h=>by cases h
 | (k,u)::r,n,v,h=>by
  rw[a0f] at h
  split at h
  ·rename_i hb
   cases h
   rw[Nat.eq_of_beq_eq_true hb]
   exact List.mem_cons_self ..
  ·exact List.mem_cons_of_mem _ (c4r r n v h)
theorem e0x{l:List Ctr}{wr:List Nat}{cl:List (Nat×c2o)}{ro:List Nat}(h:a0z l):a0r a0k (a1c l wr cl ro) where
 ty T τ b e ht:=by
  have h1:=List.all_eq_true.mp (Bool.and_eq_true_iff.1 (c7e (b0o l) wr [] (fun _ _=>none) (fun _=>none) (a0f cl) ro (fun _=>[]) (fun _=>none) (fun _ _ _=>none) c0y)).1 _ (c4r _ _ _ ht)
  exact h1
 mty T κ ε ht:=by
  have h1:=List.all_eq_true.mp (Bool.and_eq_true_iff.1 (c7e (b0o l) wr [] (fun _ _=>none) (fun _=>none) (a0f cl) ro (fun _=>[]) (fun _=>none) (fun _ _ _=>none) c0y)).2 _ (c4r _ _ _ ht)
  exact h1
 pty _ _ _:=trivial
 ctr:=d3q l h
 octr _ _ _ _ h:=by cases h
 mark _ _ h:=by cases h
 nctr:=d8z
 sctr _ _ _ _ _ _ _ h:=by cases h
theorem a1g {f:FuncId} {fn:Func} (h:a0k.funcs[f]?=some fn) (hb:fn.body.isNone=false) (hn:(fn.name == "runtime.NumGoroutine")=false):a5p a0k f:=⟨fn,h,hb,hn⟩
theorem b6b:∀ {l m:List TV},a2e l m→l=m
 | [],[],_=>rfl
 | [v],[u],h=>by rw[a8g h]
 | v::v'::vs,[u],h=>by
  have:=b6b (l:=v'::vs) (m:=[]) h.2
  cases this
 | [v],u::u'::us,h=>by
  have:=b6b (l:=[]) (m:=u'::us) h.2
  cases this
 | v::v'::vs,u::u'::us,h=>by rw[a8g h.1,b6b (l:=v'::vs) (m:=u'::us) h.2]
 | [],u::us,h=>by cases h
 | v::vs,[],h=>by
  cases vs<;>cases h
theorem a1h.mono{P:Program}{f:FuncId}{args:List Arg}{p q:List TV→Prop}(h:a1h P f args p)(hpq:∀ r,p r→q r):a1h P f args q:=by
 intro w S vals hS ha
 refine (h w S vals hS ha).mono fun e w'=>?_
 rintro⟨x,S',res,h1,h2,h3⟩
 exact⟨x,S',res,h1,hpq _ h2,h3⟩
theorem a1k{f:FuncId}{fn:Func}{code:Code}{l:List Ctr}{wr:List Nat}{cl:List (Nat×c2o)}{ro:List Nat}(hl:a0z l)(hf:a0k.funcs[f]?=some fn)(hb:fn.body=some code)(Λ:Nat→a0w){args:List Arg}{res:List TV}
  (h:awp (a1c l wr cl ro) code Λ 0 (a1m (a1c l wr cl ro) fn fun r=>a2e r res) (a0q fn args)):a1h a0k f args (·=res) :=
 (e1e (e0x hl) b9c hf hb Λ h).mono fun _=>b6b
def b3i(P:Program)(f:FuncId):(l:List PK)→KT l→List Arg→Prop
 | [],x,acc=>x.down.1.ok→b4m P f acc x.down.2
 | .v τ::l,g,acc=>∀ x,b3i P f l (g x) (acc++[.val ⟨τ,x⟩])
 | .r τ::l,g,acc=>∀ x,b3i P f l (g x) (acc++[.ref ⟨τ,x⟩])
 | .f::l,g,acc=>∀ x,b3i P f l (g x) (acc++[.fn x])
 | .c ps r::l,g,acc=>∀ x,b3i P f l (g x) (acc++[.clo ⟨ps,r,x⟩])
 | .o τ::l,g,acc=>∀ x,b3i P f l (g x) (acc++[.own ⟨τ,x⟩])
 | .b _::_,_,_=>True
theorem b1h{P:Program}{f:FuncId}:∀ (l:List PK) (g:KT l) (acc zs:List Arg) (pre:Vc) (res:List TV),b3i P f l g acc→kOf l g zs=some (pre,res)→pre.ok→b4m P f (acc++zs) res
 | [],g,acc,zs,pre,res,h,e,hp=>by
  cases zs with
  | nil =>
   simp only[kOf,Option.some.injEq] at e
   have h':g.down.1.ok→b4m P f acc g.down.2:=h
   rw[e] at h'
   rw[List.append_nil]
   exact h' hp
  | cons a zs=>simp[kOf] at e
 | .v τ::l,g,acc,zs,pre,res,h,e,hp=>by
  cases zs with
  | nil=>simp[kOf] at e
  | cons a zs =>
   cases a with
   | val a =>
    rw[kOf] at e
    split at e
    ·rename_i x hx
     have:=b1h l (g x) (acc++[.val ⟨τ,x⟩]) zs pre res (h x) e hp
     rw[TV.as_some hx]
     simpa using this
    ·cases e
   | ref a=>simp[kOf] at e
   | clo a=>simp[kOf] at e
   | own a=>simp[kOf] at e
   | fn a=>simp[kOf] at e
   | box a=>simp[kOf] at e
 | .r τ::l,g,acc,zs,pre,res,h,e,hp=>by
  cases zs with
  | nil=>simp[kOf] at e
  | cons a zs =>
   cases a with
   | ref a =>
    rw[kOf] at e
    split at e
    ·rename_i x hx
     have:=b1h l (g x) (acc++[.ref ⟨τ,x⟩]) zs pre res (h x) e hp
     rw[TV.as_some hx]
     simpa using this
    ·cases e
   | val a=>simp[kOf] at e
   | clo a=>simp[kOf] at e
   | own a=>simp[kOf] at e
   | fn a=>simp[kOf] at e
   | box a=>simp[kOf] at e
 | .f::l,g,acc,zs,pre,res,h,e,hp=>by
  cases zs with
  | nil=>simp[kOf] at e
  | cons a zs =>
   cases a with
   | fn a =>
    rw[kOf] at e
    have:=b1h l (g a) (acc++[.fn a]) zs pre res (h a) e hp
    simpa using this
   | val a=>simp[kOf] at e
   | clo a=>simp[kOf] at e
   | own a=>simp[kOf] at e
   | ref a=>simp[kOf] at e
   | box a=>simp[kOf] at e
 | .c ps r::l,g,acc,zs,pre,res,h,e,hp=>by
  cases zs with
  | nil=>simp[kOf] at e
  | cons a zs =>
   cases a with
   | clo a =>
    rw[kOf] at e
    split at e
    ·rename_i x hx
     have:=b1h l (g x) (acc++[.clo ⟨ps,r,x⟩]) zs pre res (h x) e hp
     rw[FV.as_some hx]
     simpa using this
    ·cases e
   | val a=>simp[kOf] at e
   | ref a=>simp[kOf] at e
   | fn a=>simp[kOf] at e
   | own a=>simp[kOf] at e
   | box a=>simp[kOf] at e
 | .o τ::l,g,acc,zs,pre,res,h,e,hp=>by
  cases zs with
  | nil=>simp[kOf] at e
  | cons a zs =>
   cases a with
   | own a =>
    rw[kOf] at e
    split at e
    ·rename_i x hx
     have:=b1h l (g x) (acc++[.own ⟨τ,x⟩]) zs pre res (h x) e hp
     rw[TV.as_some hx]
     simpa using this
    ·cases e
   | val a=>simp[kOf] at e
   | ref a=>simp[kOf] at e
   | fn a=>simp[kOf] at e
   | clo a=>simp[kOf] at e
   | box a=>simp[kOf] at e
 | .b k::l,g,acc,zs,pre,res,h,e,hp=>by
  cases zs<;>simp[kOf] at e
def Ctr.OGood(c:Ctr):Prop:=a5p a0k c.n∧b3i a0k c.n c.l c.g []
theorem OwV.rdV{w:World}{S:Nat→Prop}{v:TV}{x:Value}{fp:List Nat}(h:OwV w v x fp)(hb:∀ b∈fp,S b):RdV w S v x:=by
 obtain⟨τ,y⟩:=v
 cases τ with
 | st s =>
  obtain⟨cs,h1,h2⟩:=h
  exact⟨cs,h1,h2.rd _ hb⟩
 | _=>exact Ow.rd _ h hb
theorem c5r.rdV{w:World}{S:Nat→Prop}:∀ {vs:List TV} {xs:List Value} {fp:List Nat},c5r w vs xs fp→(∀ b∈fp,S b)→a0g (RdV w S) vs xs
 | [],[],_,_,_=>trivial
 | v::vs,x::xs,fp,h,hb=>by
  obtain⟨f1,f2,rfl,h1,h2⟩:=h
  exact⟨h1.rdV fun b hb'=>hb b (List.mem_append_left _ hb'),c5r.rdV h2 fun b hb'=>hb b (List.mem_append_right _ hb')⟩
 | [],_::_,_,h,_=>h.elim
 | _::_,[],_,h,_=>h.elim
theorem b4m.plain{P:Program}{f:FuncId}{args:List Arg}{res:List TV}(h:b4m P f args res):a1h P f args (·=res):=by
 intro w S vals hS ha
 refine (h w S vals [] hS (b2x.of_all2 ha) (.inl rfl) List.nodup_nil (fun b hb=>by cases hb)).mono ?_
 rintro e w' ⟨x,fp,rfl,hk,hr,_,hfp⟩
 have hn:∀ b∈fp,w.heap.size≤b∧b<w'.heap.size:=fun b hb=>(hfp b hb).elim (fun q=>by cases q) id
 refine⟨x,fun b=>S b∨b∈fp,res,rfl,rfl,⟨hk.os,hk.tape,hk.output,hk.size,fun b hb _=>hk.block b hb fun q=>by cases q⟩,fun b hb=>⟨fun q=>q.elim id fun q=>absurd (hn b q).1 (by omega), .inl⟩,fun b q=>q.elim (fun q=>Nat.lt_of_lt_of_le (hS.1 b q) hk.size) fun q=>(hn b q).2,?_⟩
 match res,hr with
 | [v],hr=>exact OwV.rdV (v:=v) hr fun b hb => .inr hb
 | [],hr =>
  obtain⟨l,h1,h2⟩:=hr
  exact⟨l,h1,h2.rdV fun b hb => .inr hb⟩
 | v::u::vs,hr =>
  obtain⟨l,h1,h2⟩:=hr
  exact⟨l,h1,h2.rdV fun b hb => .inr hb⟩
theorem b3i.plain{P:Program}{f:FuncId}:∀ (l:List PK) (g:KT l) (acc:List Arg),b3i P f l g acc→KOk P f l g acc
 | [],_,_,h=>fun hp=>(h hp).plain
 | .v _::l,g,_,h=>fun x=>b3i.plain l (g x) _ (h x)
 | .r _::l,g,_,h=>fun x=>b3i.plain l (g x) _ (h x)
 | .f::l,g,_,h=>fun x=>b3i.plain l (g x) _ (h x)
 | .c _ _::l,g,_,h=>fun x=>b3i.plain l (g x) _ (h x)
 | .o _::l,g,_,h=>fun x=>b3i.plain l (g x) _ (h x)
 | .b _::_,_,_,_=>trivial
theorem Ctr.OGood.plain{k:Ctr}(h:k.OGood):k.Good:=⟨h.1,b3i.plain k.l k.g [] h.2⟩
def b3g:List Ctr→Prop
 | []=>True
 | c::r=>c.OGood∧b3g r
theorem d9c:∀ (l:List Ctr),b3g l→∀ f args pre res,b0o l f args=some (pre,res)→pre.ok→a5p a0k f∧b4m a0k f args res
 | [],_,f,args,pre,res,e,_=>by cases e
 | c::r,h,f,args,pre,res,e,hp=>by
  rw[b0o] at e
  split at e
  ·rename_i hb
   have hb:=Nat.eq_of_beq_eq_true hb
   subst hb
   exact⟨h.1.1,b1h c.l c.g [] args pre res h.1.2 e hp⟩
  ·exact d9c r h.2 f args pre res e hp
structure MK where
 n:Nat
 m:b7v
def MK.Good(c:MK):Prop:=a5p a0k c.n∧c8l a0k c.n c.m
def b3f:List MK→Prop
 | []=>True
 | c::r=>c.Good∧b3f r
def c4w:List MK→Nat→Option b7v
 | [],_=>none
 | c::r,f=>match Nat.beq c.n f with
  | true=>some c.m
  | false=>c4w r f
theorem d8w:∀ (l:List MK),b3f l→∀ f m,c4w l f=some m→a5p a0k f∧c8l a0k f m
 | [],_,f,m,e=>by cases e
 | c::r,h,f,m,e=>by
  rw[c4w] at e
  split at e
  ·rename_i hb
   have hb:=Nat.eq_of_beq_eq_true hb
   subst hb
   cases e
   exact h.1
  ·exact d8w r h.2 f m e
@[reducible] def KTC:List Ty→Type 1→Type 1
 | [],R=>R
 | t::ts,R=>t.den→KTC ts R
@[reducible] def KTD:List (List Ty)→Type 1
 | []=>ULift (Vc×List TV×List (List TV))
 | ts::D=>KTC ts (KTD D)
@[reducible] def KTS:List PK→List (List Ty)→Type 1
 | [],D=>KTD D
 | .v τ::l,D=>τ.den→KTS l D
 | .r τ::l,D=>τ.den→KTS l D
 | .f::l,D=>FuncId→KTS l D
 | .b _::l,D=>KTS l D
 | .c _ _::l,D=>KTS l D
 | .o _::l,D=>KTS l D
def kC:(ts:List Ty)→(R:Type 1)→KTC ts R→List TV→Option R
 | [],_,r,[]=>some r
 | t::ts,R,g,v::vs=>match v.as t with
  | some x=>kC ts R (g x) vs
  | none=>none
 | _,_,_,_=>none
def kD:(D:List (List Ty))→KTD D→List (List TV)→Option (Vc×List TV×List (List TV))
 | [],r,[]=>some r.down
 | ts::D,g,vs::dss=>match kC ts (KTD D) g vs with
  | some h=>kD D h dss
  | none=>none
 | _,_,_=>none
def kS:(l:List PK)→(D:List (List Ty))→KTS l D→List Arg→List (List TV)→Option (Vc×List TV×List (List TV))
 | [],D,g,[],dss=>kD D g dss
 | .v τ::l,D,g, .val a::zs,dss=>match a.as τ with
  | some x=>kS l D (g x) zs dss
  | none=>none
 | .r τ::l,D,g, .ref a::zs,dss=>match a.as τ with
  | some x=>kS l D (g x) zs dss
  | none=>none
 | .f::l,D,g, .fn a::zs,dss=>kS l D (g a) zs dss
 | .b k::l,D,g, .box j::zs,dss=>match Nat.beq k j with
  | true=>kS l D g zs dss
  | false=>none
 | _,_,_,_,_=>none
def e7g:(ts:List Ty)→(R:Type 1)→(R→List TV→Prop)→KTC ts R→List TV→Prop
 | [],_,p,r,acc=>p r acc
 | t::ts,R,p,g,acc=>∀ x,e7g ts R p (g x) (acc++[⟨t,x⟩])
def e7h(q:List (List TV)→Vc×List TV×List (List TV)→Prop):(D:List (List Ty))→KTD D→List (List TV)→Prop
 | [],r,acc=>q acc r.down
 | ts::D,g,acc=>e7g ts (KTD D) (fun h vs=>e7h q D h (acc++[vs])) g []
def d7g(P:Program)(f:FuncId)(sh:List (List CK)):(l:List PK)→(D:List (List Ty))→KTS l D→List Arg→Prop
 | [],D,g,acc=>e7h (fun dss r=>r.1.ok→e3n P f sh acc dss r.2.1 r.2.2) D g []
 | .v τ::l,D,g,acc=>∀ x,d7g P f sh l D (g x) (acc++[.val ⟨τ,x⟩])
 | .r τ::l,D,g,acc=>∀ x,d7g P f sh l D (g x) (acc++[.ref ⟨τ,x⟩])
 | .f::l,D,g,acc=>∀ x,d7g P f sh l D (g x) (acc++[.fn x])
 | .b k::l,D,g,acc=>d7g P f sh l D g (acc++[.box k])
 | .c _ _::_,_,_,_=>True
 | .o _::_,_,_,_=>True
theorem e8w:∀ (ts:List Ty) (R:Type 1) (p:R→List TV→Prop) (g:KTC ts R) (acc vs:List TV) (r:R),e7g ts R p g acc→kC ts R g vs=some r→p r (acc++vs)
 | [],R,p,g,acc,vs,r,h,e=>by
  cases vs with
  | nil =>
   simp only[kC,Option.some.injEq] at e
   subst e
   rw[List.append_nil]
   exact h
  | cons v vs=>simp[kC] at e
 | t::ts,R,p,g,acc,vs,r,h,e=>by
  cases vs with
  | nil=>simp[kC] at e
  | cons v vs =>
   rw[kC] at e
   split at e
   ·rename_i x hx
    have:=e8w ts R p (g x) (acc++[⟨t,x⟩]) vs r (h x) e
    rw[TV.as_some hx]
    simpa using this
   ·cases e
theorem e8x(q:List (List TV)→Vc×List TV×List (List TV)→Prop):∀ (D:List (List Ty)) (g:KTD D) (acc dss:List (List TV)) (r:Vc×List TV×List (List TV)),e7h q D g acc→kD D g dss=some r→q (acc++dss) r
 | [],g,acc,dss,r,h,e=>by
  cases dss with
  | nil =>
   simp only[kD,Option.some.injEq] at e
   subst e
   rw[List.append_nil]
   exact h
  | cons v vs=>simp[kD] at e
 | ts::D,g,acc,dss,r,h,e=>by
  cases dss with
  | nil=>simp[kD] at e
  | cons vs dss =>
   rw[kD] at e
   split at e
   ·rename_i k hk
    have h1:=e8w ts _ _ g [] vs k h hk
    have:=e8x q D k (acc++[vs]) dss r (by simpa using h1) e
    simpa using this
   ·cases e
theorem d6a{P:Program}{f:FuncId}{sh:List (List CK)}:∀ (l:List PK) (D:List (List Ty)) (g:KTS l D) (acc zs:List Arg) (dss:List (List TV)) (pre:Vc) (res:List TV) (dss':List (List TV)),d7g P f sh l D g acc→kS l D g zs dss=some (pre,res,dss')→pre.ok→e3n P f sh (acc++zs) dss res dss'
 | [],D,g,acc,zs,dss,pre,res,dss',h,e,hp=>by
  cases zs with
  | nil =>
   have:=e8x _ D g [] dss _ h e
   simpa using this hp
  | cons z zs=>simp[kS] at e
 | .v τ::l,D,g,acc,zs,dss,pre,res,dss',h,e,hp=>by
  cases zs with
  | nil=>simp[kS] at e
  | cons a zs =>
   cases a with
   | val a =>
    rw[kS] at e
    split at e
    ·rename_i x hx
     have:=d6a l D (g x) (acc++[.val ⟨τ,x⟩]) zs dss pre res dss' (h x) e hp
     rw[TV.as_some hx]
     simpa using this
    ·cases e
   | _=>simp[kS] at e
 | .r τ::l,D,g,acc,zs,dss,pre,res,dss',h,e,hp=>by
  cases zs with
  | nil=>simp[kS] at e
  | cons a zs =>
   cases a with
   | ref a =>
    rw[kS] at e
    split at e
    ·rename_i x hx
     have:=d6a l D (g x) (acc++[.ref ⟨τ,x⟩]) zs dss pre res dss' (h x) e hp
     rw[TV.as_some hx]
     simpa using this
    ·cases e
   | _=>simp[kS] at e
 | .f::l,D,g,acc,zs,dss,pre,res,dss',h,e,hp=>by
  cases zs with
  | nil=>simp[kS] at e
  | cons a zs =>
   cases a with
   | fn a =>
    rw[kS] at e
    have:=d6a l D (g a) (acc++[.fn a]) zs dss pre res dss' (h a) e hp
    simpa using this
   | _=>simp[kS] at e
 | .b k::l,D,g,acc,zs,dss,pre,res,dss',h,e,hp=>by
  cases zs with
  | nil=>simp[kS] at e
  | cons a zs =>
   cases a with
   | box j =>
    rw[kS] at e
    split at e
    ·rename_i hb
     have hb:=Nat.eq_of_beq_eq_true hb
     subst hb
     have:=d6a l D g (acc++[.box k]) zs dss pre res dss' h e hp
     simpa using this
    ·cases e
   | _=>simp[kS] at e
 | .c _ _::l,D,g,acc,zs,dss,pre,res,dss',h,e,hp=>by cases zs<;>simp[kS] at e
 | .o _::l,D,g,acc,zs,dss,pre,res,dss',h,e,hp=>by cases zs<;>simp[kS] at e
structure SCt where
 n:Nat
 sh:List (List CK)
 l:List PK
 D:List (List Ty)
 g:KTS l D
def SCt.Good(c:SCt):Prop:=a5p a0k c.n∧d7g a0k c.n c.sh c.l c.D c.g []
def b3h:List SCt→Prop
 | []=>True
 | c::r=>c.Good∧b3h r
def e8e:List PK→List (Option Nat)
 | []=>[]
 | .b k::l=>some k::e8e l
 | _::l=>none::e8e l
def d8b:List SCt→Nat→Option SK
 | [],_=>none
 | c::r,f=>match Nat.beq c.n f with
  | true=>some ⟨e8e c.l,c.sh⟩
  | false=>d8b r f
def c5k:List SCt→Nat→List Arg→List (List TV)→Option (Vc×List TV×List (List TV))
 | [],_,_,_=>none
 | c::r,f,zs,dss=>match Nat.beq c.n f with
  | true=>kS c.l c.D c.g zs dss
  | false=>c5k r f zs dss
theorem d9g:∀ (l:List SCt),b3h l→∀ f sk args dss pre res dss',d8b l f=some sk→c5k l f args dss=some (pre,res,dss')→pre.ok→a5p a0k f∧e3n a0k f sk.sh args dss res dss'
 | [],_,f,sk,args,dss,pre,res,dss',h,_,_=>by cases h
 | c::r,h,f,sk,args,dss,pre,res,dss',hs,e,hp=>by
  rw[d8b] at hs
  rw[c5k] at e
  split at e
  ·rename_i hb
   rw[hb] at hs
   have hb:=Nat.eq_of_beq_eq_true hb
   subst hb
   simp only[Option.some.injEq] at hs
   subst hs
   exact⟨h.1.1,by simpa using d6a c.l c.D c.g [] args dss pre res dss' h.1.2 e hp⟩
  ·rename_i hb
   rw[hb] at hs
   exact d9g r h.2 f sk args dss pre res dss' hs e hp
def a6n(l:List Ctr)(ol:List Ctr)(ml:List MK)(own wr:List Nat)(cl:List (Nat×c2o):=[])(ro:List Nat:=[])(sl:List SCt:=[]):Env:=Env.mk b9g d6t (b0o l) wr own (b0o ol) (c4w ml) (a0f cl) ro (e4s ol) (d8b sl) (c5k sl) d0d c0y
theorem d7m{l ol:List Ctr}{ml:List MK}{own wr:List Nat}{cl:List (Nat×c2o)}{ro:List Nat}{sl:List SCt}(h:a0z l)(ho:b3g ol)(hm:b3f ml)(hs:b3h sl):a0r a0k (a6n l ol ml own wr cl ro sl) where
 ty T τ b e ht:=by
  have h1:=List.all_eq_true.mp (Bool.and_eq_true_iff.1 (c7e (b0o l) wr own (b0o ol) (c4w ml) (a0f cl) ro (e4s ol) (d8b sl) (c5k sl) c0y)).1 _ (c4r _ _ _ ht)
  exact h1
 mty T κ ε ht:=by
  have h1:=List.all_eq_true.mp (Bool.and_eq_true_iff.1 (c7e (b0o l) wr own (b0o ol) (c4w ml) (a0f cl) ro (e4s ol) (d8b sl) (c5k sl) c0y)).2 _ (c4r _ _ _ ht)
  exact h1
 pty _ _ _:=trivial
 ctr:=d3q l h
 octr:=d9c ol ho
 mark:=d8w ml hm
 nctr:=d8z
 sctr:=d9g sl hs
theorem e4j{f:FuncId}{fn:Func}{code:Code}{l ol:List Ctr}{ml:List MK}{own wr:List Nat}{cl:List (Nat×c2o)}{ro:List Nat}{sl:List SCt}(hl:a0z l)(ho:b3g ol)(hm:b3f ml)(hs:b3h sl)(hf:a0k.funcs[f]?=some fn)(hb:fn.body=some code)(Λ:Nat→a0w){args:List Arg}{res:List TV}
  (h:awp (a6n l ol ml own wr cl ro sl) code Λ 0 (a1m (a6n l ol ml own wr cl ro sl) fn fun r=>a2e r res) (a0q fn args)):a1h a0k f args (·=res) :=
 (e1e (d7m hl ho hm hs) b9c hf hb Λ h).mono fun _=>b6b
theorem d6q{f:FuncId}{fn:Func}{code:Code}{l ol:List Ctr}{ml:List MK}{own wr:List Nat}{cl:List (Nat×c2o)}{ro:List Nat}{sl:List SCt}(hl:a0z l)(ho:b3g ol)(hm:b3f ml)(hs:b3h sl)(hf:a0k.funcs[f]?=some fn)(hb:fn.body=some code)(Λ:Nat→a0w){args:List Arg}{res:List TV}
  (h:awp (a6n l ol ml own wr cl ro sl) code Λ 0 (b9n (a6n l ol ml own wr cl ro sl) fn fun r=>a2e r res) (d0v fn args)):b4m a0k f args res :=
 e1d (d7m hl ho hm hs) b9c hf hb Λ (fun _=>b6b) h
theorem b0i{f:FuncId}{fn:Func}{code:Code}{l ol:List Ctr}{ml:List MK}{own wr:List Nat}{cl:List (Nat×c2o)}{ro:List Nat}{sl:List SCt}(hl:a0z l)(ho:b3g ol)(hm:b3f ml)(hs:b3h sl)(hf:a0k.funcs[f]?=some fn)(hb:fn.body=some code){m:b7v}(Λ:m.τ.den→Int→Nat→a0w)(hcells:∀ x:m.τ.den,(TV.cells ⟨m.τ,x⟩).length≤50)(hn:2≤fn.ntmps)
  (h:∀ (x:m.τ.den) (k:Int),(m.g x k).1.ok→a0e k→awp (a6n l ol ml own wr cl ro sl) code (Λ x k) 0 (a3s fn m x k) (a1v fn ⟨m.τ,x⟩ k)):c8l a0k f m :=
 d9r (d7m hl ho hm hs) b9c hf hb Λ hcells hn h
end Go.Proofs.YtmdefiphdgcijaaDoor

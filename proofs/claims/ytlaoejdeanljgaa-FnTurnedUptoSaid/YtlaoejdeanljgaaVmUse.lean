/- How a function's contract is stated, and how it follows from the abstract machine. -/
import Derived.Test.YtlaoejdeanljgaaVmNew
set_option linter.unusedVariables false
namespace Go.Proofs.Ytlaoejdeanljgaa
abbrev msz{α:Type}[SizeOf α](x:α):Nat:=SizeOf.sizeOf x
theorem a1w{α:Type}[SizeOf α](d:α):∀ (xs:List α) (i:Nat),i<xs.length→msz (xs.getD i d)<msz xs
 | [],i,h=>by simp at h
 | x::xs,0,h=>by simp[msz];omega
 | x::xs,i+1,h=>by
  have:=a1w d xs i (by simpa using h)
  simp[msz] at this ⊢;omega
theorem b3v(e:a0b):msz e.kids<msz e:=by
 cases e;simp[msz];omega
theorem b3j(e:a0a):msz e.kids<msz e:=by
 cases e;simp[msz];omega
inductive PK where
 | v (τ:Ty)
 | r (τ:Ty)
 | f
 | c (ps:List Ty) (r:Ty)
 | o (τ:Ty)
 | b (k:Nat)
@[reducible] def KT:List PK→Type 1
 | []=>ULift (Vc×List TV)
 | .v τ::l=>τ.den→KT l
 | .r τ::l=>τ.den→KT l
 | .f::l=>FuncId→KT l
 | .c ps r::l=>FN ps r→KT l
 | .o τ::l=>τ.den→KT l
 | .b _::l=>KT l
def kOf:(l:List PK)→KT l→List Arg→Option (Vc×List TV)
 | [],x,[]=>some x.down
 | .v τ::l,g, .val a::zs=>match a.as τ with
  | some x=>kOf l (g x) zs
  | none=>none
 | .r τ::l,g, .ref a::zs=>match a.as τ with
  | some x=>kOf l (g x) zs
  | none=>none
 | .f::l,g, .fn a::zs=>kOf l (g a) zs
 | .c ps r::l,g, .clo a::zs=>match a.as ps r with
  | some x=>kOf l (g x) zs
  | none=>none
 | .o τ::l,g, .own a::zs=>match a.as τ with
  | some x=>kOf l (g x) zs
  | none=>none
 | _,_,_=>none
def KOk(P:Program)(f:FuncId):(l:List PK)→KT l→List Arg→Prop
 | [],x,acc=>x.down.1.ok→a1f P f acc (·=x.down.2)
 | .v τ::l,g,acc=>∀ x,KOk P f l (g x) (acc++[.val ⟨τ,x⟩])
 | .r τ::l,g,acc=>∀ x,KOk P f l (g x) (acc++[.ref ⟨τ,x⟩])
 | .f::l,g,acc=>∀ x,KOk P f l (g x) (acc++[.fn x])
 | .c ps r::l,g,acc=>∀ x,KOk P f l (g x) (acc++[.clo ⟨ps,r,x⟩])
 | .o τ::l,g,acc=>∀ x,KOk P f l (g x) (acc++[.own ⟨τ,x⟩])
 | .b _::_,_,_=>True
theorem c2j{P:Program}{f:FuncId}:∀ (l:List PK) (g:KT l) (acc zs:List Arg) (pre:Vc) (res:List TV),KOk P f l g acc→kOf l g zs=some (pre,res)→pre.ok→a1f P f (acc++zs) (·=res)
 | [],g,acc,zs,pre,res,h,e,hp=>by
  cases zs with
  | nil =>
   simp only[kOf,Option.some.injEq] at e
   have h':g.down.1.ok→a1f P f acc (·=g.down.2):=h
   rw[e] at h'
   rw[List.append_nil]
   exact h' hp
  | cons a zs=>simp[kOf] at e
 | .v τ::l,g,acc,zs,pre,res,h,e,hp=>by
  cases zs with
  | nil=>simp[kOf] at e
  | cons a zs =>
   cases a with
   | val a =>
    rw[kOf] at e
    split at e
    ·rename_i x hx
     have:=c2j l (g x) (acc++[.val ⟨τ,x⟩]) zs pre res (h x) e hp
     rw[TV.as_some hx]
     simpa using this
    ·cases e
   | ref a=>simp[kOf] at e
   | clo a=>simp[kOf] at e
   | own a=>simp[kOf] at e
   | fn a=>simp[kOf] at e
   | box a=>simp[kOf] at e
 | .r τ::l,g,acc,zs,pre,res,h,e,hp=>by
  cases zs with
  | nil=>simp[kOf] at e
  | cons a zs =>
   cases a with
   | ref a =>
    rw[kOf] at e
    split at e
    ·rename_i x hx
     have:=c2j l (g x) (acc++[.ref ⟨τ,x⟩]) zs pre res (h x) e hp
     rw[TV.as_some hx]
     simpa using this
    ·cases e
   | val a=>simp[kOf] at e
   | clo a=>simp[kOf] at e
   | own a=>simp[kOf] at e
   | fn a=>simp[kOf] at e
   | box a=>simp[kOf] at e
 | .f::l,g,acc,zs,pre,res,h,e,hp=>by
  cases zs with
  | nil=>simp[kOf] at e
  | cons a zs =>
   cases a with
   | fn a =>
    rw[kOf] at e
    have:=c2j l (g a) (acc++[.fn a]) zs pre res (h a) e hp
    simpa using this
   | val a=>simp[kOf] at e
   | clo a=>simp[kOf] at e
   | own a=>simp[kOf] at e
   | ref a=>simp[kOf] at e
   | box a=>simp[kOf] at e
 | .c ps r::l,g,acc,zs,pre,res,h,e,hp=>by
  cases zs with
  | nil=>simp[kOf] at e
  | cons a zs =>
   cases a with
   | clo a =>
    rw[kOf] at e
    split at e
    ·rename_i x hx
     have:=c2j l (g x) (acc++[.clo ⟨ps,r,x⟩]) zs pre res (h x) e hp
     rw[FV.as_some hx]
     simpa using this
    ·cases e
   | val a=>simp[kOf] at e
   | ref a=>simp[kOf] at e
   | fn a=>simp[kOf] at e
   | own a=>simp[kOf] at e
   | box a=>simp[kOf] at e
 | .o τ::l,g,acc,zs,pre,res,h,e,hp=>by
  cases zs with
  | nil=>simp[kOf] at e
  | cons a zs =>
   cases a with
   | own a =>
    rw[kOf] at e
    split at e
    ·rename_i x hx
     have:=c2j l (g x) (acc++[.own ⟨τ,x⟩]) zs pre res (h x) e hp
     rw[TV.as_some hx]
     simpa using this
    ·cases e
   | val a=>simp[kOf] at e
   | ref a=>simp[kOf] at e
   | fn a=>simp[kOf] at e
   | clo a=>simp[kOf] at e
   | box a=>simp[kOf] at e
 | .b k::l,g,acc,zs,pre,res,h,e,hp=>by
  cases zs<;>simp[kOf] at e
structure Ctr where
 n:Nat
 l:List PK
 g:KT l
def Ctr.Good(c:Ctr):Prop:=b1f prog c.n∧KOk prog c.n c.l c.g []
def b7h:List Ctr→Nat→List Arg→Option (Vc×List TV)
 | [],_,_=>none
 | c::r,f,zs=>match Nat.beq c.n f with
  | true=>kOf c.l c.g zs
  | false=>b7h r f zs
def PK.own:PK→Bool
 | .o _=>true
 | _=>false
def g3y:List Ctr→Nat→List Bool
 | [],_=>[]
 | c::r,f=>match Nat.beq c.n f with
  | true=>match c.l.any PK.own with
   | true=>c.l.map PK.own
   | false=>[]
  | false=>g3y r f
def a0x(l:List Ctr)(wr:List Nat:=[])(cl:List (Nat×c6i):=[])(ro:List Nat:=[]):Env:=Env.mk c8v f3c (b7h l) wr [] (fun _ _=>none) (fun _=>none) (a0k cl) ro (fun _=>[]) (fun _=>none) (fun _ _ _=>none) e3d c6e
def a0p:List Ctr→Prop
 | []=>True
 | c::r=>c.Good∧a0p r
theorem e8d:∀ (l:List Ctr),a0p l→∀ f args pre res,b7h l f args=some (pre,res)→pre.ok→b1f prog f∧a1f prog f args (·=res)
 | [],_,f,args,pre,res,e,_=>by cases e
 | c::r,h,f,args,pre,res,e,hp=>by
  rw[b7h] at e
  split at e
  ·rename_i hb
   have hb:=Nat.eq_of_beq_eq_true hb
   subst hb
   exact⟨h.1.1,c2j c.l c.g [] args pre res h.1.2 e hp⟩
  ·exact e8d r h.2 f args pre res e hp
theorem d6d{α:Type}:∀ (l:List (Nat×α)) (n:Nat) (v:α),a0k l n=some v→(n,v)∈l
 | [],n,v,h=>by cases h
 | (k,u)::r,n,v,h=>by
  rw[a0k] at h
  split at h
  ·rename_i hb
   cases h
   rw[Nat.eq_of_beq_eq_true hb]
   exact List.mem_cons_self ..
  ·exact List.mem_cons_of_mem _ (d6d r n v h)
theorem e8e{l:List Ctr}{wr:List Nat}{cl:List (Nat×c6i)}{ro:List Nat}(h:a0p l):a1m prog (a0x l wr cl ro) where
 ty T τ b e ht:=by
  have h1:=List.all_eq_true.mp (Bool.and_eq_true_iff.1 (d8j (b7h l) wr [] (fun _ _=>none) (fun _=>none) (a0k cl) ro (fun _=>[]) (fun _=>none) (fun _ _ _=>none) c6e)).1 _ (d6d _ _ _ ht)
  exact h1
 mty T κ ε ht:=by
  have h1:=List.all_eq_true.mp (Bool.and_eq_true_iff.1 (d8j (b7h l) wr [] (fun _ _=>none) (fun _=>none) (a0k cl) ro (fun _=>[]) (fun _=>none) (fun _ _ _=>none) c6e)).2 _ (d6d _ _ _ ht)
  exact h1
 pty _ _ _:=trivial
 ctr:=e8d l h
 octr _ _ _ _ h:=by cases h
 mark _ _ h:=by cases h
 nctr:=f7f
 sctr _ _ _ _ _ _ _ h:=by cases h
theorem a0j {f:FuncId} {fn:Func} (h:prog.funcs[f]?=some fn) (hb:fn.body.isNone=false) (hn:(fn.name == "runtime.NumGoroutine")=false):b1f prog f:=⟨fn,h,hb,hn⟩
theorem b7x:∀ {l m:List TV},a1e l m→l=m
 | [],[],_=>rfl
 | [v],[u],h=>by rw[b3r h]
 | v::v'::vs,[u],h=>by
  have:=b7x (l:=v'::vs) (m:=[]) h.2
  cases this
 | [v],u::u'::us,h=>by
  have:=b7x (l:=[]) (m:=u'::us) h.2
  cases this
 | v::v'::vs,u::u'::us,h=>by rw[b3r h.1,b7x (l:=v'::vs) (m:=u'::us) h.2]
 | [],u::us,h=>by cases h
 | v::vs,[],h=>by
  cases vs<;>cases h
theorem a1f.mono{P:Program}{f:FuncId}{args:List Arg}{p q:List TV→Prop}(h:a1f P f args p)(hpq:∀ r,p r→q r):a1f P f args q:=by
 intro w S vals hS ha
 refine (h w S vals hS ha).mono fun e w'=>?_
 rintro⟨x,S',res,h1,h2,h3⟩
 exact⟨x,S',res,h1,hpq _ h2,h3⟩
theorem a0z{f:FuncId}{fn:Func}{code:Code}{l:List Ctr}{wr:List Nat}{cl:List (Nat×c6i)}{ro:List Nat}(hl:a0p l)(hf:prog.funcs[f]?=some fn)(hb:fn.body=some code)(Λ:Nat→a0t){args:List Arg}{res:List TV}
  (h:awp (a0x l wr cl ro) code Λ 0 (a1h (a0x l wr cl ro) fn fun r=>a1e r res) (a0r fn args)):a1f prog f args (·=res) :=
 (f9z (e8e hl) c8m hf hb Λ h).mono fun _=>b7x
def c0v(P:Program)(f:FuncId):(l:List PK)→KT l→List Arg→Prop
 | [],x,acc=>x.down.1.ok→a6f P f acc x.down.2
 | .v τ::l,g,acc=>∀ x,c0v P f l (g x) (acc++[.val ⟨τ,x⟩])
 | .r τ::l,g,acc=>∀ x,c0v P f l (g x) (acc++[.ref ⟨τ,x⟩])
 | .f::l,g,acc=>∀ x,c0v P f l (g x) (acc++[.fn x])
 | .c ps r::l,g,acc=>∀ x,c0v P f l (g x) (acc++[.clo ⟨ps,r,x⟩])
 | .o τ::l,g,acc=>∀ x,c0v P f l (g x) (acc++[.own ⟨τ,x⟩])
 | .b _::_,_,_=>True
theorem b9n{P:Program}{f:FuncId}:∀ (l:List PK) (g:KT l) (acc zs:List Arg) (pre:Vc) (res:List TV),c0v P f l g acc→kOf l g zs=some (pre,res)→pre.ok→a6f P f (acc++zs) res
 | [],g,acc,zs,pre,res,h,e,hp=>by
  cases zs with
  | nil =>
   simp only[kOf,Option.some.injEq] at e
   have h':g.down.1.ok→a6f P f acc g.down.2:=h
   rw[e] at h'
   rw[List.append_nil]
   exact h' hp
  | cons a zs=>simp[kOf] at e
 | .v τ::l,g,acc,zs,pre,res,h,e,hp=>by
  cases zs with
  | nil=>simp[kOf] at e
  | cons a zs =>
   cases a with
   | val a =>
    rw[kOf] at e
    split at e
    ·rename_i x hx
     have:=b9n l (g x) (acc++[.val ⟨τ,x⟩]) zs pre res (h x) e hp
     rw[TV.as_some hx]
     simpa using this
    ·cases e
   | ref a=>simp[kOf] at e
   | clo a=>simp[kOf] at e
   | own a=>simp[kOf] at e
   | fn a=>simp[kOf] at e
   | box a=>simp[kOf] at e
 | .r τ::l,g,acc,zs,pre,res,h,e,hp=>by
  cases zs with
  | nil=>simp[kOf] at e
  | cons a zs =>
   cases a with
   | ref a =>
    rw[kOf] at e
    split at e
    ·rename_i x hx
     have:=b9n l (g x) (acc++[.ref ⟨τ,x⟩]) zs pre res (h x) e hp
     rw[TV.as_some hx]
     simpa using this
    ·cases e
   | val a=>simp[kOf] at e
   | clo a=>simp[kOf] at e
   | own a=>simp[kOf] at e
   | fn a=>simp[kOf] at e
   | box a=>simp[kOf] at e
 | .f::l,g,acc,zs,pre,res,h,e,hp=>by
  cases zs with
  | nil=>simp[kOf] at e
  | cons a zs =>
   cases a with
   | fn a =>
    rw[kOf] at e
    have:=b9n l (g a) (acc++[.fn a]) zs pre res (h a) e hp
    simpa using this
   | val a=>simp[kOf] at e
   | clo a=>simp[kOf] at e
   | own a=>simp[kOf] at e
   | ref a=>simp[kOf] at e
   | box a=>simp[kOf] at e
 | .c ps r::l,g,acc,zs,pre,res,h,e,hp=>by
  cases zs with
  | nil=>simp[kOf] at e
  | cons a zs =>
   cases a with
   | clo a =>
    rw[kOf] at e
    split at e
    ·rename_i x hx
     have:=b9n l (g x) (acc++[.clo ⟨ps,r,x⟩]) zs pre res (h x) e hp
     rw[FV.as_some hx]
     simpa using this
    ·cases e
   | val a=>simp[kOf] at e
   | ref a=>simp[kOf] at e
   | fn a=>simp[kOf] at e
   | own a=>simp[kOf] at e
   | box a=>simp[kOf] at e
 | .o τ::l,g,acc,zs,pre,res,h,e,hp=>by
  cases zs with
  | nil=>simp[kOf] at e
  | cons a zs =>
   cases a with
   | own a =>
    rw[kOf] at e
    split at e
    ·rename_i x hx
     have:=b9n l (g x) (acc++[.own ⟨τ,x⟩]) zs pre res (h x) e hp
     rw[TV.as_some hx]
     simpa using this
    ·cases e
   | val a=>simp[kOf] at e
   | ref a=>simp[kOf] at e
   | fn a=>simp[kOf] at e
   | clo a=>simp[kOf] at e
   | box a=>simp[kOf] at e
 | .b k::l,g,acc,zs,pre,res,h,e,hp=>by
  cases zs<;>simp[kOf] at e
def Ctr.OGood(c:Ctr):Prop:=b1f prog c.n∧c0v prog c.n c.l c.g []
theorem OwV.rdV{w:World}{S:Nat→Prop}{v:TV}{x:Value}{fp:List Nat}(h:OwV w v x fp)(hb:∀ b∈fp,S b):RdV w S v x:=by
 obtain⟨τ,y⟩:=v
 cases τ with
 | st s =>
  obtain⟨cs,h1,h2⟩:=h
  exact⟨cs,h1,h2.rd _ hb⟩
 | _=>exact Ow.rd _ h hb
theorem d6w.rdV{w:World}{S:Nat→Prop}:∀ {vs:List TV} {xs:List Value} {fp:List Nat},d6w w vs xs fp→(∀ b∈fp,S b)→a0m (RdV w S) vs xs
 | [],[],_,_,_=>trivial
 | v::vs,x::xs,fp,h,hb=>by
  obtain⟨f1,f2,rfl,h1,h2⟩:=h
  exact⟨h1.rdV fun b hb'=>hb b (List.mem_append_left _ hb'),d6w.rdV h2 fun b hb'=>hb b (List.mem_append_right _ hb')⟩
 | [],_::_,_,h,_=>h.elim
 | _::_,[],_,h,_=>h.elim
theorem a6f.plain{P:Program}{f:FuncId}{args:List Arg}{res:List TV}(h:a6f P f args res):a1f P f args (·=res):=by
 intro w S vals hS ha
 refine (h w S vals [] hS (c0l.of_all2 ha) (.inl rfl) List.nodup_nil (fun b hb=>by cases hb)).mono ?_
 rintro e w' ⟨x,fp,rfl,hk,hr,_,hfp⟩
 have hn:∀ b∈fp,w.heap.size≤b∧b<w'.heap.size:=fun b hb=>(hfp b hb).elim (fun q=>by cases q) id
 refine⟨x,fun b=>S b∨b∈fp,res,rfl,rfl,⟨hk.os,hk.tape,hk.output,hk.size,fun b hb _=>hk.block b hb fun q=>by cases q⟩,fun b hb=>⟨fun q=>q.elim id fun q=>absurd (hn b q).1 (by omega), .inl⟩,fun b q=>q.elim (fun q=>Nat.lt_of_lt_of_le (hS.1 b q) hk.size) fun q=>(hn b q).2,?_⟩
 match res,hr with
 | [v],hr=>exact OwV.rdV (v:=v) hr fun b hb => .inr hb
 | [],hr =>
  obtain⟨l,h1,h2⟩:=hr
  exact⟨l,h1,h2.rdV fun b hb => .inr hb⟩
 | v::u::vs,hr =>
  obtain⟨l,h1,h2⟩:=hr
  exact⟨l,h1,h2.rdV fun b hb => .inr hb⟩
theorem c0v.plain{P:Program}{f:FuncId}:∀ (l:List PK) (g:KT l) (acc:List Arg),c0v P f l g acc→KOk P f l g acc
 | [],_,_,h=>fun hp=>(h hp).plain
 | .v _::l,g,_,h=>fun x=>c0v.plain l (g x) _ (h x)
 | .r _::l,g,_,h=>fun x=>c0v.plain l (g x) _ (h x)
 | .f::l,g,_,h=>fun x=>c0v.plain l (g x) _ (h x)
 | .c _ _::l,g,_,h=>fun x=>c0v.plain l (g x) _ (h x)
 | .o _::l,g,_,h=>fun x=>c0v.plain l (g x) _ (h x)
 | .b _::_,_,_,_=>trivial
theorem Ctr.OGood.plain{k:Ctr}(h:k.OGood):k.Good:=⟨h.1,c0v.plain k.l k.g [] h.2⟩
def a4f:List Ctr→Prop
 | []=>True
 | c::r=>c.OGood∧a4f r
theorem f7k:∀ (l:List Ctr),a4f l→∀ f args pre res,b7h l f args=some (pre,res)→pre.ok→b1f prog f∧a6f prog f args res
 | [],_,f,args,pre,res,e,_=>by cases e
 | c::r,h,f,args,pre,res,e,hp=>by
  rw[b7h] at e
  split at e
  ·rename_i hb
   have hb:=Nat.eq_of_beq_eq_true hb
   subst hb
   exact⟨h.1.1,b9n c.l c.g [] args pre res h.1.2 e hp⟩
  ·exact f7k r h.2 f args pre res e hp
structure MK where
 n:Nat
 m:f4h
def MK.Good(c:MK):Prop:=b1f prog c.n∧f9b prog c.n c.m
def a4x:List MK→Prop
 | []=>True
 | c::r=>c.Good∧a4x r
def d6g:List MK→Nat→Option f4h
 | [],_=>none
 | c::r,f=>match Nat.beq c.n f with
  | true=>some c.m
  | false=>d6g r f
theorem f7d:∀ (l:List MK),a4x l→∀ f m,d6g l f=some m→b1f prog f∧f9b prog f m
 | [],_,f,m,e=>by cases e
 | c::r,h,f,m,e=>by
  rw[d6g] at e
  split at e
  ·rename_i hb
   have hb:=Nat.eq_of_beq_eq_true hb
   subst hb
   cases e
   exact h.1
  ·exact f7d r h.2 f m e
@[reducible] def KTC:List Ty→Type 1→Type 1
 | [],R=>R
 | t::ts,R=>t.den→KTC ts R
@[reducible] def KTD:List (List Ty)→Type 1
 | []=>ULift (Vc×List TV×List (List TV))
 | ts::D=>KTC ts (KTD D)
@[reducible] def KTS:List PK→List (List Ty)→Type 1
 | [],D=>KTD D
 | .v τ::l,D=>τ.den→KTS l D
 | .r τ::l,D=>τ.den→KTS l D
 | .f::l,D=>FuncId→KTS l D
 | .b _::l,D=>KTS l D
 | .c _ _::l,D=>KTS l D
 | .o _::l,D=>KTS l D
def kC:(ts:List Ty)→(R:Type 1)→KTC ts R→List TV→Option R
 | [],_,r,[]=>some r
 | t::ts,R,g,v::vs=>match v.as t with
  | some x=>kC ts R (g x) vs
  | none=>none
 | _,_,_,_=>none
def kD:(D:List (List Ty))→KTD D→List (List TV)→Option (Vc×List TV×List (List TV))
 | [],r,[]=>some r.down
 | ts::D,g,vs::dss=>match kC ts (KTD D) g vs with
  | some h=>kD D h dss
  | none=>none
 | _,_,_=>none
def kS:(l:List PK)→(D:List (List Ty))→KTS l D→List Arg→List (List TV)→Option (Vc×List TV×List (List TV))
 | [],D,g,[],dss=>kD D g dss
 | .v τ::l,D,g, .val a::zs,dss=>match a.as τ with
  | some x=>kS l D (g x) zs dss
  | none=>none
 | .r τ::l,D,g, .ref a::zs,dss=>match a.as τ with
  | some x=>kS l D (g x) zs dss
  | none=>none
 | .f::l,D,g, .fn a::zs,dss=>kS l D (g a) zs dss
 | .b k::l,D,g, .box j::zs,dss=>match Nat.beq k j with
  | true=>kS l D g zs dss
  | false=>none
 | _,_,_,_,_=>none
def g5v:(ts:List Ty)→(R:Type 1)→(R→List TV→Prop)→KTC ts R→List TV→Prop
 | [],_,p,r,acc=>p r acc
 | t::ts,R,p,g,acc=>∀ x,g5v ts R p (g x) (acc++[⟨t,x⟩])
def g5w(q:List (List TV)→Vc×List TV×List (List TV)→Prop):(D:List (List Ty))→KTD D→List (List TV)→Prop
 | [],r,acc=>q acc r.down
 | ts::D,g,acc=>g5v ts (KTD D) (fun h vs=>g5w q D h (acc++[vs])) g []
def f4g(P:Program)(f:FuncId)(sh:List (List CK)):(l:List PK)→(D:List (List Ty))→KTS l D→List Arg→Prop
 | [],D,g,acc=>g5w (fun dss r=>r.1.ok→b7w P f sh acc dss r.2.1 r.2.2) D g []
 | .v τ::l,D,g,acc=>∀ x,f4g P f sh l D (g x) (acc++[.val ⟨τ,x⟩])
 | .r τ::l,D,g,acc=>∀ x,f4g P f sh l D (g x) (acc++[.ref ⟨τ,x⟩])
 | .f::l,D,g,acc=>∀ x,f4g P f sh l D (g x) (acc++[.fn x])
 | .b k::l,D,g,acc=>f4g P f sh l D g (acc++[.box k])
 | .c _ _::_,_,_,_=>True
 | .o _::_,_,_,_=>True
theorem g7t:∀ (ts:List Ty) (R:Type 1) (p:R→List TV→Prop) (g:KTC ts R) (acc vs:List TV) (r:R),g5v ts R p g acc→kC ts R g vs=some r→p r (acc++vs)
 | [],R,p,g,acc,vs,r,h,e=>by
  cases vs with
  | nil =>
   simp only[kC,Option.some.injEq] at e
   subst e
   rw[List.append_nil]
   exact h
  | cons v vs=>simp[kC] at e
 | t::ts,R,p,g,acc,vs,r,h,e=>by
  cases vs with
  | nil=>simp[kC] at e
  | cons v vs =>
   rw[kC] at e
   split at e
   ·rename_i x hx
    have:=g7t ts R p (g x) (acc++[⟨t,x⟩]) vs r (h x) e
    rw[TV.as_some hx]
    simpa using this
   ·cases e
theorem g7u(q:List (List TV)→Vc×List TV×List (List TV)→Prop):∀ (D:List (List Ty)) (g:KTD D) (acc dss:List (List TV)) (r:Vc×List TV×List (List TV)),g5w q D g acc→kD D g dss=some r→q (acc++dss) r
 | [],g,acc,dss,r,h,e=>by
  cases dss with
  | nil =>
   simp only[kD,Option.some.injEq] at e
   subst e
   rw[List.append_nil]
   exact h
  | cons v vs=>simp[kD] at e
 | ts::D,g,acc,dss,r,h,e=>by
  cases dss with
  | nil=>simp[kD] at e
  | cons vs dss =>
   rw[kD] at e
   split at e
   ·rename_i k hk
    have h1:=g7t ts _ _ g [] vs k h hk
    have:=g7u q D k (acc++[vs]) dss r (by simpa using h1) e
    simpa using this
   ·cases e
theorem f1s{P:Program}{f:FuncId}{sh:List (List CK)}:∀ (l:List PK) (D:List (List Ty)) (g:KTS l D) (acc zs:List Arg) (dss:List (List TV)) (pre:Vc) (res:List TV) (dss':List (List TV)),f4g P f sh l D g acc→kS l D g zs dss=some (pre,res,dss')→pre.ok→b7w P f sh (acc++zs) dss res dss'
 | [],D,g,acc,zs,dss,pre,res,dss',h,e,hp=>by
  cases zs with
  | nil =>
   have:=g7u _ D g [] dss _ h e
   simpa using this hp
  | cons z zs=>simp[kS] at e
 | .v τ::l,D,g,acc,zs,dss,pre,res,dss',h,e,hp=>by
  cases zs with
  | nil=>simp[kS] at e
  | cons a zs =>
   cases a with
   | val a =>
    rw[kS] at e
    split at e
    ·rename_i x hx
     have:=f1s l D (g x) (acc++[.val ⟨τ,x⟩]) zs dss pre res dss' (h x) e hp
     rw[TV.as_some hx]
     simpa using this
    ·cases e
   | _=>simp[kS] at e
 | .r τ::l,D,g,acc,zs,dss,pre,res,dss',h,e,hp=>by
  cases zs with
  | nil=>simp[kS] at e
  | cons a zs =>
   cases a with
   | ref a =>
    rw[kS] at e
    split at e
    ·rename_i x hx
     have:=f1s l D (g x) (acc++[.ref ⟨τ,x⟩]) zs dss pre res dss' (h x) e hp
     rw[TV.as_some hx]
     simpa using this
    ·cases e
   | _=>simp[kS] at e
 | .f::l,D,g,acc,zs,dss,pre,res,dss',h,e,hp=>by
  cases zs with
  | nil=>simp[kS] at e
  | cons a zs =>
   cases a with
   | fn a =>
    rw[kS] at e
    have:=f1s l D (g a) (acc++[.fn a]) zs dss pre res dss' (h a) e hp
    simpa using this
   | _=>simp[kS] at e
 | .b k::l,D,g,acc,zs,dss,pre,res,dss',h,e,hp=>by
  cases zs with
  | nil=>simp[kS] at e
  | cons a zs =>
   cases a with
   | box j =>
    rw[kS] at e
    split at e
    ·rename_i hb
     have hb:=Nat.eq_of_beq_eq_true hb
     subst hb
     have:=f1s l D g (acc++[.box k]) zs dss pre res dss' h e hp
     simpa using this
    ·cases e
   | _=>simp[kS] at e
 | .c _ _::l,D,g,acc,zs,dss,pre,res,dss',h,e,hp=>by cases zs<;>simp[kS] at e
 | .o _::l,D,g,acc,zs,dss,pre,res,dss',h,e,hp=>by cases zs<;>simp[kS] at e
structure SCt where
 n:Nat
 sh:List (List CK)
 l:List PK
 D:List (List Ty)
 g:KTS l D
def SCt.Good(c:SCt):Prop:=b1f prog c.n∧f4g prog c.n c.sh c.l c.D c.g []
def a4p:List SCt→Prop
 | []=>True
 | c::r=>c.Good∧a4p r
def g7f:List PK→List (Option Nat)
 | []=>[]
 | .b k::l=>some k::g7f l
 | _::l=>none::g7f l
def f5r:List SCt→Nat→Option SK
 | [],_=>none
 | c::r,f=>match Nat.beq c.n f with
  | true=>some ⟨g7f c.l,c.sh⟩
  | false=>f5r r f
def d6n:List SCt→Nat→List Arg→List (List TV)→Option (Vc×List TV×List (List TV))
 | [],_,_,_=>none
 | c::r,f,zs,dss=>match Nat.beq c.n f with
  | true=>kS c.l c.D c.g zs dss
  | false=>d6n r f zs dss
theorem f7q:∀ (l:List SCt),a4p l→∀ f sk args dss pre res dss',f5r l f=some sk→d6n l f args dss=some (pre,res,dss')→pre.ok→b1f prog f∧b7w prog f sk.sh args dss res dss'
 | [],_,f,sk,args,dss,pre,res,dss',h,_,_=>by cases h
 | c::r,h,f,sk,args,dss,pre,res,dss',hs,e,hp=>by
  rw[f5r] at hs
  rw[d6n] at e
  split at e
  ·rename_i hb
   rw[hb] at hs
   have hb:=Nat.eq_of_beq_eq_true hb
   subst hb
   simp only[Option.some.injEq] at hs
   subst hs
   exact⟨h.1.1,by simpa using f1s c.l c.D c.g [] args dss pre res dss' h.1.2 e hp⟩
  ·rename_i hb
   rw[hb] at hs
   exact f7q r h.2 f sk args dss pre res dss' hs e hp
def a2o(l:List Ctr)(ol:List Ctr)(ml:List MK)(own wr:List Nat)(cl:List (Nat×c6i):=[])(ro:List Nat:=[])(sl:List SCt:=[]):Env:=Env.mk c8v f3c (b7h l) wr own (b7h ol) (d6g ml) (a0k cl) ro (g3y ol) (f5r sl) (d6n sl) e3d c6e
theorem f4q{l ol:List Ctr}{ml:List MK}{own wr:List Nat}{cl:List (Nat×c6i)}{ro:List Nat}{sl:List SCt}(h:a0p l)(ho:a4f ol)(hm:a4x ml)(hs:a4p sl):a1m prog (a2o l ol ml own wr cl ro sl) where
 ty T τ b e ht:=by
  have h1:=List.all_eq_true.mp (Bool.and_eq_true_iff.1 (d8j (b7h l) wr own (b7h ol) (d6g ml) (a0k cl) ro (g3y ol) (f5r sl) (d6n sl) c6e)).1 _ (d6d _ _ _ ht)
  exact h1
 mty T κ ε ht:=by
  have h1:=List.all_eq_true.mp (Bool.and_eq_true_iff.1 (d8j (b7h l) wr own (b7h ol) (d6g ml) (a0k cl) ro (g3y ol) (f5r sl) (d6n sl) c6e)).2 _ (d6d _ _ _ ht)
  exact h1
 pty _ _ _:=trivial
 ctr:=e8d l h
 octr:=f7k ol ho
 mark:=f7d ml hm
 nctr:=f7f
 sctr:=f7q sl hs
theorem f2f{f:FuncId}{fn:Func}{code:Code}{l ol:List Ctr}{ml:List MK}{own wr:List Nat}{cl:List (Nat×c6i)}{ro:List Nat}{sl:List SCt}(hl:a0p l)(ho:a4f ol)(hm:a4x ml)(hs:a4p sl)(hf:prog.funcs[f]?=some fn)(hb:fn.body=some code)(Λ:Nat→a0t){args:List Arg}{res:List TV}
  (h:awp (a2o l ol ml own wr cl ro sl) code Λ 0 (a1h (a2o l ol ml own wr cl ro sl) fn fun r=>a1e r res) (a0r fn args)):a1f prog f args (·=res) :=
 (f9z (f4q hl ho hm hs) c8m hf hb Λ h).mono fun _=>b7x
theorem a4e{f:FuncId}{fn:Func}{code:Code}{l ol:List Ctr}{ml:List MK}{own wr:List Nat}{cl:List (Nat×c6i)}{ro:List Nat}{sl:List SCt}(hl:a0p l)(ho:a4f ol)(hm:a4x ml)(hs:a4p sl)(hf:prog.funcs[f]?=some fn)(hb:fn.body=some code)(Λ:Nat→a0t){args:List Arg}{res:List TV}
  (h:awp (a2o l ol ml own wr cl ro sl) code Λ 0 (a5b (a2o l ol ml own wr cl ro sl) fn fun r=>a1e r res) (a7h fn args)):a6f prog f args res :=
 f9y (f4q hl ho hm hs) c8m hf hb Λ (fun _=>b7x) h
def b2i:List (List TV)→List (List TV)→Prop
 | [],[]=>True
 | a::r,b::q=>a1e a b∧b2i r q
 | _,_=>False
theorem f6q:∀ {a b:List (List TV)},b2i a b→a=b
 | [],[],_=>rfl
 | _::_,_::_,h=>by rw[b7x h.1,f6q h.2]
 | [],_::_,h=>h.elim
 | _::_,[],h=>h.elim
def f4o(args:List Arg)(n:Nat):Bool:=args.all fun a=>match a with
 | .box k=>Nat.blt k n
 | _=>true
theorem f9l{args:List Arg}{n:Nat}(h:f4o args n=true):∀ k,Arg.box k∈args→k<n:=fun k hk=>by
 unfold f4o at h
 rw[List.all_eq_true] at h
 exact Nat.le_of_ble_eq_true (h _ hk)
theorem a7z{f:FuncId}{fn:Func}{code:Code}{l ol:List Ctr}{ml:List MK}{own wr:List Nat}{cl:List (Nat×c6i)}{ro:List Nat}{sl:List SCt}(hl:a0p l)(ho:a4f ol)(hm:a4x ml)(hs:a4p sl)(hf:prog.funcs[f]?=some fn)(hb:fn.body=some code)(Λ:Nat→a0t){args:List Arg}{sh:List (List CK)}{dss:List (List TV)}{res:List TV}{dss':List (List TV)}
  (hsh:f5q sh=true) (hbx:f4o args sh.length=true) (h:awp (a2o l ol ml own wr cl ro sl) code Λ 0 (a9b (a2o l ol ml own wr cl ro sl) fn sh fun r ds=>a1e r res∧b2i ds dss') (a2x fn args sh dss)):b7w prog f sh args dss res dss' :=
 g1f (f4q hl ho hm hs) c8m hf hb Λ (fun _ _ q=>⟨b7x q.1,f6q q.2⟩) hsh (f9l hbx) h
end Go.Proofs.Ytlaoejdeanljgaa

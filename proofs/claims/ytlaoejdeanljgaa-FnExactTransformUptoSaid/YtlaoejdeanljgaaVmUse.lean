/- How a function's contract is stated, and how it follows from the abstract machine. -/
import Derived.Test.YtlaoejdeanljgaaVmNew
set_option linter.unusedVariables false
namespace Go.Proofs.Ytlaoejdeanljgaa
abbrev msz{α:Type}[SizeOf α](x:α):Nat:=SizeOf.sizeOf x
theorem a1i{α:Type}[SizeOf α](d:α):∀ (xs:List α) (i:Nat),i<xs.length→msz (xs.getD i d)<msz xs
 | [],i,h=>by simp at h
 | x::xs,0,h=>by simp[msz];omega
 | x::xs,i+1,h=>by
  have:=a1i d xs i (by simpa using h)
  simp[msz] at this ⊢;omega
theorem a5n(e:a0c):msz e.kids<msz e:=by
 cases e;simp[msz];omega
theorem a5q(e:a0a):msz e.kids<msz e:=by
 cases e;simp[msz];omega
inductive PK where
 | v (τ:Ty)
 | r (τ:Ty)
 | f
 | c (ps:List Ty) (r:Ty)
 | o (τ:Ty)
 | b (k:Nat)
@[reducible] def KT:List PK→Type 1
 | []=>ULift (Vc×List TV)
 | .v τ::l=>τ.den→KT l
 | .r τ::l=>τ.den→KT l
 | .f::l=>FuncId→KT l
 | .c ps r::l=>FN ps r→KT l
 | .o τ::l=>τ.den→KT l
 | .b _::l=>KT l
def kOf:(l:List PK)→KT l→List Arg→Option (Vc×List TV)
 | [],x,[]=>some x.down
 | .v τ::l,g, .val a::zs=>match a.as τ with
  | some x=>kOf l (g x) zs
  | none=>none
 | .r τ::l,g, .ref a::zs=>match a.as τ with
  | some x=>kOf l (g x) zs
  | none=>none
 | .f::l,g, .fn a::zs=>kOf l (g a) zs
 | .c ps r::l,g, .clo a::zs=>match a.as ps r with
  | some x=>kOf l (g x) zs
  | none=>none
 | .o τ::l,g, .own a::zs=>match a.as τ with
  | some x=>kOf l (g x) zs
  | none=>none
 | _,_,_=>none
def KOk(P:Program)(f:FuncId):(l:List PK)→KT l→List Arg→Prop
 | [],x,acc=>x.down.1.ok→a0z P f acc (·=x.down.2)
 | .v τ::l,g,acc=>∀ x,KOk P f l (g x) (acc++[.val ⟨τ,x⟩])
 | .r τ::l,g,acc=>∀ x,KOk P f l (g x) (acc++[.ref ⟨τ,x⟩])
 | .f::l,g,acc=>∀ x,KOk P f l (g x) (acc++[.fn x])
 | .c ps r::l,g,acc=>∀ x,KOk P f l (g x) (acc++[.clo ⟨ps,r,x⟩])
 | .o τ::l,g,acc=>∀ x,KOk P f l (g x) (acc++[.own ⟨τ,x⟩])
 | .b _::_,_,_=>True
theorem c3k{P:Program}{f:FuncId}:∀ (l:List PK) (g:KT l) (acc zs:List Arg) (pre:Vc) (res:List TV),KOk P f l g acc→kOf l g zs=some (pre,res)→pre.ok→a0z P f (acc++zs) (·=res)
 | [],g,acc,zs,pre,res,h,e,hp=>by
  cases zs with
  | nil =>
   simp only[kOf,Option.some.injEq] at e
   have h':g.down.1.ok→a0z P f acc (·=g.down.2):=h
   rw[e] at h'
   rw[List.append_nil]
   exact h' hp
  | cons a zs=>simp[kOf] at e
 | .v τ::l,g,acc,zs,pre,res,h,e,hp=>by
  cases zs with
  | nil=>simp[kOf] at e
  | cons a zs =>
   cases a with
   | val a =>
    rw[kOf] at e
    split at e
    ·rename_i x hx
     have:=c3k l (g x) (acc++[.val ⟨τ,x⟩]) zs pre res (h x) e hp
     rw[TV.as_some hx]
     simpa using this
    ·cases e
   | ref a=>simp[kOf] at e
   | clo a=>simp[kOf] at e
   | own a=>simp[kOf] at e
   | fn a=>simp[kOf] at e
   | box a=>simp[kOf] at e
 | .r τ::l,g,acc,zs,pre,res,h,e,hp=>by
  cases zs with
  | nil=>simp[kOf] at e
  | cons a zs =>
   cases a with
   | ref a =>
    rw[kOf] at e
    split at e
    ·rename_i x hx
     have:=c3k l (g x) (acc++[.ref ⟨τ,x⟩]) zs pre res (h x) e hp
     rw[TV.as_some hx]
     simpa using this
    ·cases e
   | val a=>simp[kOf] at e
   | clo a=>simp[kOf] at e
   | own a=>simp[kOf] at e
   | fn a=>simp[kOf] at e
   | box a=>simp[kOf] at e
 | .f::l,g,acc,zs,pre,res,h,e,hp=>by
  cases zs with
  | nil=>simp[kOf] at e
  | cons a zs =>
   cases a with
   | fn a =>
    rw[kOf] at e
    have:=c3k l (g a) (acc++[.fn a]) zs pre res (h a) e hp
    simpa using this
   | val a=>simp[kOf] at e
   | clo a=>simp[kOf] at e
   | own a=>simp[kOf] at e
   | ref a=>simp[kOf] at e
   | box a=>simp[kOf] at e
 | .c ps r::l,g,acc,zs,pre,res,h,e,hp=>by
  cases zs with
  | nil=>simp[kOf] at e
  | cons a zs =>
   cases a with
   | clo a =>
    rw[kOf] at e
    split at e
    ·rename_i x hx
     have:=c3k l (g x) (acc++[.clo ⟨ps,r,x⟩]) zs pre res (h x) e hp
     rw[FV.as_some hx]
     simpa using this
    ·cases e
   | val a=>simp[kOf] at e
   | ref a=>simp[kOf] at e
   | fn a=>simp[kOf] at e
   | own a=>simp[kOf] at e
   | box a=>simp[kOf] at e
 | .o τ::l,g,acc,zs,pre,res,h,e,hp=>by
  cases zs with
  | nil=>simp[kOf] at e
  | cons a zs =>
   cases a with
   | own a =>
    rw[kOf] at e
    split at e
    ·rename_i x hx
     have:=c3k l (g x) (acc++[.own ⟨τ,x⟩]) zs pre res (h x) e hp
     rw[TV.as_some hx]
     simpa using this
    ·cases e
   | val a=>simp[kOf] at e
   | ref a=>simp[kOf] at e
   | fn a=>simp[kOf] at e
   | clo a=>simp[kOf] at e
   | box a=>simp[kOf] at e
 | .b k::l,g,acc,zs,pre,res,h,e,hp=>by
  cases zs<;>simp[kOf] at e
structure Ctr where
 n:Nat
 l:List PK
 g:KT l
def Ctr.Good(c:Ctr):Prop:=a7s prog c.n∧KOk prog c.n c.l c.g []
def b8c:List Ctr→Nat→List Arg→Option (Vc×List TV)
 | [],_,_=>none
 | c::r,f,zs=>match Nat.beq c.n f with
  | true=>kOf c.l c.g zs
  | false=>b8c r f zs
def PK.own:PK→Bool
 | .o _=>true
 | _=>false
def g6g:List Ctr→Nat→List Bool
 | [],_=>[]
 | c::r,f=>match Nat.beq c.n f with
  | true=>match c.l.any PK.own with
   | true=>c.l.map PK.own
   | false=>[]
  | false=>g6g r f
def a0u(l:List Ctr)(wr:List Nat:=[])(cl:List (Nat×c6z):=[])(ro:List Nat:=[]):Env:=Env.mk c9k f5o (b8c l) wr [] (fun _ _=>none) (fun _=>none) (a0o cl) ro (fun _=>[]) (fun _=>none) (fun _ _ _=>none) e3z c6u
def a0m:List Ctr→Prop
 | []=>True
 | c::r=>c.Good∧a0m r
theorem e9w:∀ (l:List Ctr),a0m l→∀ f args pre res,b8c l f args=some (pre,res)→pre.ok→a7s prog f∧a0z prog f args (·=res)
 | [],_,f,args,pre,res,e,_=>by cases e
 | c::r,h,f,args,pre,res,e,hp=>by
  rw[b8c] at e
  split at e
  ·rename_i hb
   have hb:=Nat.eq_of_beq_eq_true hb
   subst hb
   exact⟨h.1.1,c3k c.l c.g [] args pre res h.1.2 e hp⟩
  ·exact e9w r h.2 f args pre res e hp
theorem d6x{α:Type}:∀ (l:List (Nat×α)) (n:Nat) (v:α),a0o l n=some v→(n,v)∈l
 | [],n,v,h=>by cases h
 | (k,u)::r,n,v,h=>by
  rw[a0o] at h
  split at h
  ·rename_i hb
   cases h
   rw[Nat.eq_of_beq_eq_true hb]
   exact List.mem_cons_self ..
  ·exact List.mem_cons_of_mem _ (d6x r n v h)
theorem e9x{l:List Ctr}{wr:List Nat}{cl:List (Nat×c6z)}{ro:List Nat}(h:a0m l):a1l prog (a0u l wr cl ro) where
 ty T τ b e ht:=by
  have h1:=List.all_eq_true.mp (Bool.and_eq_true_iff.1 (d8s (b8c l) wr [] (fun _ _=>none) (fun _=>none) (a0o cl) ro (fun _=>[]) (fun _=>none) (fun _ _ _=>none) c6u)).1 _ (d6x _ _ _ ht)
  exact h1
 mty T κ ε ht:=by
  have h1:=List.all_eq_true.mp (Bool.and_eq_true_iff.1 (d8s (b8c l) wr [] (fun _ _=>none) (fun _=>none) (a0o cl) ro (fun _=>[]) (fun _=>none) (fun _ _ _=>none) c6u)).2 _ (d6x _ _ _ ht)
  exact h1
 pty _ _ _:=trivial
 ctr:=e9w l h
 octr _ _ _ _ h:=by cases h
 mark _ _ h:=by cases h
 nctr:=f9w
 sctr _ _ _ _ _ _ _ h:=by cases h
theorem a0j {f:FuncId} {fn:Func} (h:prog.funcs[f]?=some fn) (hb:fn.body.isNone=false) (hn:(fn.name == "runtime.NumGoroutine")=false):a7s prog f:=⟨fn,h,hb,hn⟩
theorem c4u:∀ {l m:List TV},a1d l m→l=m
 | [],[],_=>rfl
 | [v],[u],h=>by rw[b3u h]
 | v::v'::vs,[u],h=>by
  have:=c4u (l:=v'::vs) (m:=[]) h.2
  cases this
 | [v],u::u'::us,h=>by
  have:=c4u (l:=[]) (m:=u'::us) h.2
  cases this
 | v::v'::vs,u::u'::us,h=>by rw[b3u h.1,c4u (l:=v'::vs) (m:=u'::us) h.2]
 | [],u::us,h=>by cases h
 | v::vs,[],h=>by
  cases vs<;>cases h
theorem a0z.mono{P:Program}{f:FuncId}{args:List Arg}{p q:List TV→Prop}(h:a0z P f args p)(hpq:∀ r,p r→q r):a0z P f args q:=by
 intro w S vals hS ha
 refine (h w S vals hS ha).mono fun e w'=>?_
 rintro⟨x,S',res,h1,h2,h3⟩
 exact⟨x,S',res,h1,hpq _ h2,h3⟩
theorem a0x{f:FuncId}{fn:Func}{code:Code}{l:List Ctr}{wr:List Nat}{cl:List (Nat×c6z)}{ro:List Nat}(hl:a0m l)(hf:prog.funcs[f]?=some fn)(hb:fn.body=some code)(Λ:Nat→a0s){args:List Arg}{res:List TV}
  (h:awp (a0u l wr cl ro) code Λ 0 (a1b (a0u l wr cl ro) fn fun r=>a1d r res) (a0p fn args)):a0z prog f args (·=res) :=
 (g2l (e9x hl) c9f hf hb Λ h).mono fun _=>c4u
def c2j(P:Program)(f:FuncId):(l:List PK)→KT l→List Arg→Prop
 | [],x,acc=>x.down.1.ok→a4k P f acc x.down.2
 | .v τ::l,g,acc=>∀ x,c2j P f l (g x) (acc++[.val ⟨τ,x⟩])
 | .r τ::l,g,acc=>∀ x,c2j P f l (g x) (acc++[.ref ⟨τ,x⟩])
 | .f::l,g,acc=>∀ x,c2j P f l (g x) (acc++[.fn x])
 | .c ps r::l,g,acc=>∀ x,c2j P f l (g x) (acc++[.clo ⟨ps,r,x⟩])
 | .o τ::l,g,acc=>∀ x,c2j P f l (g x) (acc++[.own ⟨τ,x⟩])
 | .b _::_,_,_=>True
theorem c0n{P:Program}{f:FuncId}:∀ (l:List PK) (g:KT l) (acc zs:List Arg) (pre:Vc) (res:List TV),c2j P f l g acc→kOf l g zs=some (pre,res)→pre.ok→a4k P f (acc++zs) res
 | [],g,acc,zs,pre,res,h,e,hp=>by
  cases zs with
  | nil =>
   simp only[kOf,Option.some.injEq] at e
   have h':g.down.1.ok→a4k P f acc g.down.2:=h
   rw[e] at h'
   rw[List.append_nil]
   exact h' hp
  | cons a zs=>simp[kOf] at e
 | .v τ::l,g,acc,zs,pre,res,h,e,hp=>by
  cases zs with
  | nil=>simp[kOf] at e
  | cons a zs =>
   cases a with
   | val a =>
    rw[kOf] at e
    split at e
    ·rename_i x hx
     have:=c0n l (g x) (acc++[.val ⟨τ,x⟩]) zs pre res (h x) e hp
     rw[TV.as_some hx]
     simpa using this
    ·cases e
   | ref a=>simp[kOf] at e
   | clo a=>simp[kOf] at e
   | own a=>simp[kOf] at e
   | fn a=>simp[kOf] at e
   | box a=>simp[kOf] at e
 | .r τ::l,g,acc,zs,pre,res,h,e,hp=>by
  cases zs with
  | nil=>simp[kOf] at e
  | cons a zs =>
   cases a with
   | ref a =>
    rw[kOf] at e
    split at e
    ·rename_i x hx
     have:=c0n l (g x) (acc++[.ref ⟨τ,x⟩]) zs pre res (h x) e hp
     rw[TV.as_some hx]
     simpa using this
    ·cases e
   | val a=>simp[kOf] at e
   | clo a=>simp[kOf] at e
   | own a=>simp[kOf] at e
   | fn a=>simp[kOf] at e
   | box a=>simp[kOf] at e
 | .f::l,g,acc,zs,pre,res,h,e,hp=>by
  cases zs with
  | nil=>simp[kOf] at e
  | cons a zs =>
   cases a with
   | fn a =>
    rw[kOf] at e
    have:=c0n l (g a) (acc++[.fn a]) zs pre res (h a) e hp
    simpa using this
   | val a=>simp[kOf] at e
   | clo a=>simp[kOf] at e
   | own a=>simp[kOf] at e
   | ref a=>simp[kOf] at e
   | box a=>simp[kOf] at e
 | .c ps r::l,g,acc,zs,pre,res,h,e,hp=>by
  cases zs with
  | nil=>simp[kOf] at e
  | cons a zs =>
   cases a with
   | clo a =>
    rw[kOf] at e
    split at e
    ·rename_i x hx
     have:=c0n l (g x) (acc++[.clo ⟨ps,r,x⟩]) zs pre res (h x) e hp
     rw[FV.as_some hx]
     simpa using this
    ·cases e
   | val a=>simp[kOf] at e
   | ref a=>simp[kOf] at e
   | fn a=>simp[kOf] at e
   | own a=>simp[kOf] at e
   | box a=>simp[kOf] at e
 | .o τ::l,g,acc,zs,pre,res,h,e,hp=>by
  cases zs with
  | nil=>simp[kOf] at e
  | cons a zs =>
   cases a with
   | own a =>
    rw[kOf] at e
    split at e
    ·rename_i x hx
     have:=c0n l (g x) (acc++[.own ⟨τ,x⟩]) zs pre res (h x) e hp
     rw[TV.as_some hx]
     simpa using this
    ·cases e
   | val a=>simp[kOf] at e
   | ref a=>simp[kOf] at e
   | fn a=>simp[kOf] at e
   | clo a=>simp[kOf] at e
   | box a=>simp[kOf] at e
 | .b k::l,g,acc,zs,pre,res,h,e,hp=>by
  cases zs<;>simp[kOf] at e
def Ctr.OGood(c:Ctr):Prop:=a7s prog c.n∧c2j prog c.n c.l c.g []
theorem OwV.rdV{w:World}{S:Nat→Prop}{v:TV}{x:Value}{fp:List Nat}(h:OwV w v x fp)(hb:∀ b∈fp,S b):RdV w S v x:=by
 obtain⟨τ,y⟩:=v
 cases τ with
 | st s =>
  obtain⟨cs,h1,h2⟩:=h
  exact⟨cs,h1,h2.rd _ hb⟩
 | _=>exact Ow.rd _ h hb
theorem d7n.rdV{w:World}{S:Nat→Prop}:∀ {vs:List TV} {xs:List Value} {fp:List Nat},d7n w vs xs fp→(∀ b∈fp,S b)→a0t (RdV w S) vs xs
 | [],[],_,_,_=>trivial
 | v::vs,x::xs,fp,h,hb=>by
  obtain⟨f1,f2,rfl,h1,h2⟩:=h
  exact⟨h1.rdV fun b hb'=>hb b (List.mem_append_left _ hb'),d7n.rdV h2 fun b hb'=>hb b (List.mem_append_right _ hb')⟩
 | [],_::_,_,h,_=>h.elim
 | _::_,[],_,h,_=>h.elim
theorem a4k.plain{P:Program}{f:FuncId}{args:List Arg}{res:List TV}(h:a4k P f args res):a0z P f args (·=res):=by
 intro w S vals hS ha
 refine (h w S vals [] hS (c1q.of_all2 ha) (.inl rfl) List.nodup_nil (fun b hb=>by cases hb)).mono ?_
 rintro e w' ⟨x,fp,rfl,hk,hr,_,hfp⟩
 have hn:∀ b∈fp,w.heap.size≤b∧b<w'.heap.size:=fun b hb=>(hfp b hb).elim (fun q=>by cases q) id
 refine⟨x,fun b=>S b∨b∈fp,res,rfl,rfl,⟨hk.os,hk.tape,hk.output,hk.size,fun b hb _=>hk.block b hb fun q=>by cases q⟩,fun b hb=>⟨fun q=>q.elim id fun q=>absurd (hn b q).1 (by omega), .inl⟩,fun b q=>q.elim (fun q=>Nat.lt_of_lt_of_le (hS.1 b q) hk.size) fun q=>(hn b q).2,?_⟩
 match res,hr with
 | [v],hr=>exact OwV.rdV (v:=v) hr fun b hb => .inr hb
 | [],hr =>
  obtain⟨l,h1,h2⟩:=hr
  exact⟨l,h1,h2.rdV fun b hb => .inr hb⟩
 | v::u::vs,hr =>
  obtain⟨l,h1,h2⟩:=hr
  exact⟨l,h1,h2.rdV fun b hb => .inr hb⟩
theorem c2j.plain{P:Program}{f:FuncId}:∀ (l:List PK) (g:KT l) (acc:List Arg),c2j P f l g acc→KOk P f l g acc
 | [],_,_,h=>fun hp=>(h hp).plain
 | .v _::l,g,_,h=>fun x=>c2j.plain l (g x) _ (h x)
 | .r _::l,g,_,h=>fun x=>c2j.plain l (g x) _ (h x)
 | .f::l,g,_,h=>fun x=>c2j.plain l (g x) _ (h x)
 | .c _ _::l,g,_,h=>fun x=>c2j.plain l (g x) _ (h x)
 | .o _::l,g,_,h=>fun x=>c2j.plain l (g x) _ (h x)
 | .b _::_,_,_,_=>trivial
theorem Ctr.OGood.plain{k:Ctr}(h:k.OGood):k.Good:=⟨h.1,c2j.plain k.l k.g [] h.2⟩
def a4g:List Ctr→Prop
 | []=>True
 | c::r=>c.OGood∧a4g r
theorem g0c:∀ (l:List Ctr),a4g l→∀ f args pre res,b8c l f args=some (pre,res)→pre.ok→a7s prog f∧a4k prog f args res
 | [],_,f,args,pre,res,e,_=>by cases e
 | c::r,h,f,args,pre,res,e,hp=>by
  rw[b8c] at e
  split at e
  ·rename_i hb
   have hb:=Nat.eq_of_beq_eq_true hb
   subst hb
   exact⟨h.1.1,c0n c.l c.g [] args pre res h.1.2 e hp⟩
  ·exact g0c r h.2 f args pre res e hp
structure MK where
 n:Nat
 m:c7a
def MK.Good(c:MK):Prop:=a7s prog c.n∧e1h prog c.n c.m
def a5a:List MK→Prop
 | []=>True
 | c::r=>c.Good∧a5a r
def d7a:List MK→Nat→Option c7a
 | [],_=>none
 | c::r,f=>match Nat.beq c.n f with
  | true=>some c.m
  | false=>d7a r f
theorem f9t:∀ (l:List MK),a5a l→∀ f m,d7a l f=some m→a7s prog f∧e1h prog f m
 | [],_,f,m,e=>by cases e
 | c::r,h,f,m,e=>by
  rw[d7a] at e
  split at e
  ·rename_i hb
   have hb:=Nat.eq_of_beq_eq_true hb
   subst hb
   cases e
   exact h.1
  ·exact f9t r h.2 f m e
@[reducible] def KTC:List Ty→Type 1→Type 1
 | [],R=>R
 | t::ts,R=>t.den→KTC ts R
@[reducible] def KTD:List (List Ty)→Type 1
 | []=>ULift (Vc×List TV×List (List TV))
 | ts::D=>KTC ts (KTD D)
@[reducible] def KTS:List PK→List (List Ty)→Type 1
 | [],D=>KTD D
 | .v τ::l,D=>τ.den→KTS l D
 | .r τ::l,D=>τ.den→KTS l D
 | .f::l,D=>FuncId→KTS l D
 | .b _::l,D=>KTS l D
 | .c _ _::l,D=>KTS l D
 | .o _::l,D=>KTS l D
def kC:(ts:List Ty)→(R:Type 1)→KTC ts R→List TV→Option R
 | [],_,r,[]=>some r
 | t::ts,R,g,v::vs=>match v.as t with
  | some x=>kC ts R (g x) vs
  | none=>none
 | _,_,_,_=>none
def kD:(D:List (List Ty))→KTD D→List (List TV)→Option (Vc×List TV×List (List TV))
 | [],r,[]=>some r.down
 | ts::D,g,vs::dss=>match kC ts (KTD D) g vs with
  | some h=>kD D h dss
  | none=>none
 | _,_,_=>none
def kS:(l:List PK)→(D:List (List Ty))→KTS l D→List Arg→List (List TV)→Option (Vc×List TV×List (List TV))
 | [],D,g,[],dss=>kD D g dss
 | .v τ::l,D,g, .val a::zs,dss=>match a.as τ with
  | some x=>kS l D (g x) zs dss
  | none=>none
 | .r τ::l,D,g, .ref a::zs,dss=>match a.as τ with
  | some x=>kS l D (g x) zs dss
  | none=>none
 | .f::l,D,g, .fn a::zs,dss=>kS l D (g a) zs dss
 | .b k::l,D,g, .box j::zs,dss=>match Nat.beq k j with
  | true=>kS l D g zs dss
  | false=>none
 | _,_,_,_,_=>none
def g8g:(ts:List Ty)→(R:Type 1)→(R→List TV→Prop)→KTC ts R→List TV→Prop
 | [],_,p,r,acc=>p r acc
 | t::ts,R,p,g,acc=>∀ x,g8g ts R p (g x) (acc++[⟨t,x⟩])
def g8h(q:List (List TV)→Vc×List TV×List (List TV)→Prop):(D:List (List Ty))→KTD D→List (List TV)→Prop
 | [],r,acc=>q acc r.down
 | ts::D,g,acc=>g8g ts (KTD D) (fun h vs=>g8h q D h (acc++[vs])) g []
def f6t(P:Program)(f:FuncId)(sh:List (List CK)):(l:List PK)→(D:List (List Ty))→KTS l D→List Arg→Prop
 | [],D,g,acc=>g8h (fun dss r=>r.1.ok→g5c P f sh acc dss r.2.1 r.2.2) D g []
 | .v τ::l,D,g,acc=>∀ x,f6t P f sh l D (g x) (acc++[.val ⟨τ,x⟩])
 | .r τ::l,D,g,acc=>∀ x,f6t P f sh l D (g x) (acc++[.ref ⟨τ,x⟩])
 | .f::l,D,g,acc=>∀ x,f6t P f sh l D (g x) (acc++[.fn x])
 | .b k::l,D,g,acc=>f6t P f sh l D g (acc++[.box k])
 | .c _ _::_,_,_,_=>True
 | .o _::_,_,_,_=>True
theorem g9q:∀ (ts:List Ty) (R:Type 1) (p:R→List TV→Prop) (g:KTC ts R) (acc vs:List TV) (r:R),g8g ts R p g acc→kC ts R g vs=some r→p r (acc++vs)
 | [],R,p,g,acc,vs,r,h,e=>by
  cases vs with
  | nil =>
   simp only[kC,Option.some.injEq] at e
   subst e
   rw[List.append_nil]
   exact h
  | cons v vs=>simp[kC] at e
 | t::ts,R,p,g,acc,vs,r,h,e=>by
  cases vs with
  | nil=>simp[kC] at e
  | cons v vs =>
   rw[kC] at e
   split at e
   ·rename_i x hx
    have:=g9q ts R p (g x) (acc++[⟨t,x⟩]) vs r (h x) e
    rw[TV.as_some hx]
    simpa using this
   ·cases e
theorem g9r(q:List (List TV)→Vc×List TV×List (List TV)→Prop):∀ (D:List (List Ty)) (g:KTD D) (acc dss:List (List TV)) (r:Vc×List TV×List (List TV)),g8h q D g acc→kD D g dss=some r→q (acc++dss) r
 | [],g,acc,dss,r,h,e=>by
  cases dss with
  | nil =>
   simp only[kD,Option.some.injEq] at e
   subst e
   rw[List.append_nil]
   exact h
  | cons v vs=>simp[kD] at e
 | ts::D,g,acc,dss,r,h,e=>by
  cases dss with
  | nil=>simp[kD] at e
  | cons vs dss =>
   rw[kD] at e
   split at e
   ·rename_i k hk
    have h1:=g9q ts _ _ g [] vs k h hk
    have:=g9r q D k (acc++[vs]) dss r (by simpa using h1) e
    simpa using this
   ·cases e
theorem f4b{P:Program}{f:FuncId}{sh:List (List CK)}:∀ (l:List PK) (D:List (List Ty)) (g:KTS l D) (acc zs:List Arg) (dss:List (List TV)) (pre:Vc) (res:List TV) (dss':List (List TV)),f6t P f sh l D g acc→kS l D g zs dss=some (pre,res,dss')→pre.ok→g5c P f sh (acc++zs) dss res dss'
 | [],D,g,acc,zs,dss,pre,res,dss',h,e,hp=>by
  cases zs with
  | nil =>
   have:=g9r _ D g [] dss _ h e
   simpa using this hp
  | cons z zs=>simp[kS] at e
 | .v τ::l,D,g,acc,zs,dss,pre,res,dss',h,e,hp=>by
  cases zs with
  | nil=>simp[kS] at e
  | cons a zs =>
   cases a with
   | val a =>
    rw[kS] at e
    split at e
    ·rename_i x hx
     have:=f4b l D (g x) (acc++[.val ⟨τ,x⟩]) zs dss pre res dss' (h x) e hp
     rw[TV.as_some hx]
     simpa using this
    ·cases e
   | _=>simp[kS] at e
 | .r τ::l,D,g,acc,zs,dss,pre,res,dss',h,e,hp=>by
  cases zs with
  | nil=>simp[kS] at e
  | cons a zs =>
   cases a with
   | ref a =>
    rw[kS] at e
    split at e
    ·rename_i x hx
     have:=f4b l D (g x) (acc++[.ref ⟨τ,x⟩]) zs dss pre res dss' (h x) e hp
     rw[TV.as_some hx]
     simpa using this
    ·cases e
   | _=>simp[kS] at e
 | .f::l,D,g,acc,zs,dss,pre,res,dss',h,e,hp=>by
  cases zs with
  | nil=>simp[kS] at e
  | cons a zs =>
   cases a with
   | fn a =>
    rw[kS] at e
    have:=f4b l D (g a) (acc++[.fn a]) zs dss pre res dss' (h a) e hp
    simpa using this
   | _=>simp[kS] at e
 | .b k::l,D,g,acc,zs,dss,pre,res,dss',h,e,hp=>by
  cases zs with
  | nil=>simp[kS] at e
  | cons a zs =>
   cases a with
   | box j =>
    rw[kS] at e
    split at e
    ·rename_i hb
     have hb:=Nat.eq_of_beq_eq_true hb
     subst hb
     have:=f4b l D g (acc++[.box k]) zs dss pre res dss' h e hp
     simpa using this
    ·cases e
   | _=>simp[kS] at e
 | .c _ _::l,D,g,acc,zs,dss,pre,res,dss',h,e,hp=>by cases zs<;>simp[kS] at e
 | .o _::l,D,g,acc,zs,dss,pre,res,dss',h,e,hp=>by cases zs<;>simp[kS] at e
structure SCt where
 n:Nat
 sh:List (List CK)
 l:List PK
 D:List (List Ty)
 g:KTS l D
def SCt.Good(c:SCt):Prop:=a7s prog c.n∧f6t prog c.n c.sh c.l c.D c.g []
def a5v:List SCt→Prop
 | []=>True
 | c::r=>c.Good∧a5v r
def g9f:List PK→List (Option Nat)
 | []=>[]
 | .b k::l=>some k::g9f l
 | _::l=>none::g9f l
def f8h:List SCt→Nat→Option SK
 | [],_=>none
 | c::r,f=>match Nat.beq c.n f with
  | true=>some ⟨g9f c.l,c.sh⟩
  | false=>f8h r f
def d7i:List SCt→Nat→List Arg→List (List TV)→Option (Vc×List TV×List (List TV))
 | [],_,_,_=>none
 | c::r,f,zs,dss=>match Nat.beq c.n f with
  | true=>kS c.l c.D c.g zs dss
  | false=>d7i r f zs dss
theorem g0g:∀ (l:List SCt),a5v l→∀ f sk args dss pre res dss',f8h l f=some sk→d7i l f args dss=some (pre,res,dss')→pre.ok→a7s prog f∧g5c prog f sk.sh args dss res dss'
 | [],_,f,sk,args,dss,pre,res,dss',h,_,_=>by cases h
 | c::r,h,f,sk,args,dss,pre,res,dss',hs,e,hp=>by
  rw[f8h] at hs
  rw[d7i] at e
  split at e
  ·rename_i hb
   rw[hb] at hs
   have hb:=Nat.eq_of_beq_eq_true hb
   subst hb
   simp only[Option.some.injEq] at hs
   subst hs
   exact⟨h.1.1,by simpa using f4b c.l c.D c.g [] args dss pre res dss' h.1.2 e hp⟩
  ·rename_i hb
   rw[hb] at hs
   exact g0g r h.2 f sk args dss pre res dss' hs e hp
def a2o(l:List Ctr)(ol:List Ctr)(ml:List MK)(own wr:List Nat)(cl:List (Nat×c6z):=[])(ro:List Nat:=[])(sl:List SCt:=[]):Env:=Env.mk c9k f5o (b8c l) wr own (b8c ol) (d7a ml) (a0o cl) ro (g6g ol) (f8h sl) (d7i sl) e3z c6u
theorem f7d{l ol:List Ctr}{ml:List MK}{own wr:List Nat}{cl:List (Nat×c6z)}{ro:List Nat}{sl:List SCt}(h:a0m l)(ho:a4g ol)(hm:a5a ml)(hs:a5v sl):a1l prog (a2o l ol ml own wr cl ro sl) where
 ty T τ b e ht:=by
  have h1:=List.all_eq_true.mp (Bool.and_eq_true_iff.1 (d8s (b8c l) wr own (b8c ol) (d7a ml) (a0o cl) ro (g6g ol) (f8h sl) (d7i sl) c6u)).1 _ (d6x _ _ _ ht)
  exact h1
 mty T κ ε ht:=by
  have h1:=List.all_eq_true.mp (Bool.and_eq_true_iff.1 (d8s (b8c l) wr own (b8c ol) (d7a ml) (a0o cl) ro (g6g ol) (f8h sl) (d7i sl) c6u)).2 _ (d6x _ _ _ ht)
  exact h1
 pty _ _ _:=trivial
 ctr:=e9w l h
 octr:=g0c ol ho
 mark:=f9t ml hm
 nctr:=f9w
 sctr:=g0g sl hs
theorem g5s{f:FuncId}{fn:Func}{code:Code}{l ol:List Ctr}{ml:List MK}{own wr:List Nat}{cl:List (Nat×c6z)}{ro:List Nat}{sl:List SCt}(hl:a0m l)(ho:a4g ol)(hm:a5a ml)(hs:a5v sl)(hf:prog.funcs[f]?=some fn)(hb:fn.body=some code)(Λ:Nat→a0s){args:List Arg}{res:List TV}
  (h:awp (a2o l ol ml own wr cl ro sl) code Λ 0 (a1b (a2o l ol ml own wr cl ro sl) fn fun r=>a1d r res) (a0p fn args)):a0z prog f args (·=res) :=
 (g2l (f7d hl ho hm hs) c9f hf hb Λ h).mono fun _=>c4u
theorem a2x{f:FuncId}{fn:Func}{code:Code}{l ol:List Ctr}{ml:List MK}{own wr:List Nat}{cl:List (Nat×c6z)}{ro:List Nat}{sl:List SCt}(hl:a0m l)(ho:a4g ol)(hm:a5a ml)(hs:a5v sl)(hf:prog.funcs[f]?=some fn)(hb:fn.body=some code)(Λ:Nat→a0s){args:List Arg}{res:List TV}
  (h:awp (a2o l ol ml own wr cl ro sl) code Λ 0 (a3r (a2o l ol ml own wr cl ro sl) fn fun r=>a1d r res) (a4z fn args)):a4k prog f args res :=
 g2k (f7d hl ho hm hs) c9f hf hb Λ (fun _=>c4u) h
theorem c1k{f:FuncId}{fn:Func}{code:Code}{l ol:List Ctr}{ml:List MK}{own wr:List Nat}{cl:List (Nat×c6z)}{ro:List Nat}{sl:List SCt}(hl:a0m l)(ho:a4g ol)(hm:a5a ml)(hs:a5v sl)(hf:prog.funcs[f]?=some fn)(hb:fn.body=some code){m:c7a}(Λ:m.τ.den→Int→Nat→a0s)(hcells:∀ x:m.τ.den,(TV.cells ⟨m.τ,x⟩).length≤50)(hn:2≤fn.ntmps)
  (h:∀ (x:m.τ.den) (k:Int),(m.g x k).1.ok→a0d k→awp (a2o l ol ml own wr cl ro sl) code (Λ x k) 0 (a6s fn m x k) (a3o fn ⟨m.τ,x⟩ k)):e1h prog f m :=
 g0t (f7d hl ho hm hs) c9f hf hb Λ hcells hn h
end Go.Proofs.Ytlaoejdeanljgaa

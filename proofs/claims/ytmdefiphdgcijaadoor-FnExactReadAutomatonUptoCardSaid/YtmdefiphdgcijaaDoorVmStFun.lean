/- Fun, OwnFun, StFun. -/
import Derived.Test.YtmdefiphdgcijaaDoorVmCode
set_option linter.unusedVariables false
set_option linter.unusedSimpArgs false
namespace Go.Proofs.YtmdefiphdgcijaaDoor
theorem a0g.replicate{α β:Type}{R:α→β→Prop}{a:α}{b:β}(hab:R a b):∀ n:Nat,a0g R (List.replicate n a) (List.replicate n b)
 | 0=>trivial
 | n+1=>⟨hab,a0g.replicate hab n⟩
theorem a0g.append_replicate{α β:Type}{R:α→β→Prop}{as:List α}{bs:List β}(h:a0g R as bs){a:α}{b:β}(hab:R a b)(n:Nat):a0g R (as++List.replicate n a) (bs++List.replicate n b) :=
 h.append (a0g.replicate hab n)
theorem a0g.getD{α β:Type}{R:α→β→Prop}{d:α}{e:β}(hde:R d e):∀ {as:List α} {bs:List β},a0g R as bs→∀ i:Nat,R (as.getD i d) (bs.getD i e)
 | [],[],_,i=>by simpa using hde
 | a::as,b::bs,h,0=>h.1
 | a::as,b::bs,h,i+1=>by simpa using a0g.getD hde h.2 i
 | [],_::_,h,_=>h.elim
 | _::_,[],h,_=>h.elim
section
variable {P:Program} {E:Env}
def e7f(P:Program)(w:World)(S:Nat→Prop):Arg→Value→Prop
 | .own _,_=>True
 | .box _,_=>True
 | a,x=>b4j P w S a x
theorem d6x{w:World}{S X:Nat→Prop}(hS:SOk w S)(hX:∀ b,X b→b<w.heap.size∧¬ S b){fn:Func}{args:List Arg}{vals:List Value}(ha:a0g (e7f P w S) args vals)(hsol:(∀ b,¬ X b)∨∀ a∈args,a.solid=true) :
  Inv ⟨P,E,w,X,S,fun _=>none,fun _=>False,fun _=>none⟩ ⟨S,fun _=>undef,fun _=>[]⟩ (a0q fn args) { tmps:=vals.toArray++Array.replicate (fn.ntmps - vals.toArray.size) undef,defers:=[] } w:=by
 have hlen:=ha.length
 have hslot:∀ v x,v∈args→e7f P w S v x→VR ⟨P,E,w,X,S,fun _=>none,fun _=>False,fun _=>none⟩ ⟨S,fun _=>undef,fun _=>[]⟩ (a0q fn args).look w (e0f v) x:=by
  intro v x hm h
  cases v with
  | val v=>exact h
  | ref v =>
   obtain⟨b,o,cs,h1,h2,h3,h4⟩:=h
   exact⟨b,o,cs,h1, .inr ⟨h2,hsol.elim (fun q=>⟨q b,fun z=>z⟩) fun q=>absurd (q _ hm) (by simp[Arg.solid])⟩,h3,h4⟩
  | fn f=>exact h
  | clo v =>
   obtain⟨f,caps,l,h1,h2,h3⟩:=h
   refine⟨f,caps,l,h1,h2,h3.imp fun u y _ hy=>?_⟩
   cases u with
   | val v=>exact hy
   | ref v =>
    obtain⟨b,o,cs,k1,k2,k3,k4⟩:=hy
    exact⟨b,o,cs,k1, .inr ⟨k2,hsol.elim (fun q=>⟨q b,fun z=>z⟩) fun q=>absurd (q _ hm) (by simp[Arg.solid])⟩,k3,k4⟩
   | fn f=>exact hy
   | clo v=>exact hy.elim
   | own v=>exact hy.elim
   | box k=>exact hy.elim
  | own v=>trivial
  | box k=>trivial
 exact {
  defers:=rfl
  size:=by simp[a0q,hlen]
  keep:=a1p.refl _ _
  xLt:=⟨fun b h=>(hX b h).1,fun g hg=>⟨(hS.2 g hg).1,fun q=>(hX g q).2 (hS.2 g hg).1,hS.1 g (hS.2 g hg).1,(hS.2 g hg).2⟩⟩
  sOld:=fun b _ _=>Iff.rfl
  sX:=fun b hs=>hs
  sLt:=hS.1
  slots:=fun i=>by
   have h1:a0g (fun v x=>VR ⟨P,E,w,X,S,fun _=>none,fun _=>False,fun _=>none⟩ ⟨S,fun _=>undef,fun _=>[]⟩ (a0q fn args).look w v x) (args.map e0f) vals:=a0g.map_left _ (ha.imp fun v x hm h=>hslot v x hm h)
   have h2:=a0g.getD (d:=AV.any) (e:=undef) (show VR ⟨P,E,w,X,S,fun _=>none,fun _=>False,fun _=>none⟩ ⟨S,fun _=>undef,fun _=>[]⟩ (a0q fn args).look w .any undef from trivial) (h1.append_replicate (a:=AV.any) (b:=undef) (show VR ⟨P,E,w,X,S,fun _=>none,fun _=>False,fun _=>none⟩ ⟨S,fun _=>undef,fun _=>[]⟩ (a0q fn args).look w .any undef from trivial) (fn.ntmps - args.length)) i
   have e1:(a0q fn args).sl i=(args.map e0f++List.replicate (fn.ntmps - args.length) AV.any).getD i AV.any:=rfl
   have e2:(vals.toArray++Array.replicate (fn.ntmps - vals.toArray.size) undef).getD i undef=(vals++List.replicate (fn.ntmps - args.length) undef).getD i undef:=by
    rw[Array.getD_eq_getD_getElem?,List.getD_eq_getElem?_getD,←Array.getElem?_toList]
    simp[hlen]
   rw[e1,e2]
   exact h2
  objs:=fun id o h=>by cases h
  place:=fun id o b h=>by cases h
  apart:=fun id id' o o' b h=>by cases h
  trees:=⟨(fun id τ xs h=>by cases h),(fun id τ xs h=>by cases h),(fun id τ xs b h=>by cases h),(fun id id' τ τ' xs xs' b h=>by cases h)⟩
  root:=fun id v h=>by cases h
  rng:=fun id v h=>by cases h
  rootB:=fun id v h=>by cases h
  rngB:=fun id v h=>by cases h }
theorem e6w{w:World}{S:Nat→Prop}(hS:SOk w S){fn:Func}{args:List Arg}{vals:List Value}(ha:a0g (b4j P w S) args vals) :
  Inv ⟨P,E,w,fun _=>False,S,fun _=>none,fun _=>False,fun _=>none⟩ ⟨S,fun _=>undef,fun _=>[]⟩ (a0q fn args) { tmps:=vals.toArray++Array.replicate (fn.ntmps - vals.toArray.size) undef,defers:=[] } w :=
 d6x hS (fun _ h=>h.elim) (ha.imp fun v x _ h=>by
  cases v with
  | own v=>trivial
  | box k=>exact h.elim
  | _=>exact h) (.inl fun _ h=>h)
def b1c(tmps:Array Value):ResultVar→Sem Value
 | .tmp t=>pure (tmps.getD t undef)
 | .cell a t=>do loadVar t (←asAddr (tmps.getD a undef))
theorem c7c(fn:Func)(tmps:Array Value):results fn tmps=(do
  let vs ←fn.results.mapM (b1c tmps)
  pure (if h:vs.size=1 then vs[0] else .tuple vs)):=by
 unfold results
 congr 1
theorem d3b(hE:a0r P E){c:Ctx}(hcP:c.P=P)(hcE:c.E=E){G:Gh}{s:a0c}{a:Act}{w:World}(h:Inv c G s a w):∀ {rs:List ResultVar} {Ts:List TypeId} {vs:List TV},d1v E s rs Ts=some vs →
  ∃ xs,(rs.mapM (b1c a.tmps)).run P w = .ok xs w∧a0g (RdV w (SX G s.look)) vs xs
 | [],[],vs,hr=>by
  simp only[d1v,Option.some.injEq] at hr
  subst hr
  exact⟨[],by simp,trivial⟩
 | r::rs,T::Ts,vs,hr=>by
  simp only[d1v] at hr
  split at hr
  ·rename_i τ q hT
   split at hr
   ·rename_i x hx
    split at hr
    ·rename_i l hl
     simp only[Option.some.injEq] at hr
     subst hr
     obtain⟨xs,h1,h2⟩:=d3b hE hcP hcE h hl
     cases r with
     | tmp t =>
      refine⟨a.tmps.getD t undef::xs,by simp[List.mapM_cons,b1c,h1],b9r h.trees h.objs (c4z fun _ _ h=>h) hx (a0p h (.tmp t)),h2⟩
     | cell p t =>
      simp only at hx
      split at hx
      ·rename_i hb
       have hb:=Nat.eq_of_beq_eq_true hb
       subst hb
       unfold c1t at hx
       split at hx
       ·rename_i u hu
        obtain⟨b,o,cs,k1,k2,k3,k4⟩:=b2r h.objs (c4z fun _ _ h=>h) hu (a0p h (.tmp p))
        have hrun:=b1i hE hT k2 k3
        have k1':a.tmps.getD p undef = .pointer (some ⟨b,o,none⟩):=k1
        refine⟨mkV τ cs::xs,?_,b9r h.trees h.objs (c4z fun _ _ h=>h) hx k4,h2⟩
        simp only[Instr.loadAt,Instr.sureAddr,Sem.run_bind,Sem.run_pure,Result.andThen_ok] at hrun
        simp only[List.mapM_cons,b1c,k1',asAddr,Sem.run_bind,Sem.run_pure,Result.andThen_ok,hrun,h1]
       ·cases hx
      ·cases hx
    ·cases hr
   ·cases hr
  ·cases hr
 | [],_::_,_,hr=>by cases hr
 | _::_,[],_,hr=>by cases hr
theorem f0b{w:World}{S:Nat→Prop}:∀ {vs:List TV} {xs:List Value},a0g (RdV w S) vs xs→c2p w S vs (if h:xs.toArray.size=1 then xs.toArray[0] else .tuple xs.toArray)
 | [],[],_=>⟨[],by simp,trivial⟩
 | [v],[x],h=>by simpa [c2p] using h.1
 | v::u::r,x::y::z,h=>⟨x::y::z,by simp,h⟩
 | [],_::_,h=>h.elim
 | _::_,[],h=>h.elim
 | [_],_::_::_,h=>h.2.elim
 | _::_::_,[_],h=>h.2.elim
theorem e1e(hE:a0r P E)(hmix:P.follows .mixedOrders=true){f:FuncId}{fn:Func}{code:Code}(hf:P.funcs[f]?=some fn)(hb:fn.body=some code)(Λ:Nat→a0w){args:List Arg}{post:List TV→Prop}
  (h:awp E code Λ 0 (a1m E fn post) (a0q fn args)):a1h P f args post:=by
 intro w S vals hS ha
 refine calls_of_wp hf hb ?_
 have hinv:=e6w (P:=P) (E:=E) (fn:=fn) hS ha
 refine wp_mono (a5r (c:=⟨P,E,w,fun _=>False,S,fun _=>none,fun _=>False,fun _=>none⟩) hE hmix code Λ 0 _ _ _ _ w hinv h) ?_
 have fin:∀ (e:Exit) (a:Act) (w':World),(e = .normal∨e = .ret)→(∃ G s,Inv ⟨P,E,w,fun _=>False,S,fun _=>none,fun _=>False,fun _=>none⟩ G s a w'∧a1m E fn post e s) →
   a.defers=[]∧∃ v,(results fn a.tmps).run P w' = .ok v w'∧∃ x S' res,Ending.returned v = .returned x∧post res∧a1p (fun _=>False) w w'∧(∀ b,b<w.heap.size→(S' b↔S b))∧(∀ b,S' b→b<w'.heap.size)∧c2p w' S' res x:=by
  rintro e a w' he ⟨G,s,hI,hp⟩
  have hp':∃ vs,d1v E s fn.results.toList fn.resultTypes.toList=some vs∧post vs:=by
   rcases he with rfl|rfl <;>
   ·simp only[a1m] at hp
    split at hp
    ·rename_i vs hvs
     exact⟨vs,hvs,hp⟩
    ·exact hp.elim
  obtain⟨vs,hvs,hpost⟩:=hp'
  obtain⟨xs,h1,h2⟩:=d3b hE (c:=⟨P,E,w,fun _=>False,S,fun _=>none,fun _=>False,fun _=>none⟩) rfl rfl hI hvs
  refine⟨hI.defers,(if h:xs.toArray.size=1 then xs.toArray[0] else .tuple xs.toArray),?_,_,SX G s.look,vs,rfl,hpost,hI.keep,fun b hb=>?_,fun b hb=>?_,f0b h2⟩
  ·rw[c7c,Array.mapM_eq_mapM_toList]
   simp only[Sem.run_bind,Sem.run_map,h1]
   rfl
  ·constructor
   ·rintro (hs|⟨id,e',τ,ys,hid,hbb⟩|⟨id,τ,ys,hid,hbb⟩)
    ·exact (hI.sOld b hb (fun q=>q)).1 hs
    ·rcases (hI.place id _ b hid hbb).1 with hge|hx
     ·have:w.heap.size≤b:=hge
      omega
     ·exact hx.elim
    ·rcases (hI.trees.pl id _ _ b hid hbb).1 with hge|hx
     ·have:w.heap.size≤b:=hge
      omega
     ·exact hx.elim
   ·exact fun hs => .inl ((hI.sOld b hb (fun q=>q)).2 hs)
  ·rcases hb with hs|⟨id,e',τ,ys,hid,hbb⟩|⟨id,τ,ys,hid,hbb⟩
   ·exact hI.sLt b hs
   ·exact (hI.place id _ b hid hbb).2.2
   ·exact (hI.trees.pl id _ _ b hid hbb).2.2.1
 intro e a w' hq
 cases e with
 | normal=>exact fin .normal a w' (.inl rfl) hq
 | ret=>exact fin .ret a w' (.inr rfl) hq
 | exit i=>obtain⟨_,_,_,hp⟩:=hq;exact hp.elim
 | goto l=>obtain⟨_,_,_,hp⟩:=hq;exact hp.elim
 | panic ch=>obtain⟨_,_,_,hp⟩:=hq;exact hp.elim
 | outgrown=>obtain⟨_,_,_,hp⟩:=hq;exact hp.elim
end
end Go.Proofs.YtmdefiphdgcijaaDoor

set_option linter.unusedVariables false
set_option linter.unusedSimpArgs false
namespace Go.Proofs.YtmdefiphdgcijaaDoor
def b9p(E:Env)(s:a0c):List ResultVar→List TypeId→Option (List TV×List Nat)
 | [],[]=>some ([],[])
 | r::rs,T::Ts=>match a0f E.ty T with
  | some (τ,_)=>match (match r with
    | .tmp t=>b0q s.look τ (s.eval (.tmp t))
    | .cell p t=>match Nat.beq t T with
     | true=>match b2q s.look τ (s.eval (.tmp p)) with
      | some u=>b0q s.look τ u
      | none=>none
     | false=>none) with
   | some (x,i)=>match b9p E s rs Ts with
    | some (l,j)=>some (⟨τ,x⟩::l,i++j)
    | none=>none
   | none=>none
  | none=>none
 | _,_=>none
def b9n(E:Env)(fn:Func)(post:List TV→Prop)(e:Exit)(s:a0c):Prop :=
 match e with
 | .ret | .normal=>match b9p E s fn.results.toList fn.resultTypes.toList with
  | some (vs,ids)=>match a4a ids with
   | true=>post vs
   | false=>False
  | none=>False
 | _=>False
section
variable {P:Program} {E:Env}
theorem d3e{c:Ctx}(hE:a0r c.P c.E)(hcP:c.P=P)(hcE:c.E=E){G:Gh}{s:a0c}{a:Act}{w:World}(h:Inv c G s a w):∀ {rs:List ResultVar} {Ts:List TypeId} {vs:List TV} {ids:List Nat},b9p E s rs Ts=some (vs,ids)→ids.Nodup →
  ∃ xs fp,(rs.mapM (b1c a.tmps)).run P w = .ok xs w∧c5r w vs xs fp∧fp.Nodup∧∀ b∈fp,InF G s.look ids b
 | [],[],vs,ids,hr,_=>by
  simp only[b9p,Option.some.injEq,Prod.mk.injEq] at hr
  obtain⟨rfl,rfl⟩:=hr
  exact⟨[],[],by simp,rfl,List.nodup_nil,by simp⟩
 | r::rs,T::Ts,vs,ids,hr,hnd=>by
  simp only[b9p] at hr
  split at hr
  case h_2=>cases hr
  case h_1 τ q hT =>
  split at hr
  case h_2=>cases hr
  case h_1 x i hx =>
  split at hr
  case h_2=>cases hr
  case h_1 l j hl =>
  simp only[Option.some.injEq,Prod.mk.injEq] at hr
  obtain⟨rfl,rfl⟩:=hr
  rw[List.nodup_append] at hnd
  obtain⟨n1,n2,n3⟩:=hnd
  obtain⟨xs,fp,h1,h2,h3,h4⟩:=d3e hE hcP hcE h hl n2
  cases r with
  | cell p t =>
   simp only at hx
   split at hx
   case h_2=>cases hx
   case h_1 hb =>
   have hb:=Nat.eq_of_beq_eq_true hb
   subst hb
   split at hx
   case h_2=>cases hx
   case h_1 u hu =>
   obtain⟨b,o,cs,q1,q2,q3,q4⟩:=b2r h.objs (fun _ _ h=>h) hu (a0p h (.tmp p))
   subst hcP hcE
   have hrun:=b1i hE hT q2 q3
   have q1':a.tmps.getD p undef = .pointer (some ⟨b,o,none⟩):=q1
   obtain⟨f1,k1,k2,k3⟩:=b0b h hx q4 n1
   refine⟨mkV τ cs::xs,f1++fp,?_,⟨f1,fp,rfl,k1,h2⟩,a3i k2 h3 fun b hb hb'=>h.inf_apart (k3 b hb) (h4 b hb') (fun x hx y hy=>n3 x hx y hy),fun b hb=>?_⟩
   ·simp only[Instr.loadAt,Instr.sureAddr,Sem.run_bind,Sem.run_pure,Result.andThen_ok] at hrun
    simp only[List.mapM_cons,b1c,q1',asAddr,Sem.run_bind,Sem.run_pure,Result.andThen_ok,hrun,h1]
   ·rcases List.mem_append.1 hb with hb|hb
    ·exact (k3 b hb).mono fun k hk=>by simp[hk]
    ·exact (h4 b hb).mono fun k hk=>by simp[hk]
  | tmp t =>
   obtain⟨f1,k1,k2,k3⟩:=b0b h hx (a0p h (.tmp t)) n1
   refine⟨a.tmps.getD t undef::xs,f1++fp,by simp[List.mapM_cons,b1c,h1],⟨f1,fp,rfl,k1,h2⟩,a3i k2 h3 fun b hb hb'=>h.inf_apart (k3 b hb) (h4 b hb') (fun x hx y hy=>n3 x hx y hy),fun b hb=>?_⟩
   rcases List.mem_append.1 hb with hb|hb
   ·exact (k3 b hb).mono fun k hk=>by simp[hk]
   ·exact (h4 b hb).mono fun k hk=>by simp[hk]
 | [],_::_,_,_,hr,_=>by cases hr
 | _::_,[],_,_,hr,_=>by cases hr
theorem e8c{w:World}:∀ {vs:List TV} {xs:List Value} {fp:List Nat},c5r w vs xs fp→d1e w vs (if h:xs.toArray.size=1 then xs.toArray[0] else .tuple xs.toArray) fp
 | [],[],fp,h=>⟨[],by simp,h⟩
 | [v],[x],fp,h=>by
  obtain⟨f1,f2,rfl,h1,h2⟩:=h
  have h2:f2=[]:=h2
  subst h2
  simpa [d1e] using h1
 | v::u::r,x::y::z,fp,h=>⟨x::y::z,by simp,h⟩
 | [],_::_,_,h=>h.elim
 | _::_,[],_,h=>h.elim
 | [_],_::_::_,_,h=>by obtain⟨_,_,_,_,h⟩:=h;exact h.elim
 | _::_::_,[_],_,h=>by obtain⟨_,_,_,_,h⟩:=h;exact h.elim
theorem b0f:∀ {us:List TV} {id:Nat} {p:Nat×a0d},p∈a1d id us→id≤p.1∧p.1<id+us.length
 | [],id,p,h=>by cases h
 | u::us,id,p,h=>by
  rcases List.mem_append.1 h with h|h
  ·have:=d6i h;simp only[List.length_cons];omega
  ·have:=b0f h;simp only[List.length_cons];omega
theorem b8c:∀ {us:List TV} {id:Nat},((a1d id us).map (·.1)).Nodup
 | [],id=>List.nodup_nil
 | u::us,id=>by
  simp only[a1d,List.map_append]
  refine a3i ?_ b8c fun x hx hx'=>?_
  ·obtain⟨τ,y⟩:=u
   cases τ<;>simp[a4j]
  ·obtain⟨p,hp,rfl⟩:=List.mem_map.1 hx
   obtain⟨q,hq,e⟩:=List.mem_map.1 hx'
   have h1:=d6i hp
   have h2:=b0f hq
   omega
theorem e7m(v:TV):v.cells.length≤100:=by
 obtain⟨τ,y⟩:=v
 cases τ with
 | st s =>
  show (s.cells y).length≤100
  rw[a0h.cells_length]
  exact Ty.size_le (.st s)
 | _=>exact Nat.succ_le_of_lt (Nat.zero_lt_of_lt (by decide:0<100))
theorem c1d{c:Ctx}{a:Act}{w:World}{S:Nat→Prop}(hR:∀ j,c.R j=none):∀ {as:List Arg} {xs:List Value} {fp:List Nat} {p:Nat} {G:Gh} {s:a0c},Inv c G s a w→b2x P w S as xs fp→fp.Nodup→Fr c G s.look w fp →
  (∀ i x,xs[i]?=some x→a.tmps.getD (p+i) undef=x)→p+as.length≤s.slots.length→(∀ id o,s.look id=some o→id<1000000+100 * p)→∃ G',Inv c G' (b3s p as s) a w
 | [],xs,fp,p,G,s,h,_,_,_,_,_,_=>⟨G,h⟩
 | b::as,[],fp,p,G,s,h,hA,_,_,_,_,_=>hA.elim
 | b::as,x::xs,fp,p,G,s,h,hA,hnd,hF,hx,hlen,hid=>by
  obtain⟨f1,f2,rfl,hb,hA⟩:=hA
  rw[List.nodup_append] at hnd
  obtain⟨n1,n2,n3⟩:=hnd
  simp only[List.length_cons] at hlen
  have hx':∀ i y,xs[i]?=some y→a.tmps.getD (p+1+i) undef=y:=fun i y hi=>by
   have:=hx (i+1) y (by simpa using hi)
   rwa [show p+(i+1)=p+1+i by omega] at this
  have other:f1=[]→b3s p (b::as) s=b3s (p+1) as s→∃ G',Inv c G' (b3s p (b::as) s) a w:=fun hf e=>by
   subst hf
   rw[e]
   exact c1d hR h hA n2 (fun q hq=>hF q (by simp[hq])) hx' (by omega) fun id o ho=>by have:=hid id o ho;omega
  cases b with
  | own v =>
   have hO:OwV w v x f1:=hb
   obtain⟨G1,lk1,l1,i1,e1,t1,fr1⟩:=a0l.addVal (id:=1000000+100 * p) h hO n1 (fun q hq=>hF q (by simp[hq]))
    (fun q hq=>by
     cases hq2:s.look q.1 with
     | none=>rfl
     | some o=>have h1:=hid _ o hq2;have h2:=b0f hq;omega) b8c (fun j _=>hR j)
   have hlk:a0c.look { slots:=s.slots.set p (a3j (1000000+100 * p) v),objs:=a1d (1000000+100 * p) v.cells++s.objs }=lk1:=by
    funext i
    rw[l1 i]
    exact b3l _ _ i
   have hI:Inv c G1 { slots:=s.slots.set p (a3j (1000000+100 * p) v),objs:=a1d (1000000+100 * p) v.cells++s.objs } a w:=by
    unfold Inv
    rw[hlk,show a0c.sl { slots:=s.slots.set p (a3j (1000000+100 * p) v),objs:=a1d (1000000+100 * p) v.cells++s.objs }=a5y s.slots.length s.sl (some p) (a3j (1000000+100 * p) v) from b1d s.slots p _ _,
     show ({ slots:=s.slots.set p (a3j (1000000+100 * p) v),objs:=a1d (1000000+100 * p) v.cells++s.objs }:a0c).slots.length=s.slots.length from by simp]
    exact { i1 with
     slots:=fun i=>by
      unfold a5y
      split
      ·rename_i hi
       obtain⟨e,_⟩:=hi
       simp only[Option.some.injEq] at e
       subst e
       rw[show a.tmps.getD p undef=x from hx 0 x rfl]
       exact t1.toVR
      ·exact i1.slots i }
   obtain⟨G2,h2⟩:=c1d hR hI hA n2 (by
    rw[hlk]
    exact fr1 f2 (fun q hq=>hF q (by simp[hq])) fun q hq hq'=>n3 q hq' q hq rfl) hx' (by simp;omega) (fun id o ho=>by
     rw[hlk,l1 id] at ho
     unfold lkx at ho
     split at ho
     ·rename_i o' ho'
      have h1:=b0f (a5h ho')
      have h2:=e7m v
      simp only at h1
      omega
     ·have:=hid id o ho;omega)
   exact⟨G2,h2⟩
  | val v=>exact other hb.1 rfl
  | ref v=>exact other hb.1 rfl
  | fn v=>exact other hb.1 rfl
  | clo v=>exact other hb.1 rfl
  | box k=>exact other hb.1 rfl
theorem b2x.all2{w:World}{S:Nat→Prop}:∀ {as:List Arg} {xs:List Value} {fp:List Nat},b2x P w S as xs fp→a0g (e7f P w S) as xs
 | [],[],_,_=>trivial
 | a::as,x::xs,_,h=>by
  obtain⟨f1,f2,_,h1,h2⟩:=h
  refine⟨?_,b2x.all2 h2⟩
  cases a with
  | own v=>trivial
  | box k=>exact h1.2.elim
  | _=>exact h1.2
 | [],_::_,_,h=>h.elim
 | _::_,[],_,h=>h.elim
theorem e4q{w:World}{S:Nat→Prop}(hS:SOk w S){fn:Func}{args:List Arg}{vals:List Value}{fa:List Nat}(ha:b2x P w S args vals fa)(hsol:fa=[]∨∀ a∈args,a.solid=true)(hnd:fa.Nodup)(hfa:∀ b∈fa,b<w.heap.size∧¬ S b) :
  ∃ G,Inv ⟨P,E,w,fun b=>b∈fa,S,fun _=>none,fun _=>False,fun _=>none⟩ G (d0v fn args) { tmps:=vals.toArray++Array.replicate (fn.ntmps - vals.toArray.size) undef,defers:=[] } w:=by
 have h0:=d6x (P:=P) (E:=E) (fn:=fn) hS (X:=fun b=>b∈fa) hfa ha.all2 (hsol.imp_left fun e b hb=>by rw[e] at hb;cases hb)
 have hlen:=ha.all2.length
 refine c1d (S:=S) (fun _=>rfl) h0 ha hnd (fun b hb=>⟨.inr hb,(hfa b hb).2,(hfa b hb).1,fun i o h=>(by cases h),fun j τ xs h=>by cases h⟩) (fun i x hi=>?_) (by simp[a0q]<;>omega) (fun id o h=>by cases h)
 rw[Nat.zero_add,Array.getD_eq_getD_getElem?,Array.getElem?_append_left (by simpa using (List.getElem?_eq_some_iff.1 hi).1)]
 simp[hi]
theorem e1d(hE:a0r P E)(hmix:P.follows .mixedOrders=true){f:FuncId}{fn:Func}{code:Code}(hf:P.funcs[f]?=some fn)(hb:fn.body=some code)(Λ:Nat→a0w){args:List Arg}{res:List TV}{post:List TV→Prop}(hpost:∀ vs,post vs→vs=res)
  (h:awp E code Λ 0 (b9n E fn post) (d0v fn args)):b4m P f args res:=by
 intro w S vals fa hS ha hsol hfn hfa
 refine calls_of_wp hf hb ?_
 obtain⟨G0,hinv⟩:=e4q (P:=P) (E:=E) (fn:=fn) hS ha hsol hfn hfa
 refine wp_mono (a5r (c:=⟨P,E,w,fun b=>b∈fa,S,fun _=>none,fun _=>False,fun _=>none⟩) hE hmix code Λ 0 _ _ _ _ w hinv h) ?_
 have fin:∀ (e:Exit) (a:Act) (w':World),(e = .normal∨e = .ret)→(∃ G s,Inv ⟨P,E,w,fun b=>b∈fa,S,fun _=>none,fun _=>False,fun _=>none⟩ G s a w'∧b9n E fn post e s) →
   a.defers=[]∧∃ v,(results fn a.tmps).run P w' = .ok v w'∧∃ x fp,Ending.returned v = .returned x∧a1p (fun b=>b∈fa) w w'∧d1e w' res x fp∧fp.Nodup∧∀ b∈fp,b∈fa∨(w.heap.size≤b∧b<w'.heap.size):=by
  rintro e a w' he ⟨G,s,hI,hp⟩
  have hp':∃ vs ids,b9p E s fn.results.toList fn.resultTypes.toList=some (vs,ids)∧ids.Nodup∧vs=res:=by
   rcases he with rfl|rfl <;>
   ·simp only[b9n] at hp
    split at hp
    ·rename_i vs ids hvs
     split at hp
     ·rename_i hn
      exact⟨vs,ids,hvs,a1y hn,hpost vs hp⟩
     ·exact hp.elim
    ·exact hp.elim
  obtain⟨vs,ids,hvs,hn,rfl⟩:=hp'
  obtain⟨xs,fp,h1,h2,h3,h4⟩:=d3e (P:=P) (E:=E) (c:=⟨P,E,w,fun b=>b∈fa,S,fun _=>none,fun _=>False,fun _=>none⟩) hE rfl rfl hI hvs hn
  refine⟨hI.defers,(if h:xs.toArray.size=1 then xs.toArray[0] else .tuple xs.toArray),?_,_,fp,rfl,hI.keep,e8c h2,h3,fun b hb=>?_⟩
  ·rw[c7c,Array.mapM_eq_mapM_toList]
   simp only[Sem.run_bind,Sem.run_map,h1]
   rfl
  ·obtain⟨id,hi,hq⟩:=h4 b hb
   rcases hq with ⟨τ,ys,q1,q2⟩|⟨e',τ,ys,q1,q2⟩
   ·obtain⟨p1,_,p3,_⟩:=hI.trees.pl id τ ys b q1 q2
    exact p1.elim (fun q => .inr ⟨q,p3⟩) .inl
   ·obtain⟨p1,_,p3⟩:=hI.place id _ b q1 q2
    exact p1.elim (fun q => .inr ⟨q,p3⟩) .inl
 intro e a w' hq
 cases e with
 | normal=>exact fin .normal a w' (.inl rfl) hq
 | ret=>exact fin .ret a w' (.inr rfl) hq
 | exit i=>obtain⟨_,_,_,hp⟩:=hq;exact hp.elim
 | goto l=>obtain⟨_,_,_,hp⟩:=hq;exact hp.elim
 | panic ch=>obtain⟨_,_,_,hp⟩:=hq;exact hp.elim
 | outgrown=>obtain⟨_,_,_,hp⟩:=hq;exact hp.elim
theorem C1.reR{c:Ctx}{G:Gh}{lk:Nat→Option a0d}{w:World}{v:AV}{x:Value}(h:C1 c G lk w v x)(R:Nat→Option Value):C1 { c with R:=R } G lk w v x:=by
 cases v<;>exact h
theorem TR.reR{c:Ctx}{G:Gh}{lk:Nat→Option a0d}{w:World}{v:AV}{x:Value}(h:TR c G lk w v x)(R:Nat→Option Value):TR { c with R:=R } G lk w v x:=by
 cases v with
 | agg cs =>
  obtain⟨l,h1,h2⟩:=h
  exact⟨l,h1,h2.imp fun u y _ hy=>hy.reR R⟩
 | tree i=>exact C1.reR (c:=c) (w:=w) (v := .tree i) h R
 | _=>exact h
def a1v(fn:Func)(v:TV)(k:Int):a0c:={ slots:=a3j 50 v :: .imm ⟨.int .i64,k⟩::List.replicate (fn.ntmps - 2) .any,objs:=a1d 50 v.cells }
def a3s(fn:Func)(m:b7v)(x:m.τ.den)(k:Int)(e:Exit)(s:a0c):Prop :=
 match e with
 | .ret | .normal=>match fn.results.toList with
  | [.tmp t]=>match s.eval (.tmp t),b0q s.look m.τ (a3j 50 ⟨m.τ,x⟩) with
   | .imm ⟨.int .i64,n⟩,some (x',ids)=>match a4a ids&&ids.all fun id=>a1i (s.look id) with
    | true=>n=(m.g x k).2.2∧x'=(m.g x k).2.1
    | false=>False
   | _,_=>False
  | _=>False
 | _=>False
theorem d2w{c c0:Ctx}{G G0:Gh}{lk lk0:Nat→Option a0d}{w w':World}(hroot:∀ j v,a1i (lk0 j)=true→(∃ l,G0.η j = .tuple (v::l).toArray)→50≤j→a1i (lk j)=true→∃ l,G.η j = .tuple (v::l).toArray) :
  ∀ {us:List TV} {id:Nat} {ts:List Ty} {us':List TV} {ids:List Nat} {l:List Value},50≤id→(∀ u∈us,u.τ.agg=false)→a0g (C1 c0 G0 lk0 w) (a1z id us) l→b2v lk (a1z id us) ts=some (us',ids)→a0g (C1 c G lk w') (a1z id us) l
 | [],id,ts,us',ids,l,_,_,h,_=>by
  match l,h with
  | [],_=>trivial
 | u::us,id,ts,us',ids,l,hid,hu,h,ht=>by
  match l,h,ts,ht with
  | v::l,h,t::ts,ht =>
   simp only[a1z,b2v] at ht
   split at ht
   case h_2=>cases ht
   case h_1 x i hx =>
   split at ht
   case h_2=>cases ht
   case h_1 r j hr =>
   refine⟨?_,d2w hroot (by omega) (fun u hu'=>hu u (by simp[hu'])) h.2 hr⟩
   have h1:=h.1
   obtain⟨τ,y⟩:=u
   cases τ with
   | slice t' =>
    obtain⟨q1,q2,q3,q4⟩:=h1
    have hT:a1i (lk id)=true:=by
     simp only[a7s,a2i] at hx
     split at hx
     ·rename_i hl;rw[hl];rfl
     ·cases hx
    obtain⟨l',hl'⟩:=hroot id v q1 ⟨q2,q3⟩ hid hT
    exact⟨hT,l',hl',q4⟩
   | st s=>exact absurd (hu ⟨.st s,y⟩ (by simp)) (by simp[Ty.agg])
   | mv t'=>exact trivial
   | ptr=>exact⟨rfl,h1.2⟩
   | int k=>exact⟨rfl,h1.2⟩
   | bool=>exact⟨rfl,h1.2⟩
   | str=>exact⟨rfl,h1.2⟩
theorem d9r(hE:a0r P E)(hmix:P.follows .mixedOrders=true){f:FuncId}{fn:Func}{code:Code}(hf:P.funcs[f]?=some fn)(hb:fn.body=some code){m:b7v}(Λ:m.τ.den→Int→Nat→a0w)
  (hcells:∀ x:m.τ.den,(TV.cells ⟨m.τ,x⟩).length≤50) (hn:2≤fn.ntmps) (h:∀ (x:m.τ.den) (k:Int),(m.g x k).1.ok→a0e k→awp E code (Λ x k) 0 (a3s fn m x k) (a1v fn ⟨m.τ,x⟩ k)):c8l P f m:=by
 intro x k w v fp hpre hk hG hO hnd hlt
 refine calls_of_wp hf hb ?_
 have h0:a0l ⟨P,E,w,fun b=>b∈fp,fun b=>b<w.heap.size∧b∉fp,fun _=>none,fun _=>False,fun _=>none⟩ ⟨fun b=>b<w.heap.size∧b∉fp,fun _=>undef,fun _=>[]⟩ (fun _ => .any) (a1v fn ⟨m.τ,x⟩ k).slots.length (fun _=>none) { tmps := #[v, .int .i64 k]++Array.replicate (fn.ntmps - 2) undef,defers:=[] } w:={
  defers:=rfl
  size:=by simp[a1v];omega
  keep:=a1p.refl _ _
  xLt:=⟨hlt,fun g hg=>⟨(hG g hg).1,(hG g hg).1.2,(hG g hg).1.1,(hG g hg).2⟩⟩
  sOld:=fun b _ _=>Iff.rfl
  sX:=fun b h=>h
  sLt:=fun b h=>h.1
  slots:=fun _=>trivial
  objs:=fun id o h=>by cases h
  place:=fun id o b h=>by cases h
  apart:=fun id id' o o' b h=>by cases h
  trees:=⟨(fun id τ xs h=>by cases h),(fun id τ xs h=>by cases h),(fun id τ xs b h=>by cases h),(fun id id' τ τ' xs xs' b h=>by cases h)⟩
  root:=fun id v h=>by cases h
  rng:=fun id v h=>by cases h
  rootB:=fun id v h=>by cases h
  rngB:=fun id v h=>by cases h }
 obtain⟨G1,lk1,l1,i1,e1,t1,_⟩:=h0.addVal (id:=50) hO hnd (fun b hb=>⟨.inr hb,fun h=>h.2 hb,hlt b hb,fun i o h=>(by cases h),fun j τ xs h=>by cases h⟩) (fun _ _=>rfl) b8c (fun _ _=>rfl)
 have hlk1:(a1v fn ⟨m.τ,x⟩ k).look=lk1:=by
  funext i
  rw[l1 i]
  unfold lkx a1v a0c.look
  cases a0f (a1d 50 (TV.cells ⟨m.τ,x⟩)) i<;>rfl
 let R:Nat→Option Value:=fun id=>match a1i (lk1 id),G1.η id with
  | true, .tuple arr=>arr[0]?
  | _,_=>none
 have hR:∀ id v',R id=some v'→a1i (lk1 id)=true∧∃ l,G1.η id = .tuple (v'::l).toArray:=by
  intro id v' hr
  simp only[R] at hr
  split at hr
  ·rename_i arr ht hη
   refine⟨ht,?_⟩
   rw[hη]
   have hl:arr.toList[0]?=some v':=by simpa using hr
   match hq:arr.toList,hl with
   | a0::l,hl =>
    simp at hl
    subst hl
    exact⟨l,by rw[←hq]⟩
  ·cases hr
 have hinv:Inv ⟨P,E,w,fun b=>b∈fp,fun b=>b<w.heap.size∧b∉fp,R,fun _=>False,fun _=>none⟩ G1 (a1v fn ⟨m.τ,x⟩ k) { tmps := #[v, .int .i64 k]++Array.replicate (fn.ntmps - 2) undef,defers:=[] } w:=by
  unfold Inv
  rw[hlk1]
  exact {
   defers:=i1.defers,size:=i1.size,keep:=i1.keep,xLt:=i1.xLt,sOld:=i1.sOld,sX:=i1.sX,sLt:=i1.sLt
   slots:=fun i=>by
    match i with
    | 0 =>
     have e:(#[v,Value.int .i64 k]++Array.replicate (fn.ntmps - 2) undef).getD 0 undef=v:=by
      rw[Array.getD_eq_getD_getElem?,Array.getElem?_append_left (by simp)];rfl
     show VR _ _ _ _ (a3j 50 ⟨m.τ,x⟩) ((#[v,Value.int .i64 k]++Array.replicate (fn.ntmps - 2) undef).getD 0 undef)
     rw[e]
     exact (t1.reR R).toVR
    | 1 =>
     have e:(#[v,Value.int .i64 k]++Array.replicate (fn.ntmps - 2) undef).getD 1 undef = .int .i64 k:=by
      rw[Array.getD_eq_getD_getElem?,Array.getElem?_append_left (by simp)];rfl
     show VR _ _ _ _ (.imm ⟨.int .i64,k⟩) ((#[v,Value.int .i64 k]++Array.replicate (fn.ntmps - 2) undef).getD 1 undef)
     rw[e]
     exact d0p hk
    | i+2 =>
     have:(a1v fn ⟨m.τ,x⟩ k).sl (i+2) = .any:=by
      simp only[a0c.sl,a1v,List.getD_cons_succ]
      rw[List.getD_eq_getElem?_getD,List.getElem?_replicate]
      split<;>rfl
     rw[this]
     trivial
   objs:=i1.objs,place:=i1.place,apart:=i1.apart
   trees:=⟨i1.trees.tr,i1.trees.nd,i1.trees.pl,i1.trees.ap⟩
   root:=fun id v' hr ht=>(hR id v' hr).2
   rootB:=fun id b hr=>by cases hr
   rngB:=fun id b hr=>by cases hr
   rng:=fun id v' hr=>by
    obtain⟨ht,_⟩:=hR id v' hr
    rw[l1 id] at ht
    unfold lkx at ht
    split at ht
    ·rename_i o ho
     have:=b0f (a5h ho)
     have:=hcells x
     simp only at *
     omega
    ·cases ht }
 refine wp_mono (a5r (c:=⟨P,E,w,fun b=>b∈fp,fun b=>b<w.heap.size∧b∉fp,R,fun _=>False,fun _=>none⟩) hE hmix code (Λ x k) 0 _ _ _ _ w hinv (h x k hpre hk)) ?_
 have fin:∀ (e:Exit) (a:Act) (w':World),(e = .normal∨e = .ret)→(∃ G s,Inv ⟨P,E,w,fun b=>b∈fp,fun b=>b<w.heap.size∧b∉fp,R,fun _=>False,fun _=>none⟩ G s a w'∧a3s fn m x k e s) →
   a.defers=[]∧∃ u,(results fn a.tmps).run P w' = .ok u w'∧Ending.returned u = .returned (.int .i64 (m.g x k).2.2)∧a0e (m.g x k).2.2∧a1p (fun b=>b∈fp) w w'∧∃ fp',OwV w' ⟨m.τ,(m.g x k).2.1⟩ v fp'∧fp'.Nodup∧∀ b∈fp',b∈fp∨(w.heap.size≤b∧b<w'.heap.size):=by
  rintro e a w' he ⟨G,s,hI,hp⟩
  have hp':∃ t n x' ids,fn.results.toList=[.tmp t]∧s.eval (.tmp t) = .imm ⟨.int .i64,n⟩∧b0q s.look m.τ (a3j 50 ⟨m.τ,x⟩)=some (x',ids)∧ids.Nodup∧(∀ id∈ids,a1i (s.look id)=true)∧n=(m.g x k).2.2∧x'=(m.g x k).2.1:=by
   rcases he with rfl|rfl <;>
   ·simp only[a3s] at hp
    split at hp
    ·rename_i t ht
     split at hp
     ·rename_i n x' ids h1 h2
      split at hp
      ·rename_i hb
       simp only[Bool.and_eq_true,List.all_eq_true] at hb
       exact⟨t,n,x',ids,ht,h1,h2,a1y hb.1,hb.2,hp⟩
      ·exact hp.elim
     ·exact hp.elim
    ·exact hp.elim
  obtain⟨t,n,x',ids,r1,r2,r3,r4,r5,rfl,rfl⟩:=hp'
  have hev:=a0p hI (.tmp t)
  rw[r2] at hev
  obtain⟨q1,q2⟩:=e1j hev
  have hroot:∀ j v',a1i (lk1 j)=true→(∃ l,G1.η j = .tuple (v'::l).toArray)→50≤j→a1i (s.look j)=true→∃ l,G.η j = .tuple (v'::l).toArray:=by
   rintro j v' ht ⟨l,hl⟩ _ ht'
   exact hI.root j v' (by simp only[R,ht,hl];rfl) ht'
  have hvr:VR ⟨P,E,w,fun b=>b∈fp,fun b=>b<w.heap.size∧b∉fp,R,fun _=>False,fun _=>none⟩ G s.look w' (a3j 50 ⟨m.τ,x⟩) v:=by
   obtain⟨τm,g⟩:=m
   cases τm with
   | st st =>
    obtain⟨l,hl,hc⟩:=t1
    refine⟨l,hl,?_⟩
    simp only[a3j,b0q] at r3
    split at r3
    case h_2=>cases r3
    case h_1 us i hus =>
    exact d2w hroot (Nat.le_refl _) (c8m st x) hc hus
   | mv t'=>exact trivial
   | slice t' =>
    obtain⟨q1,q2,q3,q4⟩:=t1
    have hT:a1i (s.look 50)=true:=by
     simp only[a3j,a7s,b0q,a2i] at r3
     split at r3
     ·rename_i hl;rw[hl];rfl
     ·cases r3
    obtain⟨l',hl'⟩:=hroot 50 v q1 ⟨q2,q3⟩ (Nat.le_refl _) hT
    exact⟨hT,l',hl',q4⟩
   | ptr=>exact t1
   | int k=>exact t1
   | bool=>exact t1
   | str=>exact t1
  obtain⟨fp',o1,o2,o3⟩:=b0b hI r3 hvr r4
  have hres:(results fn a.tmps).run P w' = .ok (a.tmps.getD t undef) w':=by
   rw[c7c,Array.mapM_eq_mapM_toList,r1]
   simp[b1c]
  refine⟨hI.defers,_,hres,by rw[show a.tmps.getD t undef=_ from q1],q2,hI.keep,fp',o1,o2,fun b hb=>?_⟩
  obtain⟨id,hi,hq⟩:=o3 b hb
  rcases hq with ⟨τ,ys,q1,q2⟩|⟨e',τ,ys,q1,q2⟩
  ·obtain⟨p1,_,p3,_⟩:=hI.trees.pl id τ ys b q1 q2
   exact p1.elim (fun q => .inr ⟨q,p3⟩) .inl
  ·have:=r5 id hi
   rw[q1] at this
   cases this
 intro e a w' hq
 cases e with
 | normal=>exact fin .normal a w' (.inl rfl) hq
 | ret=>exact fin .ret a w' (.inr rfl) hq
 | exit i=>obtain⟨_,_,_,hp⟩:=hq;exact hp.elim
 | goto l=>obtain⟨_,_,_,hp⟩:=hq;exact hp.elim
 | panic ch=>obtain⟨_,_,_,hp⟩:=hq;exact hp.elim
 | outgrown=>obtain⟨_,_,_,hp⟩:=hq;exact hp.elim
end
end Go.Proofs.YtmdefiphdgcijaaDoor

set_option linter.unusedVariables false
set_option linter.unusedSimpArgs false
namespace Go.Proofs.YtmdefiphdgcijaaDoor
section
variable {P:Program} {E:Env}
theorem a8t.congr{w:World}{S:Nat→Prop}{B B':Nat→Nat}{N:Nat}(hB:∀ j,j<N→B j=B' j):∀ {ks:List CK} {ds:List TV} {l:List Value} {fp:List Nat},(∀ j,CK.p j∈ks→j<N)→a8t w S B ks ds l fp→a8t w S B' ks ds l fp:=by
 intro ks
 induction ks with
 | nil=>intro ds l fp _ h;cases ds<;>cases l<;>exact h
 | cons k0 ks ih =>
  intro ds l fp hp h
  cases l with
  | nil=>cases k0<;>cases ds<;>cases h
  | cons x l =>
   cases k0 with
   | d τ =>
    cases ds with
    | nil=>cases h
    | cons v ds=>exact⟨h.1,ih (fun j hj=>hp j (by simp[hj])) h.2⟩
   | o τ =>
    cases ds with
    | nil=>cases h
    | cons v ds =>
     obtain⟨f1,f2,e,h1,h2⟩:=h
     exact⟨f1,f2,e,h1,ih (fun j hj=>hp j (by simp[hj])) h2⟩
   | p j =>
    have h:x = .pointer (some ⟨B j,0,none⟩)∧a8t w S B ks ds l fp:=by cases ds<;>exact h
    have r:=ih (fun j hj=>hp j (by simp[hj])) h.2
    have e:x = .pointer (some ⟨B' j,0,none⟩):=by rw[h.1,hB j (hp j (by simp))]
    cases ds<;>exact⟨e,r⟩
theorem b0c.congr{w:World}{S:Nat→Prop}{B B':Nat→Nat}{N:Nat}(hB:∀ j,j<N→B j=B' j):∀ {sh:List (List CK)} {k:Nat} {dss:List (List TV)} {fa:List Nat},k+sh.length≤N→(∀ ks∈sh,∀ j,CK.p j∈ks→j<N)→b0c w S B k sh dss fa→b0c w S B' k sh dss fa
 | [],k,dss,fa,_,_,h=>by cases dss<;>exact h
 | ks::sh,k,[],fa,_,_,h=>h.elim
 | ks::sh,k,ds::dss,fa,hk,hp,h=>by
  obtain⟨l,t,f1,f2,e,h1,h2,h3⟩:=h
  simp only[List.length_cons] at hk
  exact⟨l,t,f1,f2,e,by rw[←hB k (by omega)];exact h1,h2.congr hB (hp ks (by simp)),b0c.congr hB (by omega) (fun ks' hk'=>hp ks' (by simp[hk'])) h3⟩
theorem b0c.len{w:World}{S:Nat→Prop}{B:Nat→Nat}:∀ {sh:List (List CK)} {k:Nat} {dss:List (List TV)} {fa:List Nat},b0c w S B k sh dss fa→sh.length=dss.length
 | [],_,[],_,_=>rfl
 | [],_,_::_,_,h=>h.elim
 | _::_,_,[],_,h=>h.elim
 | ks::sh,k,ds::dss,fa,h=>by
  obtain⟨l,t,f1,f2,e,h1,h2,h3⟩:=h
  simp[b0c.len h3]
end
end Go.Proofs.YtmdefiphdgcijaaDoor

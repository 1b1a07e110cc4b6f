/- Fun, OwnFun, StFun. -/
import Derived.Test.YtlaoejdeanljgaaVmCode
set_option linter.unusedVariables false
set_option linter.unusedSimpArgs false
namespace Go.Proofs.Ytlaoejdeanljgaa
theorem a0m.replicate{α β:Type}{R:α→β→Prop}{a:α}{b:β}(hab:R a b):∀ n:Nat,a0m R (List.replicate n a) (List.replicate n b)
 | 0=>trivial
 | n+1=>⟨hab,a0m.replicate hab n⟩
theorem a0m.append_replicate{α β:Type}{R:α→β→Prop}{as:List α}{bs:List β}(h:a0m R as bs){a:α}{b:β}(hab:R a b)(n:Nat):a0m R (as++List.replicate n a) (bs++List.replicate n b) :=
 h.append (a0m.replicate hab n)
theorem a0m.getD{α β:Type}{R:α→β→Prop}{d:α}{e:β}(hde:R d e):∀ {as:List α} {bs:List β},a0m R as bs→∀ i:Nat,R (as.getD i d) (bs.getD i e)
 | [],[],_,i=>by simpa using hde
 | a::as,b::bs,h,0=>h.1
 | a::as,b::bs,h,i+1=>by simpa using a0m.getD hde h.2 i
 | [],_::_,h,_=>h.elim
 | _::_,[],h,_=>h.elim
section
variable {P:Program} {E:Env}
def g5t(P:Program)(w:World)(S:Nat→Prop):Arg→Value→Prop
 | .own _,_=>True
 | .box _,_=>True
 | a,x=>c0u P w S a x
theorem f3h{w:World}{S X:Nat→Prop}(hS:SOk w S)(hX:∀ b,X b→b<w.heap.size∧¬ S b){fn:Func}{args:List Arg}{vals:List Value}(ha:a0m (g5t P w S) args vals)(hsol:(∀ b,¬ X b)∨∀ a∈args,a.solid=true) :
  Inv ⟨P,E,w,X,S,fun _=>none,fun _=>False,fun _=>none⟩ ⟨S,fun _=>undef,fun _=>[]⟩ (a0r fn args) { tmps:=vals.toArray++Array.replicate (fn.ntmps - vals.toArray.size) undef,defers:=[] } w:=by
 have hlen:=ha.length
 have hslot:∀ v x,v∈args→g5t P w S v x→VR ⟨P,E,w,X,S,fun _=>none,fun _=>False,fun _=>none⟩ ⟨S,fun _=>undef,fun _=>[]⟩ (a0r fn args).look w (f0u v) x:=by
  intro v x hm h
  cases v with
  | val v=>exact h
  | ref v =>
   obtain⟨b,o,cs,h1,h2,h3,h4⟩:=h
   exact⟨b,o,cs,h1, .inr ⟨h2,hsol.elim (fun q=>⟨q b,fun z=>z⟩) fun q=>absurd (q _ hm) (by simp[Arg.solid])⟩,h3,h4⟩
  | fn f=>exact h
  | clo v =>
   obtain⟨f,caps,l,h1,h2,h3⟩:=h
   refine⟨f,caps,l,h1,h2,h3.imp fun u y _ hy=>?_⟩
   cases u with
   | val v=>exact hy
   | ref v =>
    obtain⟨b,o,cs,k1,k2,k3,k4⟩:=hy
    exact⟨b,o,cs,k1, .inr ⟨k2,hsol.elim (fun q=>⟨q b,fun z=>z⟩) fun q=>absurd (q _ hm) (by simp[Arg.solid])⟩,k3,k4⟩
   | fn f=>exact hy
   | clo v=>exact hy.elim
   | own v=>exact hy.elim
   | box k=>exact hy.elim
  | own v=>trivial
  | box k=>trivial
 exact {
  defers:=rfl
  size:=by simp[a0r,hlen]
  keep:=a1t.refl _ _
  xLt:=⟨fun b h=>(hX b h).1,fun g hg=>⟨(hS.2 g hg).1,fun q=>(hX g q).2 (hS.2 g hg).1,hS.1 g (hS.2 g hg).1,(hS.2 g hg).2⟩⟩
  sOld:=fun b _ _=>Iff.rfl
  sX:=fun b hs=>hs
  sLt:=hS.1
  slots:=fun i=>by
   have h1:a0m (fun v x=>VR ⟨P,E,w,X,S,fun _=>none,fun _=>False,fun _=>none⟩ ⟨S,fun _=>undef,fun _=>[]⟩ (a0r fn args).look w v x) (args.map f0u) vals:=a0m.map_left _ (ha.imp fun v x hm h=>hslot v x hm h)
   have h2:=a0m.getD (d:=AV.any) (e:=undef) (show VR ⟨P,E,w,X,S,fun _=>none,fun _=>False,fun _=>none⟩ ⟨S,fun _=>undef,fun _=>[]⟩ (a0r fn args).look w .any undef from trivial) (h1.append_replicate (a:=AV.any) (b:=undef) (show VR ⟨P,E,w,X,S,fun _=>none,fun _=>False,fun _=>none⟩ ⟨S,fun _=>undef,fun _=>[]⟩ (a0r fn args).look w .any undef from trivial) (fn.ntmps - args.length)) i
   have e1:(a0r fn args).sl i=(args.map f0u++List.replicate (fn.ntmps - args.length) AV.any).getD i AV.any:=rfl
   have e2:(vals.toArray++Array.replicate (fn.ntmps - vals.toArray.size) undef).getD i undef=(vals++List.replicate (fn.ntmps - args.length) undef).getD i undef:=by
    rw[Array.getD_eq_getD_getElem?,List.getD_eq_getElem?_getD,←Array.getElem?_toList]
    simp[hlen]
   rw[e1,e2]
   exact h2
  objs:=fun id o h=>by cases h
  place:=fun id o b h=>by cases h
  apart:=fun id id' o o' b h=>by cases h
  trees:=⟨(fun id τ xs h=>by cases h),(fun id τ xs h=>by cases h),(fun id τ xs b h=>by cases h),(fun id id' τ τ' xs xs' b h=>by cases h)⟩
  root:=fun id v h=>by cases h
  rng:=fun id v h=>by cases h
  rootB:=fun id v h=>by cases h
  rngB:=fun id v h=>by cases h }
theorem g5p{w:World}{S:Nat→Prop}(hS:SOk w S){fn:Func}{args:List Arg}{vals:List Value}(ha:a0m (c0u P w S) args vals) :
  Inv ⟨P,E,w,fun _=>False,S,fun _=>none,fun _=>False,fun _=>none⟩ ⟨S,fun _=>undef,fun _=>[]⟩ (a0r fn args) { tmps:=vals.toArray++Array.replicate (fn.ntmps - vals.toArray.size) undef,defers:=[] } w :=
 f3h hS (fun _ h=>h.elim) (ha.imp fun v x _ h=>by
  cases v with
  | own v=>trivial
  | box k=>exact h.elim
  | _=>exact h) (.inl fun _ h=>h)
def b8o(tmps:Array Value):ResultVar→Sem Value
 | .tmp t=>pure (tmps.getD t undef)
 | .cell a t=>do loadVar t (←asAddr (tmps.getD a undef))
theorem c8p(fn:Func)(tmps:Array Value):results fn tmps=(do
  let vs ←fn.results.mapM (b8o tmps)
  pure (if h:vs.size=1 then vs[0] else .tuple vs)):=by
 unfold results
 congr 1
theorem e6z(hE:a1m P E){c:Ctx}(hcP:c.P=P)(hcE:c.E=E){G:Gh}{s:a0c}{a:Act}{w:World}(h:Inv c G s a w):∀ {rs:List ResultVar} {Ts:List TypeId} {vs:List TV},e4j E s rs Ts=some vs →
  ∃ xs,(rs.mapM (b8o a.tmps)).run P w = .ok xs w∧a0m (RdV w (SX G s.look)) vs xs
 | [],[],vs,hr=>by
  simp only[e4j,Option.some.injEq] at hr
  subst hr
  exact⟨[],by simp,trivial⟩
 | r::rs,T::Ts,vs,hr=>by
  simp only[e4j] at hr
  split at hr
  ·rename_i τ q hT
   split at hr
   ·rename_i x hx
    split at hr
    ·rename_i l hl
     simp only[Option.some.injEq] at hr
     subst hr
     obtain⟨xs,h1,h2⟩:=e6z hE hcP hcE h hl
     cases r with
     | tmp t =>
      refine⟨a.tmps.getD t undef::xs,by simp[List.mapM_cons,b8o,h1],c9g h.trees h.objs (d6h fun _ _ h=>h) hx (a1c h (.tmp t)),h2⟩
     | cell p t =>
      simp only at hx
      split at hx
      ·rename_i hb
       have hb:=Nat.eq_of_beq_eq_true hb
       subst hb
       unfold d1v at hx
       split at hx
       ·rename_i u hu
        obtain⟨b,o,cs,k1,k2,k3,k4⟩:=c0f h.objs (d6h fun _ _ h=>h) hu (a1c h (.tmp p))
        have hrun:=b6e hE hT k2 k3
        have k1':a.tmps.getD p undef = .pointer (some ⟨b,o,none⟩):=k1
        refine⟨mkV τ cs::xs,?_,c9g h.trees h.objs (d6h fun _ _ h=>h) hx k4,h2⟩
        simp only[Instr.loadAt,Instr.sureAddr,Sem.run_bind,Sem.run_pure,Result.andThen_ok] at hrun
        simp only[List.mapM_cons,b8o,k1',asAddr,Sem.run_bind,Sem.run_pure,Result.andThen_ok,hrun,h1]
       ·cases hx
      ·cases hx
    ·cases hr
   ·cases hr
  ·cases hr
 | [],_::_,_,hr=>by cases hr
 | _::_,[],_,hr=>by cases hr
theorem g8k{w:World}{S:Nat→Prop}:∀ {vs:List TV} {xs:List Value},a0m (RdV w S) vs xs→c9f w S vs (if h:xs.toArray.size=1 then xs.toArray[0] else .tuple xs.toArray)
 | [],[],_=>⟨[],by simp,trivial⟩
 | [v],[x],h=>by simpa [c9f] using h.1
 | v::u::r,x::y::z,h=>⟨x::y::z,by simp,h⟩
 | [],_::_,h=>h.elim
 | _::_,[],h=>h.elim
 | [_],_::_::_,h=>h.2.elim
 | _::_::_,[_],h=>h.2.elim
theorem f9z(hE:a1m P E)(hmix:P.follows .mixedOrders=true){f:FuncId}{fn:Func}{code:Code}(hf:P.funcs[f]?=some fn)(hb:fn.body=some code)(Λ:Nat→a0t){args:List Arg}{post:List TV→Prop}
  (h:awp E code Λ 0 (a1h E fn post) (a0r fn args)):a1f P f args post:=by
 intro w S vals hS ha
 refine calls_of_wp hf hb ?_
 have hinv:=g5p (P:=P) (E:=E) (fn:=fn) hS ha
 refine wp_mono (a7t (c:=⟨P,E,w,fun _=>False,S,fun _=>none,fun _=>False,fun _=>none⟩) hE hmix code Λ 0 _ _ _ _ w hinv h) ?_
 have fin:∀ (e:Exit) (a:Act) (w':World),(e = .normal∨e = .ret)→(∃ G s,Inv ⟨P,E,w,fun _=>False,S,fun _=>none,fun _=>False,fun _=>none⟩ G s a w'∧a1h E fn post e s) →
   a.defers=[]∧∃ v,(results fn a.tmps).run P w' = .ok v w'∧∃ x S' res,Ending.returned v = .returned x∧post res∧a1t (fun _=>False) w w'∧(∀ b,b<w.heap.size→(S' b↔S b))∧(∀ b,S' b→b<w'.heap.size)∧c9f w' S' res x:=by
  rintro e a w' he ⟨G,s,hI,hp⟩
  have hp':∃ vs,e4j E s fn.results.toList fn.resultTypes.toList=some vs∧post vs:=by
   rcases he with rfl|rfl <;>
   ·simp only[a1h] at hp
    split at hp
    ·rename_i vs hvs
     exact⟨vs,hvs,hp⟩
    ·exact hp.elim
  obtain⟨vs,hvs,hpost⟩:=hp'
  obtain⟨xs,h1,h2⟩:=e6z hE (c:=⟨P,E,w,fun _=>False,S,fun _=>none,fun _=>False,fun _=>none⟩) rfl rfl hI hvs
  refine⟨hI.defers,(if h:xs.toArray.size=1 then xs.toArray[0] else .tuple xs.toArray),?_,_,SX G s.look,vs,rfl,hpost,hI.keep,fun b hb=>?_,fun b hb=>?_,g8k h2⟩
  ·rw[c8p,Array.mapM_eq_mapM_toList]
   simp only[Sem.run_bind,Sem.run_map,h1]
   rfl
  ·constructor
   ·rintro (hs|⟨id,e',τ,ys,hid,hbb⟩|⟨id,τ,ys,hid,hbb⟩)
    ·exact (hI.sOld b hb (fun q=>q)).1 hs
    ·rcases (hI.place id _ b hid hbb).1 with hge|hx
     ·have:w.heap.size≤b:=hge
      omega
     ·exact hx.elim
    ·rcases (hI.trees.pl id _ _ b hid hbb).1 with hge|hx
     ·have:w.heap.size≤b:=hge
      omega
     ·exact hx.elim
   ·exact fun hs => .inl ((hI.sOld b hb (fun q=>q)).2 hs)
  ·rcases hb with hs|⟨id,e',τ,ys,hid,hbb⟩|⟨id,τ,ys,hid,hbb⟩
   ·exact hI.sLt b hs
   ·exact (hI.place id _ b hid hbb).2.2
   ·exact (hI.trees.pl id _ _ b hid hbb).2.2.1
 intro e a w' hq
 cases e with
 | normal=>exact fin .normal a w' (.inl rfl) hq
 | ret=>exact fin .ret a w' (.inr rfl) hq
 | exit i=>obtain⟨_,_,_,hp⟩:=hq;exact hp.elim
 | goto l=>obtain⟨_,_,_,hp⟩:=hq;exact hp.elim
 | panic ch=>obtain⟨_,_,_,hp⟩:=hq;exact hp.elim
 | outgrown=>obtain⟨_,_,_,hp⟩:=hq;exact hp.elim
end
end Go.Proofs.Ytlaoejdeanljgaa

set_option linter.unusedVariables false
set_option linter.unusedSimpArgs false
namespace Go.Proofs.Ytlaoejdeanljgaa
def c2m(E:Env)(s:a0c):List ResultVar→List TypeId→Option (List TV×List Nat)
 | [],[]=>some ([],[])
 | r::rs,T::Ts=>match a0k E.ty T with
  | some (τ,_)=>match (match r with
    | .tmp t=>d8i s.look τ (s.eval (.tmp t))
    | .cell p t=>match Nat.beq t T with
     | true=>match c0e s.look τ (s.eval (.tmp p)) with
      | some u=>d8i s.look τ u
      | none=>none
     | false=>none) with
   | some (x,i)=>match c2m E s rs Ts with
    | some (l,j)=>some (⟨τ,x⟩::l,i++j)
    | none=>none
   | none=>none
  | none=>none
 | _,_=>none
def a5b(E:Env)(fn:Func)(post:List TV→Prop)(e:Exit)(s:a0c):Prop :=
 match e with
 | .ret | .normal=>match c2m E s fn.results.toList fn.resultTypes.toList with
  | some (vs,ids)=>match a6b ids with
   | true=>post vs
   | false=>False
  | none=>False
 | _=>False
section
variable {P:Program} {E:Env}
theorem d4a{c:Ctx}(hE:a1m c.P c.E)(hcP:c.P=P)(hcE:c.E=E){G:Gh}{s:a0c}{a:Act}{w:World}(h:Inv c G s a w):∀ {rs:List ResultVar} {Ts:List TypeId} {vs:List TV} {ids:List Nat},c2m E s rs Ts=some (vs,ids)→ids.Nodup →
  ∃ xs fp,(rs.mapM (b8o a.tmps)).run P w = .ok xs w∧d6w w vs xs fp∧fp.Nodup∧∀ b∈fp,InF G s.look ids b
 | [],[],vs,ids,hr,_=>by
  simp only[c2m,Option.some.injEq,Prod.mk.injEq] at hr
  obtain⟨rfl,rfl⟩:=hr
  exact⟨[],[],by simp,rfl,List.nodup_nil,by simp⟩
 | r::rs,T::Ts,vs,ids,hr,hnd=>by
  simp only[c2m] at hr
  split at hr
  case h_2=>cases hr
  case h_1 τ q hT =>
  split at hr
  case h_2=>cases hr
  case h_1 x i hx =>
  split at hr
  case h_2=>cases hr
  case h_1 l j hl =>
  simp only[Option.some.injEq,Prod.mk.injEq] at hr
  obtain⟨rfl,rfl⟩:=hr
  rw[List.nodup_append] at hnd
  obtain⟨n1,n2,n3⟩:=hnd
  obtain⟨xs,fp,h1,h2,h3,h4⟩:=d4a hE hcP hcE h hl n2
  cases r with
  | cell p t =>
   simp only at hx
   split at hx
   case h_2=>cases hx
   case h_1 hb =>
   have hb:=Nat.eq_of_beq_eq_true hb
   subst hb
   split at hx
   case h_2=>cases hx
   case h_1 u hu =>
   obtain⟨b,o,cs,q1,q2,q3,q4⟩:=c0f h.objs (fun _ _ h=>h) hu (a1c h (.tmp p))
   subst hcP hcE
   have hrun:=b6e hE hT q2 q3
   have q1':a.tmps.getD p undef = .pointer (some ⟨b,o,none⟩):=q1
   obtain⟨f1,k1,k2,k3⟩:=c3m h hx q4 n1
   refine⟨mkV τ cs::xs,f1++fp,?_,⟨f1,fp,rfl,k1,h2⟩,a4h k2 h3 fun b hb hb'=>h.inf_apart (k3 b hb) (h4 b hb') (fun x hx y hy=>n3 x hx y hy),fun b hb=>?_⟩
   ·simp only[Instr.loadAt,Instr.sureAddr,Sem.run_bind,Sem.run_pure,Result.andThen_ok] at hrun
    simp only[List.mapM_cons,b8o,q1',asAddr,Sem.run_bind,Sem.run_pure,Result.andThen_ok,hrun,h1]
   ·rcases List.mem_append.1 hb with hb|hb
    ·exact (k3 b hb).mono fun k hk=>by simp[hk]
    ·exact (h4 b hb).mono fun k hk=>by simp[hk]
  | tmp t =>
   obtain⟨f1,k1,k2,k3⟩:=c3m h hx (a1c h (.tmp t)) n1
   refine⟨a.tmps.getD t undef::xs,f1++fp,by simp[List.mapM_cons,b8o,h1],⟨f1,fp,rfl,k1,h2⟩,a4h k2 h3 fun b hb hb'=>h.inf_apart (k3 b hb) (h4 b hb') (fun x hx y hy=>n3 x hx y hy),fun b hb=>?_⟩
   rcases List.mem_append.1 hb with hb|hb
   ·exact (k3 b hb).mono fun k hk=>by simp[hk]
   ·exact (h4 b hb).mono fun k hk=>by simp[hk]
 | [],_::_,_,_,hr,_=>by cases hr
 | _::_,[],_,_,hr,_=>by cases hr
theorem g0l{w:World}:∀ {vs:List TV} {xs:List Value} {fp:List Nat},d6w w vs xs fp→d6v w vs (if h:xs.toArray.size=1 then xs.toArray[0] else .tuple xs.toArray) fp
 | [],[],fp,h=>⟨[],by simp,h⟩
 | [v],[x],fp,h=>by
  obtain⟨f1,f2,rfl,h1,h2⟩:=h
  have h2:f2=[]:=h2
  subst h2
  simpa [d6v] using h1
 | v::u::r,x::y::z,fp,h=>⟨x::y::z,by simp,h⟩
 | [],_::_,_,h=>h.elim
 | _::_,[],_,h=>h.elim
 | [_],_::_::_,_,h=>by obtain⟨_,_,_,_,h⟩:=h;exact h.elim
 | _::_::_,[_],_,h=>by obtain⟨_,_,_,_,h⟩:=h;exact h.elim
theorem b6r:∀ {us:List TV} {id:Nat} {p:Nat×a0f},p∈a2c id us→id≤p.1∧p.1<id+us.length
 | [],id,p,h=>by cases h
 | u::us,id,p,h=>by
  rcases List.mem_append.1 h with h|h
  ·have:=f2a h;simp only[List.length_cons];omega
  ·have:=b6r h;simp only[List.length_cons];omega
theorem c7f:∀ {us:List TV} {id:Nat},((a2c id us).map (·.1)).Nodup
 | [],id=>List.nodup_nil
 | u::us,id=>by
  simp only[a2c,List.map_append]
  refine a4h ?_ c7f fun x hx hx'=>?_
  ·obtain⟨τ,y⟩:=u
   cases τ<;>simp[a5m]
  ·obtain⟨p,hp,rfl⟩:=List.mem_map.1 hx
   obtain⟨q,hq,e⟩:=List.mem_map.1 hx'
   have h1:=f2a hp
   have h2:=b6r hq
   omega
theorem g6d(v:TV):v.cells.length≤100:=by
 obtain⟨τ,y⟩:=v
 cases τ with
 | st s =>
  show (s.cells y).length≤100
  rw[a0o.cells_length]
  exact Ty.size_le (.st s)
 | _=>exact Nat.succ_le_of_lt (Nat.zero_lt_of_lt (by decide:0<100))
theorem d1e{c:Ctx}{a:Act}{w:World}{S:Nat→Prop}(hR:∀ j,c.R j=none):∀ {as:List Arg} {xs:List Value} {fp:List Nat} {p:Nat} {G:Gh} {s:a0c},Inv c G s a w→c0l P w S as xs fp→fp.Nodup→Fr c G s.look w fp →
  (∀ i x,xs[i]?=some x→a.tmps.getD (p+i) undef=x)→p+as.length≤s.slots.length→(∀ id o,s.look id=some o→id<1000000+100 * p)→∃ G',Inv c G' (c1g p as s) a w
 | [],xs,fp,p,G,s,h,_,_,_,_,_,_=>⟨G,h⟩
 | b::as,[],fp,p,G,s,h,hA,_,_,_,_,_=>hA.elim
 | b::as,x::xs,fp,p,G,s,h,hA,hnd,hF,hx,hlen,hid=>by
  obtain⟨f1,f2,rfl,hb,hA⟩:=hA
  rw[List.nodup_append] at hnd
  obtain⟨n1,n2,n3⟩:=hnd
  simp only[List.length_cons] at hlen
  have hx':∀ i y,xs[i]?=some y→a.tmps.getD (p+1+i) undef=y:=fun i y hi=>by
   have:=hx (i+1) y (by simpa using hi)
   rwa [show p+(i+1)=p+1+i by omega] at this
  have other:f1=[]→c1g p (b::as) s=c1g (p+1) as s→∃ G',Inv c G' (c1g p (b::as) s) a w:=fun hf e=>by
   subst hf
   rw[e]
   exact d1e hR h hA n2 (fun q hq=>hF q (by simp[hq])) hx' (by omega) fun id o ho=>by have:=hid id o ho;omega
  cases b with
  | own v =>
   have hO:OwV w v x f1:=hb
   obtain⟨G1,lk1,l1,i1,e1,t1,fr1⟩:=a0v.addVal (id:=1000000+100 * p) h hO n1 (fun q hq=>hF q (by simp[hq]))
    (fun q hq=>by
     cases hq2:s.look q.1 with
     | none=>rfl
     | some o=>have h1:=hid _ o hq2;have h2:=b6r hq;omega) c7f (fun j _=>hR j)
   have hlk:a0c.look { slots:=s.slots.set p (a9a (1000000+100 * p) v),objs:=a2c (1000000+100 * p) v.cells++s.objs }=lk1:=by
    funext i
    rw[l1 i]
    exact b8f _ _ i
   have hI:Inv c G1 { slots:=s.slots.set p (a9a (1000000+100 * p) v),objs:=a2c (1000000+100 * p) v.cells++s.objs } a w:=by
    unfold Inv
    rw[hlk,show a0c.sl { slots:=s.slots.set p (a9a (1000000+100 * p) v),objs:=a2c (1000000+100 * p) v.cells++s.objs }=a8a s.slots.length s.sl (some p) (a9a (1000000+100 * p) v) from b8p s.slots p _ _,
     show ({ slots:=s.slots.set p (a9a (1000000+100 * p) v),objs:=a2c (1000000+100 * p) v.cells++s.objs }:a0c).slots.length=s.slots.length from by simp]
    exact { i1 with
     slots:=fun i=>by
      unfold a8a
      split
      ·rename_i hi
       obtain⟨e,_⟩:=hi
       simp only[Option.some.injEq] at e
       subst e
       rw[show a.tmps.getD p undef=x from hx 0 x rfl]
       exact t1.toVR
      ·exact i1.slots i }
   obtain⟨G2,h2⟩:=d1e hR hI hA n2 (by
    rw[hlk]
    exact fr1 f2 (fun q hq=>hF q (by simp[hq])) fun q hq hq'=>n3 q hq' q hq rfl) hx' (by simp;omega) (fun id o ho=>by
     rw[hlk,l1 id] at ho
     unfold lkx at ho
     split at ho
     ·rename_i o' ho'
      have h1:=b6r (a6m ho')
      have h2:=g6d v
      simp only at h1
      omega
     ·have:=hid id o ho;omega)
   exact⟨G2,h2⟩
  | val v=>exact other hb.1 rfl
  | ref v=>exact other hb.1 rfl
  | fn v=>exact other hb.1 rfl
  | clo v=>exact other hb.1 rfl
  | box k=>exact other hb.1 rfl
theorem c0l.all2{w:World}{S:Nat→Prop}:∀ {as:List Arg} {xs:List Value} {fp:List Nat},c0l P w S as xs fp→a0m (g5t P w S) as xs
 | [],[],_,_=>trivial
 | a::as,x::xs,_,h=>by
  obtain⟨f1,f2,_,h1,h2⟩:=h
  refine⟨?_,c0l.all2 h2⟩
  cases a with
  | own v=>trivial
  | box k=>exact h1.2.elim
  | _=>exact h1.2
 | [],_::_,_,h=>h.elim
 | _::_,[],_,h=>h.elim
theorem g3q{w:World}{S:Nat→Prop}(hS:SOk w S){fn:Func}{args:List Arg}{vals:List Value}{fa:List Nat}(ha:c0l P w S args vals fa)(hsol:fa=[]∨∀ a∈args,a.solid=true)(hnd:fa.Nodup)(hfa:∀ b∈fa,b<w.heap.size∧¬ S b) :
  ∃ G,Inv ⟨P,E,w,fun b=>b∈fa,S,fun _=>none,fun _=>False,fun _=>none⟩ G (a7h fn args) { tmps:=vals.toArray++Array.replicate (fn.ntmps - vals.toArray.size) undef,defers:=[] } w:=by
 have h0:=f3h (P:=P) (E:=E) (fn:=fn) hS (X:=fun b=>b∈fa) hfa ha.all2 (hsol.imp_left fun e b hb=>by rw[e] at hb;cases hb)
 have hlen:=ha.all2.length
 refine d1e (S:=S) (fun _=>rfl) h0 ha hnd (fun b hb=>⟨.inr hb,(hfa b hb).2,(hfa b hb).1,fun i o h=>(by cases h),fun j τ xs h=>by cases h⟩) (fun i x hi=>?_) (by simp[a0r]<;>omega) (fun id o h=>by cases h)
 rw[Nat.zero_add,Array.getD_eq_getD_getElem?,Array.getElem?_append_left (by simpa using (List.getElem?_eq_some_iff.1 hi).1)]
 simp[hi]
theorem f9y(hE:a1m P E)(hmix:P.follows .mixedOrders=true){f:FuncId}{fn:Func}{code:Code}(hf:P.funcs[f]?=some fn)(hb:fn.body=some code)(Λ:Nat→a0t){args:List Arg}{res:List TV}{post:List TV→Prop}(hpost:∀ vs,post vs→vs=res)
  (h:awp E code Λ 0 (a5b E fn post) (a7h fn args)):a6f P f args res:=by
 intro w S vals fa hS ha hsol hfn hfa
 refine calls_of_wp hf hb ?_
 obtain⟨G0,hinv⟩:=g3q (P:=P) (E:=E) (fn:=fn) hS ha hsol hfn hfa
 refine wp_mono (a7t (c:=⟨P,E,w,fun b=>b∈fa,S,fun _=>none,fun _=>False,fun _=>none⟩) hE hmix code Λ 0 _ _ _ _ w hinv h) ?_
 have fin:∀ (e:Exit) (a:Act) (w':World),(e = .normal∨e = .ret)→(∃ G s,Inv ⟨P,E,w,fun b=>b∈fa,S,fun _=>none,fun _=>False,fun _=>none⟩ G s a w'∧a5b E fn post e s) →
   a.defers=[]∧∃ v,(results fn a.tmps).run P w' = .ok v w'∧∃ x fp,Ending.returned v = .returned x∧a1t (fun b=>b∈fa) w w'∧d6v w' res x fp∧fp.Nodup∧∀ b∈fp,b∈fa∨(w.heap.size≤b∧b<w'.heap.size):=by
  rintro e a w' he ⟨G,s,hI,hp⟩
  have hp':∃ vs ids,c2m E s fn.results.toList fn.resultTypes.toList=some (vs,ids)∧ids.Nodup∧vs=res:=by
   rcases he with rfl|rfl <;>
   ·simp only[a5b] at hp
    split at hp
    ·rename_i vs ids hvs
     split at hp
     ·rename_i hn
      exact⟨vs,ids,hvs,a3s hn,hpost vs hp⟩
     ·exact hp.elim
    ·exact hp.elim
  obtain⟨vs,ids,hvs,hn,rfl⟩:=hp'
  obtain⟨xs,fp,h1,h2,h3,h4⟩:=d4a (P:=P) (E:=E) (c:=⟨P,E,w,fun b=>b∈fa,S,fun _=>none,fun _=>False,fun _=>none⟩) hE rfl rfl hI hvs hn
  refine⟨hI.defers,(if h:xs.toArray.size=1 then xs.toArray[0] else .tuple xs.toArray),?_,_,fp,rfl,hI.keep,g0l h2,h3,fun b hb=>?_⟩
  ·rw[c8p,Array.mapM_eq_mapM_toList]
   simp only[Sem.run_bind,Sem.run_map,h1]
   rfl
  ·obtain⟨id,hi,hq⟩:=h4 b hb
   rcases hq with ⟨τ,ys,q1,q2⟩|⟨e',τ,ys,q1,q2⟩
   ·obtain⟨p1,_,p3,_⟩:=hI.trees.pl id τ ys b q1 q2
    exact p1.elim (fun q => .inr ⟨q,p3⟩) .inl
   ·obtain⟨p1,_,p3⟩:=hI.place id _ b q1 q2
    exact p1.elim (fun q => .inr ⟨q,p3⟩) .inl
 intro e a w' hq
 cases e with
 | normal=>exact fin .normal a w' (.inl rfl) hq
 | ret=>exact fin .ret a w' (.inr rfl) hq
 | exit i=>obtain⟨_,_,_,hp⟩:=hq;exact hp.elim
 | goto l=>obtain⟨_,_,_,hp⟩:=hq;exact hp.elim
 | panic ch=>obtain⟨_,_,_,hp⟩:=hq;exact hp.elim
 | outgrown=>obtain⟨_,_,_,hp⟩:=hq;exact hp.elim
end
end Go.Proofs.Ytlaoejdeanljgaa

set_option linter.unusedVariables false
set_option linter.unusedSimpArgs false
namespace Go.Proofs.Ytlaoejdeanljgaa
def b4s:List CK→List TV→Nat→List AV
 | .d _::ks,v::ds,n => .imm v::b4s ks ds n
 | .o _::ks,v::ds,n=>b2g n v::b4s ks ds (n+1)
 | .p j::ks,ds,n => .ptr (400000+j) 0::b4s ks ds n
 | _,_,_=>[]
def b4r:Nat→List (List CK)→List (List TV)→Nat→List (Nat×a0f)
 | k,ks::sh,ds::dss,n=>(400000+k, .box (b4s ks ds n))::b4r (k+1) sh dss (n+(a3t ks ds).length)
 | _,_,_,_=>[]
def b0n:List (List CK)→List (List TV)→List TV
 | ks::sh,ds::dss=>a3t ks ds++b0n sh dss
 | _,_=>[]
def f8r:Arg→AV
 | .box k => .ptr (400000+k) 0
 | a=>f0u a
def a2x(fn:Func)(args:List Arg)(sh:List (List CK))(dss:List (List TV)):a0c :=
 { slots:=args.map f8r++List.replicate (fn.ntmps - args.length) .any,objs:=b4r 0 sh dss 1000000++a2c 1000000 (b0n sh dss) }
def idM(n:Nat):List (Nat×Nat):=(List.range n).map fun k=>(k,400000+k)
def a9b(E:Env)(fn:Func)(sh:List (List CK))(post:List TV→List (List TV)→Prop)(e:Exit)(s:a0c):Prop :=
 match e with
 | .ret | .normal=>match c2m E s fn.results.toList fn.resultTypes.toList with
  | some (vs,ids)=>match a9r s.look sh 0 (idM sh.length) with
   | some (dss,ids',m)=>match a6b (ids++ids')&&Nat.beq m.length sh.length with
    | true=>post vs dss
    | false=>False
   | none=>False
  | none=>False
 | _=>False
theorem g6x:∀ (n:Nat) (k:Nat),a0k (idM n) k=if k<n then some (400000+k) else none:=by
 intro n k
 have key:∀ (l:List Nat),l.Nodup→a0k (l.map fun k=>(k,400000+k)) k=if k∈l then some (400000+k) else none:=by
  intro l
  induction l with
  | nil=>intro _;rfl
  | cons j l ih =>
   intro hn
   simp only[List.nodup_cons] at hn
   rw[List.map_cons,b9e,ih hn.2]
   by_cases hk:k=j
   ·subst hk;simp
   ·simp[hk]
 rw[idM,key _ List.nodup_range]
 simp
section
variable {P:Program} {E:Env}
theorem f9m{w:World}{S:Nat→Prop}{B:Nat→Nat}:∀ {sh:List (List CK)} {k:Nat} {dss:List (List TV)} {n:Nat} {fa:List Nat},a8w w S B k sh dss fa →
  ∃ xs,a3a w ((b0n sh dss).map TV.toD) xs fa∧(∀ u∈b0n sh dss,u.τ.agg=false) ∧
   ∀ p∈b4r k sh dss n,∃ j cs l t,p=(400000+j, .box cs)∧k≤j∧j<k+sh.length∧w.heap[B j]?=some (.cells l.toArray t (0,0))∧l.length=cs.length ∧
    ∀ (c:Ctx) (G:Gh) (lk:Nat→Option a0f) (N:Nat),(∀ b,S b→G.S b)→(∀ j,j<N→G.η (400000+j) = .pointer (some ⟨B j,0,none⟩)∧a5n (lk (400000+j))=true)→(∀ ks∈sh,∀ j,CK.p j∈ks→j<N) →
     a0m (C1 c G lk w) (a2l n (b0n sh dss)) xs→a0m (C1 c G lk w) cs l
 | [],k,[],n,fa,h=>⟨[],⟨rfl,h⟩,by simp[b0n],by simp[b4r]⟩
 | ks::sh,k,ds::dss,n,fa,h=>by
  obtain⟨l,t,f1,f2,rfl,hw,hB,hbs⟩:=h
  obtain⟨xs,q1,q2,q3⟩:=f9m (n:=n+(a3t ks ds).length) hbs
  obtain⟨o1,o2,o3⟩:=hB.owns
  have hlen:∀ (us:List TV) (n:Nat),(a2l n us).length=us.length:=fun us=>by
   induction us with
   | nil=>intro n;rfl
   | cons u us ih=>intro n;simp[a2l,ih]
  have hcl:∀ {ks:List CK} {ds:List TV} {l:List Value} {fp:List Nat} {n:Nat},a9d w S B ks ds l fp→l.length=(b4s ks ds n).length:=by
   intro ks
   induction ks with
   | nil=>intro ds l fp n h;cases ds<;>cases l<;>first|rfl|cases h
   | cons k0 ks ih =>
    intro ds l fp n h
    cases l with
    | nil=>cases k0<;>cases ds<;>cases h
    | cons x l =>
     cases k0 with
     | d τ =>
      cases ds with
      | nil=>cases h
      | cons v ds=>simp[b4s,ih h.2 (n:=n)]
     | o τ =>
      cases ds with
      | nil=>cases h
      | cons v ds=>obtain⟨_,_,_,_,h2⟩:=h;simp[b4s,ih h2 (n:=n+1)]
     | p j =>
      have h:x = .pointer (some ⟨B j,0,none⟩)∧a9d w S B ks ds l fp:=by cases ds<;>exact h
      simp[b4s,ih h.2 (n:=n)]
  have hc1:∀ (c:Ctx) (G:Gh) (lk:Nat→Option a0f) (N:Nat),(∀ b,S b→G.S b)→(∀ j,j<N→G.η (400000+j) = .pointer (some ⟨B j,0,none⟩)∧a5n (lk (400000+j))=true) →
    ∀ {ks:List CK} {ds:List TV} {l:List Value} {fp:List Nat} {n:Nat},a9d w S B ks ds l fp→(∀ j,CK.p j∈ks→j<N)→a0m (C1 c G lk w) (a2l n (a3t ks ds)) (b1e ks l)→a0m (C1 c G lk w) (b4s ks ds n) l:=by
   intro c G lk N hS hN ks
   induction ks with
   | nil=>intro ds l fp n h _ _;cases ds<;>cases l<;>first|exact trivial|cases h
   | cons k0 ks ih =>
    intro ds l fp n h hp hc
    cases l with
    | nil=>cases k0<;>cases ds<;>cases h
    | cons x l =>
     cases k0 with
     | d τ =>
      cases ds with
      | nil=>cases h
      | cons v ds =>
       obtain⟨⟨e,h1,h2⟩,h3⟩:=h
       exact⟨⟨by rw[e];exact h1,Rd.keep hS (fun _ _=>rfl) _ h2⟩,ih h3 (fun j hj=>hp j (by simp[hj])) hc⟩
     | o τ =>
      cases ds with
      | nil=>cases h
      | cons v ds =>
       obtain⟨_,_,_,_,h2⟩:=h
       exact⟨hc.1,ih h2 (fun j hj=>hp j (by simp[hj])) hc.2⟩
     | p j =>
      have h:x = .pointer (some ⟨B j,0,none⟩)∧a9d w S B ks ds l fp:=by cases ds<;>exact h
      have hc:a0m (C1 c G lk w) (a2l n (a3t ks ds)) (b1e ks l):=by cases ds<;>exact hc
      obtain⟨g1,g2⟩:=hN j (hp j (by simp))
      have r:=ih h.2 (fun j hj=>hp j (by simp[hj])) hc
      show a0m _ (AV.ptr (400000+j) 0::b4s ks ds n) (x::l)
      exact⟨⟨B j,g1,h.1,g2⟩,r⟩
  refine⟨b1e ks l++xs,by rw[b0n,List.map_append];exact o1.append q1,fun u hu=>(List.mem_append.1 hu).elim (o2 u) (q2 u),fun p hp=>?_⟩
  have hsplit:∀ {c:Ctx} {G':Gh} {lk':Nat→Option a0f},a0m (C1 c G' lk' w) (a2l n (b0n (ks::sh) (ds::dss))) (b1e ks l++xs)→a0m (C1 c G' lk' w) (a2l n (a3t ks ds)) (b1e ks l)∧a0m (C1 c G' lk' w) (a2l (n+(a3t ks ds).length) (b0n sh dss)) xs:=fun {c G' lk'} q=>by
   rw[b0n,c3h] at q
   have hl:(a2l n (a3t ks ds)).length=(b1e ks l).length:=by rw[←o3];exact hlen _ _
   have h1:=q.take (a2l n (a3t ks ds)).length
   have h2:=q.drop (a2l n (a3t ks ds)).length
   rw[List.take_left,hl,List.take_left] at h1
   rw[List.drop_left,hl,List.drop_left] at h2
   exact⟨h1,h2⟩
  rcases List.mem_cons.1 hp with rfl|hp
  ·exact⟨k,b4s ks ds n,l,t,rfl,Nat.le_refl _,by simp,hw,hcl hB,fun c G lk N h1 h2 h3 h4=>hc1 c G lk N h1 h2 hB (h3 ks (by simp)) (hsplit h4).1⟩
  ·obtain⟨j,cs,l',t',g1,g2,g3,g4,g5,g6⟩:=q3 p hp
   exact⟨j,cs,l',t',g1,by omega,by simp;omega,g4,g5,fun c G lk N h1 h2 h3 h4=>g6 c G lk N h1 h2 (fun ks' hk=>h3 ks' (by simp[hk])) (hsplit h4).2⟩
 | [],_,_::_,_,_,h=>h.elim
 | _::_,_,[],_,_,h=>h.elim
def f5q(sh:List (List CK)):Bool:=Nat.blt sh.length 1000&&sh.all fun ks=>ks.all fun c=>match c with
 | .p j=>Nat.blt j sh.length
 | _=>true
theorem f7r{sh:List (List CK)}(h:f5q sh=true):∀ ks∈sh,∀ j,CK.p j∈ks→j<sh.length:=fun ks hk j hj=>by
 unfold f5q at h
 rw[Bool.and_eq_true] at h
 obtain⟨_,h⟩:=h
 rw[List.all_eq_true] at h
 have h2:=h ks hk
 rw[List.all_eq_true] at h2
 exact Nat.le_of_ble_eq_true (h2 _ hj)
theorem a9d.congr{w:World}{S:Nat→Prop}{B B':Nat→Nat}{N:Nat}(hB:∀ j,j<N→B j=B' j):∀ {ks:List CK} {ds:List TV} {l:List Value} {fp:List Nat},(∀ j,CK.p j∈ks→j<N)→a9d w S B ks ds l fp→a9d w S B' ks ds l fp:=by
 intro ks
 induction ks with
 | nil=>intro ds l fp _ h;cases ds<;>cases l<;>exact h
 | cons k0 ks ih =>
  intro ds l fp hp h
  cases l with
  | nil=>cases k0<;>cases ds<;>cases h
  | cons x l =>
   cases k0 with
   | d τ =>
    cases ds with
    | nil=>cases h
    | cons v ds=>exact⟨h.1,ih (fun j hj=>hp j (by simp[hj])) h.2⟩
   | o τ =>
    cases ds with
    | nil=>cases h
    | cons v ds =>
     obtain⟨f1,f2,e,h1,h2⟩:=h
     exact⟨f1,f2,e,h1,ih (fun j hj=>hp j (by simp[hj])) h2⟩
   | p j =>
    have h:x = .pointer (some ⟨B j,0,none⟩)∧a9d w S B ks ds l fp:=by cases ds<;>exact h
    have r:=ih (fun j hj=>hp j (by simp[hj])) h.2
    have e:x = .pointer (some ⟨B' j,0,none⟩):=by rw[h.1,hB j (hp j (by simp))]
    cases ds<;>exact⟨e,r⟩
theorem a8w.congr{w:World}{S:Nat→Prop}{B B':Nat→Nat}{N:Nat}(hB:∀ j,j<N→B j=B' j):∀ {sh:List (List CK)} {k:Nat} {dss:List (List TV)} {fa:List Nat},k+sh.length≤N→(∀ ks∈sh,∀ j,CK.p j∈ks→j<N)→a8w w S B k sh dss fa→a8w w S B' k sh dss fa
 | [],k,dss,fa,_,_,h=>by cases dss<;>exact h
 | ks::sh,k,[],fa,_,_,h=>h.elim
 | ks::sh,k,ds::dss,fa,hk,hp,h=>by
  obtain⟨l,t,f1,f2,e,h1,h2,h3⟩:=h
  simp only[List.length_cons] at hk
  exact⟨l,t,f1,f2,e,by rw[←hB k (by omega)];exact h1,h2.congr hB (hp ks (by simp)),a8w.congr hB (by omega) (fun ks' hk'=>hp ks' (by simp[hk'])) h3⟩
theorem e2p:∀ {sh:List (List CK)} {k:Nat} {dss:List (List TV)} {n:Nat} {j:Nat},sh.length=dss.length→k≤j→j<k+sh.length→∃ cs,a0k (b4r k sh dss n) (400000+j)=some (.box cs)
 | [],k,dss,n,j,_,h1,h2=>by simp at h2;omega
 | ks::sh,k,[],n,j,hl,_,_=>by simp at hl
 | ks::sh,k,ds::dss,n,j,hl,h1,h2=>by
  rw[b4r,b9e]
  by_cases hj:j=k
  ·subst hj;exact⟨_,if_pos rfl⟩
  ·rw[if_neg (by omega)]
   exact e2p (by simpa using hl) (by omega) (by simp at h2;omega)
theorem a8w.len{w:World}{S:Nat→Prop}{B:Nat→Nat}:∀ {sh:List (List CK)} {k:Nat} {dss:List (List TV)} {fa:List Nat},a8w w S B k sh dss fa→sh.length=dss.length
 | [],_,[],_,_=>rfl
 | [],_,_::_,_,h=>h.elim
 | _::_,_,[],_,h=>h.elim
 | ks::sh,k,ds::dss,fa,h=>by
  obtain⟨l,t,f1,f2,e,h1,h2,h3⟩:=h
  simp[a8w.len h3]
theorem g1k{w:World}{S:Nat→Prop}{B:Nat→Nat}{fn:Func}{args:List Arg}{vals:List Value}{sh:List (List CK)}{dss:List (List TV)}{fa:List Nat}(hsh:f5q sh=true)(hS:SOk w S)(hBR:a8w w S B 0 sh dss fa)(hfan:fa.Nodup)
  (hfa:∀ b∈fa,b<w.heap.size∧¬ S b∧∀ k,k<sh.length→B k≠b) (hB:∀ k,k<sh.length→B k<w.heap.size∧¬ S (B k)) (hinj:∀ j k,j<sh.length→k<sh.length→B j=B k→j=k) (ha:a0m (f8y w S (BX sh.length B fa) B) args vals)
  (hbx:∀ k,Arg.box k∈args→k<sh.length) :
  ∃ G,Inv ⟨P,E,w,BX sh.length B fa,S,fun _=>none,fun _=>False,fun id=>if 400000≤id∧id<400000+sh.length then some (B (id - 400000)) else none⟩ G (a2x fn args sh dss) { tmps:=vals.toArray++Array.replicate (fn.ntmps - vals.toArray.size) undef,defers:=[] } w:=by
 have hlen:=ha.length
 let c1:Ctx:=⟨P,E,w,fun b=>b∈fa,S,fun _=>none,fun _=>False,fun _=>none⟩
 have h0:a0v c1 ⟨S,fun _=>undef,fun _=>[]⟩ (fun _ => .any) (a2x fn args sh dss).slots.length (fun _=>none) { tmps:=vals.toArray++Array.replicate (fn.ntmps - vals.toArray.size) undef,defers:=[] } w:={
  defers:=rfl
  size:=by simp[a2x,hlen]
  keep:=a1t.refl _ _
  xLt:=⟨fun b h=>(hfa b h).1,fun g hg=>⟨(hS.2 g hg).1,fun q=>(hfa g q).2.1 (hS.2 g hg).1,hS.1 g (hS.2 g hg).1,(hS.2 g hg).2⟩⟩
  sOld:=fun b _ _=>Iff.rfl
  sX:=fun b hs=>hs
  sLt:=hS.1
  slots:=fun i=>trivial
  objs:=fun id o h=>by cases h
  place:=fun id o b h=>by cases h
  apart:=fun id id' o o' b h=>by cases h
  trees:=⟨(fun id τ xs h=>by cases h),(fun id τ xs h=>by cases h),(fun id τ xs b h=>by cases h),(fun id id' τ τ' xs xs' b h=>by cases h)⟩
  root:=fun id v h=>by cases h
  rng:=fun id v h=>by cases h
  rootB:=fun id v h=>by cases h
  rngB:=fun id v h=>by cases h }
 obtain⟨xs,o1,o2,o3⟩:=f9m (n:=1000000) hBR
 have hshl:sh.length<1000:=by
  unfold f5q at hsh
  rw[Bool.and_eq_true] at hsh
  exact Nat.le_of_ble_eq_true hsh.1
 have hFr:Fr c1 ⟨S,fun _=>undef,fun _=>[]⟩ (fun _=>none) w fa:=fun b hb=>⟨.inr hb,(hfa b hb).2.1,(hfa b hb).1,(fun i o h=>by cases h),(fun j τ xs h=>by cases h)⟩
 obtain⟨G1,lk1,k1,k2,k3,k4,_⟩:=h0.addCells (us:=b0n sh dss) (cs:=xs) (id:=1000000) o2 o1 hfan hFr (fun p hp=>rfl) c7f (fun j _=>rfl)
 have hlk1:∀ i o,lk1 i=some o→1000000≤i∧a3e (some o)=true:=fun i o ho=>by
  rw[k1 i] at ho
  unfold lkx at ho
  split at ho
  ·rename_i o' ho'
   simp only[Option.some.injEq] at ho
   subst ho
   refine⟨(b6r (a6m ho')).1,?_⟩
   have:∀ {us:List TV} {id:Nat} {p:Nat×a0f},p∈a2c id us→a3e (some p.2)=true:=by
    intro us
    induction us with
    | nil=>intro id p hp;cases hp
    | cons u us ih =>
     intro id p hp
     rcases List.mem_append.1 hp with hp|hp
     ·obtain⟨τ,y⟩:=u
      cases τ<;>simp[a5m] at hp
      subst hp
      rfl
     ·exact ih hp
   exact this (a6m ho')
  ·cases ho
 have hblk1:∀ i o,lk1 i=some o→blk (G1.η i)=none:=fun i o ho=>by
  obtain⟨_,ht⟩:=hlk1 i o ho
  match o,ht with
  | .tree τ ys,_ =>
   obtain⟨v,l,_,_,q,_⟩:=k2.trees.tr i τ ys ho
   rw[q];rfl
 let G2:Gh:=⟨S,fun i=>if 400000≤i∧i<400000+sh.length then .pointer (some ⟨B (i - 400000),0,none⟩) else G1.η i,G1.φ⟩
 have hη2:∀ j,j<sh.length→G2.η (400000+j) = .pointer (some ⟨B j,0,none⟩):=fun j hj=>by
  show (if 400000≤400000+j∧400000+j<400000+sh.length then _ else _)=_
  rw[if_pos (by omega),Nat.add_sub_cancel_left]
 have hη1:∀ i,1000000≤i→G2.η i=G1.η i:=fun i hi=>if_neg (by omega)
 have hGS:G1.S=S:=k3.S
 have hlook:(a2x fn args sh dss).look=fun i=>match a0k (b4r 0 sh dss 1000000) i with
   | some o=>some o
   | none=>lk1 i:=by
  funext i
  show a0k (b4r 0 sh dss 1000000++a2c 1000000 (b0n sh dss)) i=_
  rw[b8f]
  unfold lkx
  cases a0k (b4r 0 sh dss 1000000) i with
  | some o=>rfl
  | none =>
   simp only
   rw[k1 i]
   unfold lkx
   cases a0k (a2c 1000000 (b0n sh dss)) i<;>rfl
 have hbox:∀ j,j<sh.length→∃ cs,(a2x fn args sh dss).look (400000+j)=some (.box cs):=fun j hj=>by
  obtain⟨cs,q⟩:=e2p (n:=1000000) hBR.len (Nat.zero_le j) (by simpa using hj)
  exact⟨cs,by rw[hlook];simp only[q]⟩
 have hcase:∀ i o,(a2x fn args sh dss).look i=some o→(∃ j cs l t,i=400000+j∧j<sh.length∧o = .box cs∧w.heap[B j]?=some (.cells l.toArray t (0,0)) ∧
   ∀ (c:Ctx) (G:Gh) (lk:Nat→Option a0f),(∀ b,S b→G.S b)→(∀ j,j<sh.length→G.η (400000+j) = .pointer (some ⟨B j,0,none⟩)∧a5n (lk (400000+j))=true)→a0m (C1 c G lk w) (a2l 1000000 (b0n sh dss)) xs→a0m (C1 c G lk w) cs l) ∨
   (lk1 i=some o∧1000000≤i):=fun i o ho=>by
  rw[hlook] at ho
  simp only at ho
  cases hl:a0k (b4r 0 sh dss 1000000) i with
  | some o' =>
   rw[hl] at ho
   simp only[Option.some.injEq] at ho
   subst ho
   obtain⟨j,cs,l,t,q1,_,q2,q3,_,q4⟩:=o3 _ (a5y hl)
   simp only[Prod.mk.injEq] at q1
   obtain⟨rfl,rfl⟩:=q1
   exact .inl ⟨j,cs,l,t,rfl,by simpa using q2,rfl,q3,fun c G lk h1 h2 h3=>q4 c G lk sh.length h1 h2 (f7r hsh) h3⟩
  | none =>
   rw[hl] at ho
   exact .inr ⟨ho,(hlk1 i o ho).1⟩
 have hsame:∀ i,a3z (lk1 i) ((a2x fn args sh dss).look i):=fun i=>by
  cases hl:lk1 i with
  | none=>exact⟨(fun q=>by cases q),(fun e τ xs q=>by cases q),(fun q=>by cases q),fun q=>by cases q⟩
  | some o =>
   have:=(hlk1 i o hl).1
   have hn:a0k (b4r 0 sh dss 1000000) i=none:=c2w fun p hp e=>by
    obtain⟨j,cs,l,t,q1,_,q2,_⟩:=o3 p hp
    rw[q1] at e
    simp only at e
    omega
   rw[hlook]
   simp only[hn,hl]
   exact a3z.refl _
 have hcells:a0m (C1 ⟨P,E,w,BX sh.length B fa,S,fun _=>none,fun _=>False,fun id=>if 400000≤id∧id<400000+sh.length then some (B (id - 400000)) else none⟩ G2 (a2x fn args sh dss).look w) (a2l 1000000 (b0n sh dss)) xs:=by
  have:∀ {us:List TV} {n:Nat} {xs:List Value},1000000≤n→a0m (C1 c1 G1 lk1 w) (a2l n us) xs→a0m (C1 ⟨P,E,w,BX sh.length B fa,S,fun _=>none,fun _=>False,fun id=>if 400000≤id∧id<400000+sh.length then some (B (id - 400000)) else none⟩ G2 (a2x fn args sh dss).look w) (a2l n us) xs:=by
   intro us
   induction us with
   | nil=>intro n xs _ h;cases xs<;>exact h
   | cons u us ih =>
    intro n xs hn h
    cases xs with
    | nil=>exact h.elim
    | cons x xs =>
     refine⟨?_,ih (by omega) h.2⟩
     have h1:C1 c1 G1 lk1 w (b2g n u) x:=h.1
     obtain⟨τ,y⟩:=u
     have imm:C1 c1 G1 lk1 w (.imm ⟨τ,y⟩) x→C1 ⟨P,E,w,BX sh.length B fa,S,fun _=>none,fun _=>False,fun id=>if 400000≤id∧id<400000+sh.length then some (B (id - 400000)) else none⟩ G2 (a2x fn args sh dss).look w (.imm ⟨τ,y⟩) x:=fun q=>⟨q.1,Rd.keep (fun b hb=>by rw[hGS] at hb;exact hb) (fun _ _=>rfl) _ q.2⟩
     cases τ with
     | slice τ =>
      obtain⟨g1,l,g2,g3⟩:=h1
      exact⟨(hsame n).2.2.1 g1,l,by rw[hη1 n hn];exact g2,g3⟩
     | mv τ=>exact trivial
     | _=>exact imm h1
  exact this (Nat.le_refl _) k4
 have hN:∀ j,j<sh.length→G2.η (400000+j) = .pointer (some ⟨B j,0,none⟩)∧a5n ((a2x fn args sh dss).look (400000+j))=true:=fun j hj=>by
  obtain⟨cs,q⟩:=hbox j hj
  exact⟨hη2 j hj,by rw[q];rfl⟩
 have htree:∀ i τ xs,(a2x fn args sh dss).look i=some (.tree τ xs)→lk1 i=some (.tree τ xs)∧1000000≤i:=fun i τ ys hi=>by
  rcases hcase i _ hi with ⟨_,_,_,_,_,_,q,_⟩|q
  ·cases q
  ·exact q
 refine⟨G2,?_⟩
 exact {
  defers:=rfl
  size:=by simp[a2x,hlen]
  keep:=a1t.refl _ _
  xLt:=⟨fun b hb=>hb.elim (fun q=>(hfa b q).1) fun ⟨k,hk,e⟩=>(by rw[e];exact (hB k hk).1),fun g hg=>⟨(hS.2 g hg).1,fun q=>q.elim (fun q=>(hfa g q).2.1 (hS.2 g hg).1) fun ⟨k,hk,e⟩=>(hB k hk).2 (e ▸ (hS.2 g hg).1),hS.1 g (hS.2 g hg).1,(hS.2 g hg).2⟩⟩
  sOld:=fun b _ _=>Iff.rfl
  sX:=fun b hs=>hs
  sLt:=hS.1
  slots:=fun i=>by
   have hslot:∀ v x,v∈args→f8y w S (BX sh.length B fa) B v x→VR ⟨P,E,w,BX sh.length B fa,S,fun _=>none,fun _=>False,fun id=>if 400000≤id∧id<400000+sh.length then some (B (id - 400000)) else none⟩ G2 (a2x fn args sh dss).look w (f8r v) x:=by
    intro v x hm h
    cases v with
    | val v=>exact h
    | ref v =>
     obtain⟨b,o,cs,h1,h2,h3,h4,h5⟩:=h
     exact⟨b,o,cs,h1, .inr ⟨h2,h3,fun z=>z⟩,h4,h5⟩
    | fn f=>exact h
    | clo v=>exact h.elim
    | own v=>exact h.elim
    | box k =>
     obtain⟨g1,g2⟩:=hN k (hbx k hm)
     exact⟨B k,g1,h,g2⟩
   have h1:a0m (fun v x=>VR ⟨P,E,w,BX sh.length B fa,S,fun _=>none,fun _=>False,fun id=>if 400000≤id∧id<400000+sh.length then some (B (id - 400000)) else none⟩ G2 (a2x fn args sh dss).look w v x) (args.map f8r) vals:=a0m.map_left _ (ha.imp fun v x hm h=>hslot v x hm h)
   have h2:=a0m.getD (d:=AV.any) (e:=undef) (show VR ⟨P,E,w,BX sh.length B fa,S,fun _=>none,fun _=>False,fun id=>if 400000≤id∧id<400000+sh.length then some (B (id - 400000)) else none⟩ G2 (a2x fn args sh dss).look w .any undef from trivial) (h1.append_replicate (a:=AV.any) (b:=undef) (show VR ⟨P,E,w,BX sh.length B fa,S,fun _=>none,fun _=>False,fun id=>if 400000≤id∧id<400000+sh.length then some (B (id - 400000)) else none⟩ G2 (a2x fn args sh dss).look w .any undef from trivial) (fn.ntmps - args.length)) i
   have e1:(a2x fn args sh dss).sl i=(args.map f8r++List.replicate (fn.ntmps - args.length) AV.any).getD i AV.any:=rfl
   have e2:(vals.toArray++Array.replicate (fn.ntmps - vals.toArray.size) undef).getD i undef=(vals++List.replicate (fn.ntmps - args.length) undef).getD i undef:=by
    rw[Array.getD_eq_getD_getElem?,List.getD_eq_getElem?_getD,←Array.getElem?_toList]
    simp[hlen]
   rw[e1]
   show VR _ _ _ _ _ ((vals.toArray++Array.replicate (fn.ntmps - vals.toArray.size) undef).getD i undef)
   rw[e2]
   exact h2
  objs:=fun i o ho=>by
   rcases hcase i o ho with ⟨j,cs,l,t,rfl,hj,rfl,q3,q4⟩|⟨q1,q2⟩
   ·exact⟨B j,l,t,hη2 j hj,q3,q4 _ G2 _ (fun b hb=>hb) hN hcells⟩
   ·have:=(hlk1 i o q1).2
    match o,this with
    | .tree τ ys,_=>trivial
  place:=fun i o b ho hb=>by
   rcases hcase i o ho with ⟨j,cs,l,t,rfl,hj,rfl,q3,q4⟩|⟨q1,q2⟩
   ·rw[hη2 j hj] at hb
    simp only[blk,Option.some.injEq] at hb
    subst hb
    exact⟨.inr (.inr ⟨j,hj,rfl⟩),(hB j hj).2,(hB j hj).1⟩
   ·rw[hη1 i q2,hblk1 i o q1] at hb
    cases hb
  apart:=fun i i' o o' b ho ho' hb hb'=>by
   rcases hcase i o ho with ⟨j,cs,l,t,rfl,hj,rfl,q3,q4⟩|⟨q1,q2⟩
   ·rcases hcase i' o' ho' with ⟨j',cs',l',t',rfl,hj',rfl,_,_⟩|⟨g1,g2⟩
    ·rw[hη2 j hj] at hb
     rw[hη2 j' hj'] at hb'
     simp only[blk,Option.some.injEq] at hb hb'
     rw[hinj j j' hj hj' (hb.trans hb'.symm)]
    ·rw[hη1 i' g2,hblk1 i' o' g1] at hb'
     cases hb'
   ·rw[hη1 i q2,hblk1 i o q1] at hb
    cases hb
  trees:={
   tr:=fun i τ ys hi=>by
    obtain⟨q1,q2⟩:=htree i τ ys hi
    rw[hη1 i q2]
    exact k2.trees.tr i τ ys q1
   nd:=fun i τ ys hi=>k2.trees.nd i τ ys (htree i τ ys hi).1
   pl:=fun i τ ys b hi hb=>by
    obtain⟨q1,q2⟩:=htree i τ ys hi
    obtain⟨p1,p2,p3,p4⟩:=k2.trees.pl i τ ys b q1 hb
    have hbf:b∈fa:=p1.elim (fun q=>absurd p3 (Nat.not_lt.2 q)) id
    refine⟨.inr (.inl hbf),(hfa b hbf).2.1,p3,fun i' o' ho' e=>?_⟩
    rcases hcase i' o' ho' with ⟨j,cs,l,t,rfl,hj,rfl,_,_⟩|⟨g1,g2⟩
    ·rw[hη2 j hj] at e
     simp only[blk,Option.some.injEq] at e
     exact (hfa b hbf).2.2 j hj e
    ·rw[hη1 i' g2,hblk1 i' o' g1] at e
     cases e
   ap:=fun i i' τ τ' ys ys' b hi hi'=>k2.trees.ap i i' τ τ' ys ys' b (htree i τ ys hi).1 (htree i' τ' ys' hi').1 }
  root:=fun id v h=>by cases h
  rng:=fun id v h=>by cases h
  rootB:=fun id b hr ht=>by
   simp only at hr
   split at hr
   ·rename_i hc
    simp only[Option.some.injEq] at hr
    show (if 400000≤id∧id<400000+sh.length then _ else _)=_
    rw[if_pos hc,hr]
   ·cases hr
  rngB:=fun id b hr=>by
   simp only at hr
   split at hr
   ·rename_i hc;exact hc.1
   ·cases hr }
theorem g1f(hE:a1m P E)(hmix:P.follows .mixedOrders=true){f:FuncId}{fn:Func}{code:Code}(hf:P.funcs[f]?=some fn)(hb:fn.body=some code)(Λ:Nat→a0t){args:List Arg}{sh:List (List CK)}{dss:List (List TV)}{res:List TV}{dss':List (List TV)}{post:List TV→List (List TV)→Prop}
  (hpost:∀ vs ds,post vs ds→vs=res∧ds=dss') (hsh:f5q sh=true) (hbx:∀ k,Arg.box k∈args→k<sh.length) (h:awp E code Λ 0 (a9b E fn sh post) (a2x fn args sh dss)):b7w P f sh args dss res dss':=by
 intro w S B vals fa hS hBR hfan hfa hB hinj ha
 refine calls_of_wp hf hb ?_
 obtain⟨G0,hinv⟩:=g1k (P:=P) (E:=E) (fn:=fn) hsh hS hBR hfan hfa hB hinj ha hbx
 generalize hc:(⟨P,E,w,BX sh.length B fa,S,fun _=>none,fun _=>False,fun id=>if 400000≤id∧id<400000+sh.length then some (B (id - 400000)) else none⟩:Ctx)=c at *
 have hcP:c.P=P:=by rw[←hc]
 have hcE:c.E=E:=by rw[←hc]
 have hcw:c.w0=w:=by rw[←hc]
 have hcX:c.X=BX sh.length B fa:=by rw[←hc]
 have hcS:c.S0=S:=by rw[←hc]
 have hcB:∀ j,j<sh.length→c.RB (400000+j)=some (B j):=fun j hj=>by
  rw[←hc]
  show (if 400000≤400000+j∧400000+j<400000+sh.length then _ else _)=_
  rw[if_pos (by omega),Nat.add_sub_cancel_left]
 have hE':a1m c.P c.E:=by rw[hcP,hcE];exact hE
 have hrun:=a7t (c:=c) hE' (by rw[hcP];exact hmix) code Λ 0 (a9b E fn sh post) G0 (a2x fn args sh dss) _ w hinv (by rw[hcE];exact h)
 rw[hcP] at hrun
 refine wp_mono hrun ?_
 have fin:∀ (e:Exit) (a:Act) (w':World),(e = .normal∨e = .ret)→(∃ G s,Inv c G s a w'∧a9b E fn sh post e s) →
   a.defers=[]∧∃ v,(results fn a.tmps).run P w' = .ok v w'∧∃ x S' fp fa',Ending.returned v = .returned x∧a1t (BX sh.length B fa) w w'∧(∀ b,S b→S' b)∧(∀ b,S' b→b<w'.heap.size)∧(∀ b,b<w.heap.size→¬ BX sh.length B fa b→(S' b↔S b)) ∧
    d6v w' res x fp∧a8w w' S' B 0 sh dss' fa'∧(fp++fa').Nodup∧(∀ b∈fp++fa',(b∈fa∨(w.heap.size≤b∧b<w'.heap.size))∧¬ S' b∧∀ k,k<sh.length→B k≠b)∧∀ k,k<sh.length→¬ S' (B k):=by
  rintro e a w' he ⟨G,s,hI,hp⟩
  have hp':∃ vs ids ds ids' m,c2m E s fn.results.toList fn.resultTypes.toList=some (vs,ids)∧a9r s.look sh 0 (idM sh.length)=some (ds,ids',m)∧(ids++ids').Nodup∧vs=res∧ds=dss':=by
   rcases he with rfl|rfl <;>
   ·simp only[a9b] at hp
    split at hp
    ·rename_i vs ids hvs
     split at hp
     ·rename_i ds ids' m hds
      split at hp
      ·rename_i hn
       rw[Bool.and_eq_true] at hn
       obtain⟨q1,q2⟩:=hpost _ _ hp
       exact⟨vs,ids,ds,ids',m,hvs,hds,a3s hn.1,q1,q2⟩
      ·exact hp.elim
     ·exact hp.elim
    ·exact hp.elim
  obtain⟨vs,ids,ds,ids',m,hvs,hds,hn,rfl,rfl⟩:=hp'
  rw[List.nodup_append] at hn
  obtain⟨n1,n2,n3⟩:=hn
  obtain⟨xs,fp,h1,h2,h3,h4⟩:=d4a (P:=P) (E:=E) (c:=c) hE' hcP hcE hI hvs n1
  obtain⟨x0,hboxed,fa',hBR',hfan',hfa'⟩:=c4y hI hds n2
  have hbx2:∀ k,k<sh.length→∃ cs,s.look (400000+k)=some (.box cs)∧G.η (400000+k) = .pointer (some ⟨B k,0,none⟩)∧a0k m k=some (400000+k):=fun k hk=>by
   obtain⟨id,cs,q1,q2⟩:=hboxed k (Nat.zero_le _) (by simpa using hk)
   have q3:=x0 k (400000+k) (by rw[g6x,if_pos hk])
   rw[q3] at q1
   simp only[Option.some.injEq] at q1
   subst q1
   exact⟨cs,q2,hI.rootB _ _ (hcB k hk) (by rw[q2];rfl),q3⟩
  have hbo:∀ k,k<sh.length→bOf G m k=B k:=fun k hk=>by
   obtain⟨cs,_,q2,q3⟩:=hbx2 k hk
   simp only[bOf,q3,q2]
   rfl
  have hBR2:=a8w.congr (N:=sh.length) hbo (by omega) (f7r hsh) (hBR' m (a9e.refl m))
  have hkeep:a1t (BX sh.length B fa) w w':=by
   have:=hI.keep
   rwa [hcX,hcw] at this
  have hin:∀ ids b,InF G s.look ids b→(b∈fa∨(w.heap.size≤b∧b<w'.heap.size))∧¬ G.S b∧∀ k,k<sh.length→B k≠b:=fun ids b hb=>by
   obtain⟨id,hi,hq⟩:=hb
   have hp:(c.w0.heap.size≤b∨c.X b)∧¬ G.S b∧b<w'.heap.size∧∀ k,k<sh.length→B k≠b:=by
    rcases hq with ⟨τ,ys,q1,q2⟩|⟨e',τ,ys,q1,q2⟩
    ·obtain⟨p1,p2,p3,p4⟩:=hI.trees.pl id τ ys b q1 q2
     refine⟨p1,p2,p3,fun k hk e=>?_⟩
     obtain⟨cs,g1,g2,_⟩:=hbx2 k hk
     exact p4 _ _ g1 (by rw[g2,←e];rfl)
    ·obtain⟨p1,p2,p3⟩:=hI.place id _ b q1 q2
     refine⟨p1,p2,p3,fun k hk e=>?_⟩
     obtain⟨cs,g1,g2,_⟩:=hbx2 k hk
     have:=hI.apart id _ _ _ b q1 g1 q2 (by rw[g2,←e];rfl)
     subst this
     rw[q1] at g1
     cases g1
   obtain⟨p1,p2,p3,p4⟩:=hp
   refine⟨?_,p2,p4⟩
   rw[hcw,hcX] at p1
   rcases p1 with p1|p1|⟨k,hk,e⟩
   ·exact .inr ⟨p1,p3⟩
   ·exact .inl p1
   ·exact absurd e.symm (p4 k hk)
  refine⟨hI.defers,(if h:xs.toArray.size=1 then xs.toArray[0] else .tuple xs.toArray),?_,_,G.S,fp,fa',rfl,hkeep,?_,hI.sLt,?_,g0l h2,hBR2,?_,?_,?_⟩
  ·rw[c8p,Array.mapM_eq_mapM_toList]
   simp only[Sem.run_bind,Sem.run_map,h1]
   rfl
  ·intro b hb
   exact hI.sX b (by rw[hcS];exact hb)
  ·intro b hb hx
   have:=hI.sOld b (by rw[hcw];exact hb) (by rw[hcX];exact hx)
   rwa [hcS] at this
  ·exact a4h h3 hfan' fun b hb hb'=>hI.inf_apart (h4 b hb) (hfa' b hb') fun x hx y hy=>n3 x hx y hy
  ·intro b hb
   rcases List.mem_append.1 hb with hb|hb
   ·exact hin ids b (h4 b hb)
   ·exact hin ids' b (hfa' b hb)
  ·intro k hk
   obtain⟨cs,q1,q2,_⟩:=hbx2 k hk
   exact (hI.place _ _ (B k) q1 (by rw[q2];rfl)).2.1
 intro e a w' hq
 cases e with
 | normal=>exact fin .normal a w' (.inl rfl) hq
 | ret=>exact fin .ret a w' (.inr rfl) hq
 | exit i=>obtain⟨_,_,_,hp⟩:=hq;exact hp.elim
 | goto l=>obtain⟨_,_,_,hp⟩:=hq;exact hp.elim
 | panic ch=>obtain⟨_,_,_,hp⟩:=hq;exact hp.elim
 | outgrown=>obtain⟨_,_,_,hp⟩:=hq;exact hp.elim
end
end Go.Proofs.Ytlaoejdeanljgaa

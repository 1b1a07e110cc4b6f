/- From a law's contract at the abstract machine to what its row asks of a call. -/
import Derived.Test.YtmdefiphdgcijaaDoorVmLib
import Derived.Shelf.Vars
set_option linter.unusedVariables false
set_option maxRecDepth 100000
namespace Go.Proofs.YtmdefiphdgcijaaDoor
open Go.ChangeShapes Go.WideShapes Go.ChangeAt Go.RowKit
theorem e6k:laidOutB a0k=true:=by kernel_rfl
theorem e8d:ownKnob a0k.godebug=none:=by kernel_rfl
section
variable {H:Type} {enc:TypeId×Value→H}
theorem d0w{W W':World}{sp:Nat→Bool}(hb:Below W.heap.size W W'):∀ (ts:List TypeId) {vs:List Value} {ds:List (DataW H)} {ps:List MemPlace},(∀ t∈ts,a0k.readableRec t=true∧t<a0k.types.size) →
  DataW.TrodAll enc a0k W 0 (fun _=>true) true ts vs ds ps→(∀ p∈ps,p.block<W.heap.size)→(∀ p∈ps,sp p.block=true)→DataW.TrodAll enc a0k W' 0 sp true ts vs ds ps
 | [],[],[],ps,_,h,_,_=>h
 | t::ts,v::vs,d::ds,ps,ht,h,hlt,hsp=>by
  obtain⟨p,q,h1,h2,rfl⟩:=h
  refine⟨p,q,?_,?_,rfl⟩
  ·exact WideElems.Trod_stays e6k (ht t (by simp)).1 (ht t (by simp)).2 h1 (fun x hx=>hb.same (hlt x (by simp[hx]))) (fun x hx=>hsp x (by simp[hx]))
  ·exact d0w hb ts (fun t h=>ht t (by simp[h])) h2 (fun x hx=>hlt x (by simp[hx])) (fun x hx=>hsp x (by simp[hx]))
 | [],_::_,_,_,_,h,_,_=>h.elim
 | [],[],_::_,_,_,h,_,_=>h.elim
 | _::_,[],_,_,_,h,_,_=>h.elim
 | _::_,_::_,[],_,_,h,_,_=>h.elim
theorem e4l{f:Func}{s:ChangeSpec}{apart fresh handsOn again:Bool}{W W':World}{args:Array Value}{v:Value}{ds gs:List (DataW H)}{before pa pv:List MemPlace}
  (hW:DataW.Whole enc a0k f.params.toList s.vars apart W args.toList ds gs before)
  (hres:∀ (b:Nat) (sp:Nat→Bool) (hd:Bool),DataW.TrodAll enc a0k W' b sp hd f.resultTypes.toList (v.resultList f.resultTypes.size) (s.fn H (ds++gs)).results [])
  (hargs:∀ sp:Nat→Bool,(∀ p∈before,sp p.block=true)→DataW.TrodAll enc a0k W' 0 sp true f.params.toList args.toList (s.fn H (ds++gs)).args pa)
  (hvars:∀ sp:Nat→Bool,(∀ p∈before,sp p.block=true)→DataW.TrodVars enc a0k W' sp s.vars (s.fn H (ds++gs)).vars pv)
  (hps:before=pa++pv) (hb:Below W.heap.size W W')
  (hok:∀ (j:Nat) (t:TypeId) (r:Value),f.resultTypes[j]?=some t→(v.resultList f.resultTypes.size)[j]?=some r→Value.okWide a0k W' .any 0 t r) :
  s.post enc a0k f apart fresh handsOn again W args v W':=by
 have hlt:∀ p∈before,p.block<W.heap.size:=fun p hp=>hW.lt p hp
 have hold:∀ p∈before,(fun b=>decide (b<W.heap.size)) p.block=true:=fun p hp=>by simpa using hlt p hp
 refine⟨ds,gs,before,[],pa,pv,hW,hres _ _ _,hargs _ hold,hvars _ hold,World.keptBut_mono (fun p hp=>⟨hp,?_⟩) (hb.frame (·∈before)),fun _=>?_⟩
 ·rw[hps,List.mem_append] at hp
  exact Or.inr hp
 ·obtain⟨_,_,_,_,_,hz,hn⟩:=hW
  refine⟨hok,_,_,([]++pa)++pv,⟨[]++pa,pv,trodAll_append (hargs _ (fun _ _=>rfl)) (hres _ _ _),hvars _ (fun _ _=>rfl),rfl,?_,?_⟩,?_⟩
  ·intro b off hp
   have hin:MemPlace.cell b off∈before:=by rw[hps];simpa using hp
   rw[hb.frozen (hlt _ hin)]
   exact hz b off hin
  ·intro ha
   have:=hn ha
   rw[hps] at this
   simpa using this
  ·intro p hp _
   rw[hps]
   simpa using hp
def e3f(τ:Ty)(v:Value):Prop:=match τ with
 | .st _=>∃ cs,v = .agg cs
 | _=>v.cells = #[v]
theorem f0w{w:World}{S:Nat→Prop}(τ:Ty)(y:τ.den){v:Value}(hv:e3f τ v)(h:Rd w S (τ.toD y) v.cells.toList):RdV w S ⟨τ,y⟩ v:=by
 cases τ with
 | st s =>
  obtain⟨cs,rfl⟩:=hv
  exact⟨cs.toList,by simp,h⟩
 | int k=>simp only[show v.cells = #[v] from hv] at h;exact h
 | bool=>simp only[show v.cells = #[v] from hv] at h;exact h
 | str=>simp only[show v.cells = #[v] from hv] at h;exact h
 | slice t=>simp only[show v.cells = #[v] from hv] at h;exact h
 | mv t=>simp only[show v.cells = #[v] from hv] at h;exact h
 | ptr=>simp only[show v.cells = #[v] from hv] at h;exact h
theorem e2r{w:World}:∀ (ts:List TypeId) (τs:List Ty) {vs:List Value} {ds:List (DataW H)} {ps:List MemPlace},a0g (fun T τ=>∃ b e,a0f b9g T=some (τ,b,e)) ts τs →
  DataW.TrodAll enc a0k w 0 (fun _=>true) true ts vs ds ps→(∀ d∈ds,Rows.uptoBulk d≤1048576)→(∀ (j:Nat) t v,ts[j]?=some t→vs[j]?=some v→Value.okWide a0k w .any 0 t v∨∃ b,Value.okWide a0k w .any b t v) →
  ∃ tvs:List TV,tvs.map TV.τ=τs∧ds.length=τs.length∧a0g (b4j a0k w (·<w.heap.size)) (tvs.map .val) vs
 | [],[],[],[],_,_,_,_,_=>⟨[],rfl,rfl,trivial⟩
 | T::ts,τ::τs,v::vs,d::ds,ps,ht,h,hk,hv=>by
  obtain⟨p,q,⟨n,h1⟩,h2,rfl⟩:=h
  obtain⟨⟨b,e,hT⟩,ht'⟩:=ht
  obtain⟨y,hy⟩:=e4m n τ T b e _ _ hT h1 (hk d (by simp))
  obtain⟨tvs,g1,g2,g3⟩:=e2r ts τs ht' h2 (fun d hd=>hk d (by simp[hd])) (fun j t v hj hj'=>hv (j+1) t v hj hj')
  refine⟨⟨τ,y⟩::tvs,by simp[g1],by simp[g2],⟨?_,g3⟩⟩
  refine f0w τ y ?_ hy
  have hv0:=hv 0 T v rfl rfl
  have key:∀ b,Value.okWide a0k w .any b T v→e3f τ v:=by
   intro b' hb
   cases τ with
   | st s =>
    obtain⟨fs,hu,_⟩:=b0a.st hT
    simp only[Value.okWide,hu] at hb
    obtain⟨cs,rfl,_⟩:=hb
    exact⟨cs,rfl⟩
   | int k =>
    have hu:=b0a.int hT
    simp only[Value.okWide,hu,Cell.okWide,Cell.ok] at hb
    cases v<;>first|rfl|cases hb
   | bool =>
    have hu:=b0a.bool hT
    simp only[Value.okWide,hu,Cell.okWide,Cell.ok] at hb
    cases v<;>first|rfl|cases hb
   | str =>
    have hu:=b0a.str hT
    simp only[Value.okWide,hu,Cell.okWide,Cell.ok] at hb
    cases v<;>first|rfl|cases hb
   | mv t=>exact (b0a.nomv hT).elim
   | ptr =>
    obtain⟨t,hu⟩:=b0a.ptr hT
    simp only[Value.okWide,hu,Cell.okWide,Cell.ok] at hb
    cases v<;>first|rfl|cases hb
   | slice t =>
    have hu:=(b0a.slice hT).1
    simp only[Value.okWide,hu,Cell.okWide,Cell.ok] at hb
    cases v<;>first|rfl|cases hb
  rcases hv0 with h|⟨b',h⟩
  ·exact key _ h
  ·exact key _ h
 | [],_::_,_,_,_,h,_,_,_=>h.elim
 | _::_,[],_,_,_,h,_,_,_=>h.elim
 | [],[],_::_,_,_,_,h,_,_=>h.elim
 | [],[],[],_::_,_,_,h,_,_=>h.elim
 | _::_,_::_,[],_,_,_,h,_,_=>h.elim
 | _::_,_::_,_::_,[],_,_,h,_,_=>h.elim
noncomputable def f0r(g:Nat):Bool:=g<a0k.globals.size&&match ((begin a0k (fun _ _=>0) default).world.heap[g]?).bind Obj.row? with
 | some (zero,t)=>zero.size == 1&&a0k.buildable t&&(match a0k.cellTypes a0k.depth t with|some [u]=>u == t|_=>false)&&(match a0k.underlying t with|some (.int .i64)=>true|_=>false)
 | none=>false
theorem e7s:e4d.all f0r=true:=by kernel_rfl
theorem d9s{W:World}(h:W.ShapedOpen a0k):SOk W (·<W.heap.size):=⟨fun _ h=>h,fun g hg=>by
 have hk:=List.all_eq_true.1 e7s g hg
 unfold f0r at hk
 rw[Bool.and_eq_true] at hk
 obtain⟨h1,h2⟩:=hk
 split at h2
 ·rename_i zero t h0
  simp only[Bool.and_eq_true] at h2
  obtain⟨⟨⟨k1,k2⟩,k3⟩,k4⟩:=h2
  have k3':a0k.cellTypes a0k.depth t=some [t]:=by
   split at k3
   ·rename_i u hu
    rw[hu,eq_of_beq k3]
   ·cases k3
  have k4':a0k.underlying t=some (.int .i64):=by
   split at k4
   ·rename_i hu;exact hu
   ·cases k4
  obtain⟨m,hm⟩:=cell_of_shapedOpen_int h (of_decide_eq_true h1) h0 (eq_of_beq k1) k2 k3' k4'
  refine⟨?_,m,hm⟩
  unfold World.cell? at hm
  rcases Nat.lt_or_ge g W.heap.size with q|q
  ·exact q
  ·rw[show W.heap[g]?=none from Array.getElem?_eq_none q] at hm
   cases hm
 ·cases h2⟩
theorem e9s{n:FuncId}{fn:Func}{s:ChangeSpec}{τs:List Ty}{handsOn again:Bool}(hts:a0g (fun T τ=>∃ b e,a0f b9g T=some (τ,b,e)) fn.params.toList τs)
  (hread:∀ t∈fn.params.toList,a0k.readableRec t=true∧t<a0k.types.size) (hr:fn.resultTypes = #[d4s]) (hvars:s.vars=[])
  (hs:∀ ds:List (DataW H),ds.length=τs.length→s.fn H ds={ results:=[.lit (.bool true)],args:=ds })
  (hlaw:∀ tvs:List TV,tvs.map TV.τ=τs→a1h a0k n (tvs.map .val) (·=[⟨.bool,true⟩]))
  {W:World} {base:Nat} {args:Array Value} {ds gs:List (DataW H)} {before:List MemPlace}
  (hval:∀ (j:Nat) t v,fn.params[j]?=some t→args[j]?=some v→Value.okWide a0k W .any base t v)
  (hW:DataW.Whole enc a0k fn.params.toList s.vars false W args.toList ds gs before) (hk:Rows.uptoSmall H (ds++gs)=true) (hsh:SOk W (·<W.heap.size)) :
  Calls a0k n args W fun e W'=>∃ v,e = .returned v∧s.post enc a0k fn false true handsOn again W args v W':=by
 have hW':=hW
 obtain⟨p,q,hA,hV,hpq,hfz,hnd⟩:=hW
 rw[hvars] at hV
 obtain⟨rfl,rfl⟩:=trodVars_none hV
 have hbulk:∀ d∈ds,Rows.uptoBulk d≤1048576:=by
  intro d hd
  have h1:=d7y hd
  simp only[Rows.uptoSmall,List.append_nil,decide_eq_true_eq] at hk
  omega
 obtain⟨tvs,h1,h2,h3⟩:=e2r fn.params.toList τs hts hA hbulk (fun j t v hj hj' => .inr ⟨base,hval j t v (by simpa using hj) (by simpa using hj')⟩)
 have hcall:=hlaw tvs h1 W (·<W.heap.size) args.toList hsh h3
 rw[show args.toList.toArray=args by simp] at hcall
 refine hcall.mono fun e W'=>?_
 rintro⟨x,S',res,rfl,rfl,hkeep,hS1,hS2,hres⟩
 have hx:x = .bool true:=by
  have hx:RdV W' S' ⟨.bool,true⟩ x:=hres
  have hx:[x]=[Value.bool true]:=hx
  simpa using hx
 subst hx
 have hb:Below W.heap.size W W':=⟨hkeep.os,hkeep.tape,hkeep.output,hkeep.size,fun k hk=>hkeep.block k hk (fun h=>h)⟩
 refine⟨_,rfl,e4l (pa:=p) (pv:=[]) hW' ?_ ?_ ?_ hpq hb ?_⟩
 ·intro b sp hd
  rw[hs _ (by simpa using h2),hr]
  exact trodAll_mk1 ⟨1,by
   have hu:a0k.underlying d4s=some .bool:=by kernel_rfl
   simp only[DataW.trod,Value.cells]
   rw[hu]⟩
 ·intro sp hsp
  rw[hs _ (by simpa using h2),List.append_nil]
  have hlt:∀ x∈before,x.block<W.heap.size:=fun x hx=>hW'.lt x hx
  rw[hpq] at hlt hsp
  exact d0w hb _ hread hA (fun x hx=>hlt x (by simp[hx])) (fun x hx=>hsp x (by simp[hx]))
 ·intro sp hsp
  rw[hs _ (by simpa using h2),hvars]
  rfl
 ·refine ok_one hr rfl ?_
  have hu:a0k.underlying d4s=some .bool:=by kernel_rfl
  simp[Value.okWide,hu,Cell.okWide,Cell.ok]
end
end Go.Proofs.YtmdefiphdgcijaaDoor

/- VmRow, VmLib, VmSz, VmTo, VmEq, VmOwnFam, VmOwnFam2, VmOwnFam4, VmHeld, VmExpr, VmExpr2, VmShaped, VmTruth, VmValid, VmPfe, VmBld, VmBld2. -/
import Derived.Test.YtmjfpcajohhbeaaGreatDoorVmOpen
import Derived.Shelf.Vars
set_option linter.all false
set_option maxRecDepth 100000
namespace Go.Proofs.YtmjfpcajohhbeaaGreatDoor
open Go.ChangeShapes Go.WideShapes Go.ChangeAt Go.RowKit
def b2H:=@List.replicate_succ
def b1H:=@Nat.not_lt_zero
def b1D:=@Nat.lt_succ_self
def b1B:=@Bool.not_eq_false'
def b4A:=@decide_not
def b3O:=@List.set_set
def b4H:=@Int.lt_or_le
theorem a1V:laidOutB prog=true:=by kernel_rfl
theorem a3K:ownKnob prog.godebug=none:=by kernel_rfl
section
variable {H:Type} {enc:TypeId×Value->H}
theorem Lq{W W':World}{sp:Nat->Bool}(hb:Below W.heap.size W W'):∀ (ts:List TypeId) {vs:List Value} {ds:List (DataW H)} {ps:List MemPlace},(∀ t∈ts,prog.readableRec t=true/\t<prog.types.size) ->
  DataW.TrodAll enc prog W 0 (λ _=>true) true ts vs ds ps->(∀ p∈ps,p.block<W.heap.size)->(∀ p∈ps,sp p.block=true)->DataW.TrodAll enc prog W' 0 sp true ts vs ds ps
 | [],[],[],ps,_,h,_,_=>h
 | t::ts,v::vs,d::ds,ps,ht,h,bX,YY=>by
  obtain⟨p,q,h1,h2,rfl⟩:=h;refine⟨p,q,?_,?_,rfl⟩
  .exact WideElems.Trod_stays a1V (ht t (by simp)).1 (ht t (by simp)).2 h1 (λ x hx=>hb.same (bX x (by simp[hx]))) (λ x hx=>YY x (by simp[hx]))
  .exact Lq hb ts (λ t h=>ht t (by simp[h])) h2 (λ x hx=>bX x (by simp[hx])) (λ x hx=>YY x (by simp[hx]))
 | [],_::_,_,_,_,h,_,_=>h.elim
 | [],[],_::_,_,_,h,_,_=>h.elim
 | _::_,[],_,_,_,h,_,_=>h.elim
 | _::_,_::_,[],_,_,h,_,_=>h.elim
theorem a0A{f:Func}{s:ChangeSpec}{apart fresh handsOn again:Bool}{W W':World}{args:Array Value}{v:Value}{ds gs:List (DataW H)}{before pa pv:List MemPlace}
  (hW:DataW.Whole enc prog f.params.toList s.vars apart W args.toList ds gs before)
  (XP:∀ (b:Nat) (sp:Nat->Bool) (hd:Bool),DataW.TrodAll enc prog W' b sp hd f.resultTypes.toList (v.resultList f.resultTypes.size) (s.fn H (ds++gs)).results [])
  (eU:∀ sp:Nat->Bool,(∀ p∈before,sp p.block=true)->DataW.TrodAll enc prog W' 0 sp true f.params.toList args.toList (s.fn H (ds++gs)).args pa)
  (Vj:∀ sp:Nat->Bool,(∀ p∈before,sp p.block=true)->DataW.TrodVars enc prog W' sp s.vars (s.fn H (ds++gs)).vars pv)
  (hps:before=pa++pv) (hb:Below W.heap.size W W')
  (hok:∀ (j:Nat) (t:TypeId) (r:Value),f.resultTypes[j]?=some t->(v.resultList f.resultTypes.size)[j]?=some r->Value.okWide prog W' .any 0 t r) :
  s.post enc prog f apart fresh handsOn again W args v W':=by
 have bX:∀ p∈before,p.block<W.heap.size:=λ p hp=>hW.lt p hp;have hold:∀ p∈before,(λ b=>decide (b<W.heap.size)) p.block=true:=λ p hp=>by simpa using bX p hp
 refine⟨ds,gs,before,[],pa,pv,hW,XP _ _ _,eU _ hold,Vj _ hold,World.keptBut_mono (λ p hp=>⟨hp,?_⟩) (hb.frame (·∈before)),λ _=>?_⟩
 .rw[hps,b0Q] at hp;exact Or.inr hp
 .obtain⟨_,_,_,_,_,hz,hn⟩:=hW;refine⟨hok,_,_,([]++pa)++pv,⟨[]++pa,pv,trodAll_append (eU _ (λ _ _=>rfl)) (XP _ _ _),Vj _ (λ _ _=>rfl),rfl,?_,?_⟩,?_⟩
  .intro b off hp;have gT:MemPlace.cell b off∈before:=by rw[hps];simpa using hp
   rw[hb.frozen (bX _ gT)];exact hz b off gT
  .intro ha;have:=hn ha;rw[hps] at this;simpa using this
  .intro p hp _;rw[hps];simpa using hp
def a0L(τ:Ty)(v:Value):Prop:=match τ with
 | .st _=>∃ cs,v = .agg cs
 | _=>v.cells = #[v]
theorem a6L{w:World}{S:Nat->Prop}(τ:Ty)(y:τ.den){v:Value}(hv:a0L τ v)(h:Rd w S (τ.bc y) v.cells.toList):gM w S ⟨τ,y⟩ v:=by
 cases τ with
 | st s =>
  obtain⟨cs,rfl⟩:=hv;exact⟨cs.toList,by simp,h⟩
 | int k=>simp only[show v.cells = #[v] from hv] at h;exact h
 | bool=>simp only[show v.cells = #[v] from hv] at h;exact h
 | str=>simp only[show v.cells = #[v] from hv] at h;exact h
 | slice t=>simp only[show v.cells = #[v] from hv] at h;exact h
 | mv t=>simp only[show v.cells = #[v] from hv] at h;exact h
 | ptr=>simp only[show v.cells = #[v] from hv] at h;exact h
theorem ZH{w:World}:∀ (ts:List TypeId) (τs:List Ty) {vs:List Value} {ds:List (DataW H)} {ps:List MemPlace},bf (λ T τ=>∃ b e,ah FG T=some (τ,b,e)) ts τs ->
  DataW.TrodAll enc prog w 0 (λ _=>true) true ts vs ds ps->(∀ d∈ds,Rows.uptoBulk d<=1048576)->(∀ (j:Nat) t v,ts[j]?=some t->vs[j]?=some v->Value.okWide prog w .any 0 t v\/∃ b,Value.okWide prog w .any b t v) ->
  ∃ PN:List TV,PN.map TV.τ=τs/\ds.length=τs.length/\bf (Bf prog w (·<w.heap.size)) (PN.map .val) vs
 | [],[],[],[],_,_,_,_,_=>⟨[],rfl,rfl,af⟩
 | T::ts,τ::τs,v::vs,d::ds,ps,ht,h,hk,hv=>by
  obtain⟨p,q,⟨n,h1⟩,h2,rfl⟩:=h;obtain⟨⟨b,e,hT⟩,S2⟩:=ht;obtain⟨y,hy⟩:=a0E n τ T b e _ _ hT h1 (hk d (by simp));obtain⟨PN,g1,g2,g3⟩:=ZH ts τs S2 h2 (λ d hd=>hk d (by simp[hd])) (λ j t v hj Ic=>hv (j+1) t v hj Ic);refine⟨⟨τ,y⟩::PN,by simp[g1],by simp[g2],⟨?_,g3⟩⟩;refine a6L τ y ?_ hy;have OQ:=hv 0 T v rfl rfl;have key:∀ b,Value.okWide prog w .any b T v->a0L τ v:=by
   intro b' hb;cases τ with
   | st s =>
    obtain⟨fs,hu,_⟩:=tC.st hT;simp only[Value.okWide,hu] at hb;obtain⟨cs,rfl,_⟩:=hb;exact⟨cs,rfl⟩
   | int k =>
    have hu:=tC.int hT;simp only[Value.okWide,hu,Cell.okWide,Cell.ok] at hb;cases v<;>first|rfl|cases hb
   | bool =>
    have hu:=tC.bool hT;simp only[Value.okWide,hu,Cell.okWide,Cell.ok] at hb;cases v<;>first|rfl|cases hb
   | str =>
    have hu:=tC.str hT;simp only[Value.okWide,hu,Cell.okWide,Cell.ok] at hb;cases v<;>first|rfl|cases hb
   | mv t=>exact (tC.a5F hT).elim
   | ptr =>
    obtain⟨t,hu⟩:=tC.ptr hT;simp only[Value.okWide,hu,Cell.okWide,Cell.ok] at hb;cases v<;>first|rfl|cases hb
   | slice t =>
    have hu:=(tC.slice hT).1;simp only[Value.okWide,hu,Cell.okWide,Cell.ok] at hb;cases v<;>first|rfl|cases hb
  rcases OQ with h|⟨b',h⟩
  .exact key _ h
  .exact key _ h
 | [],_::_,_,_,_,h,_,_,_=>h.elim
 | _::_,[],_,_,_,h,_,_,_=>h.elim
 | [],[],_::_,_,_,_,h,_,_=>h.elim
 | [],[],[],_::_,_,_,h,_,_=>h.elim
 | _::_,_::_,[],_,_,_,h,_,_=>h.elim
 | _::_,_::_,_::_,[],_,_,h,_,_=>h.elim
noncomputable def a7i(g:Nat):Bool:=g<prog.globals.size&&match ((begin prog (λ _ _=>0) default).world.heap[g]?).bind Obj.row? with
 | some (zero,t)=>zero.size == 1&&prog.buildable t&&(match prog.cellTypes prog.depth t with|some [u]=>u == t|_=>false)&&(match prog.underlying t with|some (.int .i64)=>true|_=>false)
 | none=>false
theorem a3x:a1r.all a7i=true:=by kernel_rfl
theorem UT{W:World}(h:W.ShapedOpen prog):yI W (·<W.heap.size):=⟨λ _ h=>h,λ g hg=>by
 have hk:=List.all_eq_true.1 a3x g hg;unfold a7i at hk;rw[Bool.and_eq_true] at hk;obtain⟨h1,h2⟩:=hk;split at h2
 .rename_i zero t h0;simp only[b0R] at h2;obtain⟨⟨⟨k1,k2⟩,k3⟩,k4⟩:=h2;have k3':prog.cellTypes prog.depth t=some [t]:=by
   split at k3
   .rename_i u hu;rw[hu,eq_of_beq k3]
   .cases k3
  have k4':prog.underlying t=some (.int .i64):=by
   split at k4
   .rename_i hu;exact hu
   .cases k4
  obtain⟨m,hm⟩:=cell_of_shapedOpen_int h (of_decide_eq_true h1) h0 (eq_of_beq k1) k2 k3' k4';refine⟨?_,m,hm⟩;unfold World.cell? at hm;rcases Nat.lt_or_ge g W.heap.size with q|q
  .exact q
  .rw[show W.heap[g]?=none from b2j q] at hm;cases hm
 .cases h2⟩
theorem a5v{n:FuncId}{fn:Func}{s:ChangeSpec}{τs:List Ty}{handsOn again:Bool}(hts:bf (λ T τ=>∃ b e,ah FG T=some (τ,b,e)) fn.params.toList τs)
  (YX:∀ t∈fn.params.toList,prog.readableRec t=true/\t<prog.types.size) (hr:fn.resultTypes = #[Yl]) (Vj:s.vars=[])
  (hs:∀ ds:List (DataW H),ds.length=τs.length->s.fn H ds={ results:=[.lit (.bool true)],args:=ds })
  (a9D:∀ PN:List TV,PN.map TV.τ=τs->bC prog n (PN.map .val) (·=[⟨.bool,true⟩]))
  {W:World} {base:Nat} {args:Array Value} {ds gs:List (DataW H)} {before:List MemPlace}
  (a0i:∀ (j:Nat) t v,fn.params[j]?=some t->args[j]?=some v->Value.okWide prog W .any base t v)
  (hW:DataW.Whole enc prog fn.params.toList s.vars false W args.toList ds gs before) (hk:Rows.uptoSmall H (ds++gs)=true) (Kj:yI W (·<W.heap.size)) :
  Calls prog n args W λ e W'=>∃ v,e = .returned v/\s.post enc prog fn false true handsOn again W args v W':=by
 have hW':=hW;obtain⟨p,q,hA,hV,hpq,hfz,dt⟩:=hW;rw[Vj] at hV;obtain⟨rfl,rfl⟩:=trodVars_none hV;have a1w:∀ d∈ds,Rows.uptoBulk d<=1048576:=by
  intro d hd;have h1:=V4 hd;simp only[Rows.uptoSmall,b2h,b0N] at hk;omega
 obtain⟨PN,h1,h2,h3⟩:=ZH fn.params.toList τs hts hA a1w (λ j t v hj Ic => .inr ⟨base,a0i j t v (by simpa using hj) (by simpa using Ic)⟩);have mM:=a9D PN h1 W (·<W.heap.size) args.toList Kj h3;rw[show args.toList.toArray=args by simp] at mM;refine mM.mono λ e W'=>?_;rintro⟨x,S',res,rfl,rfl,jF,hS1,hS2,XP⟩;have hx:x = .bool true:=by
  have hx:gM W' S' ⟨.bool,true⟩ x:=XP;have hx:[x]=[Value.bool true]:=hx;simpa using hx
 subst hx;have hb:Below W.heap.size W W':=⟨jF.os,jF.tape,jF.output,jF.size,λ k hk=>jF.block k hk (λ h=>h)⟩;refine⟨_,rfl,a0A (pa:=p) (pv:=[]) hW' ?_ ?_ ?_ hpq hb ?_⟩
 .intro b sp hd;rw[hs _ (by simpa using h2),hr];exact trodAll_mk1 ⟨1,by
   have hu:prog.underlying Yl=some .bool:=by kernel_rfl
   simp only[DataW.trod,Value.cells];rw[hu]⟩
 .intro sp YY;rw[hs _ (by simpa using h2),List.append_nil];have bX:∀ x∈before,x.block<W.heap.size:=λ x hx=>hW'.lt x hx;rw[hpq] at bX YY;exact Lq hb _ YX hA (λ x hx=>bX x (by simp[hx])) (λ x hx=>YY x (by simp[hx]))
 .intro sp YY;rw[hs _ (by simpa using h2),Vj];rfl
 .refine ok_one hr rfl ?_;have hu:prog.underlying Yl=some .bool:=by kernel_rfl
  simp[Value.okWide,hu,Cell.okWide,Cell.ok]
end
end Go.Proofs.YtmjfpcajohhbeaaGreatDoor

namespace Go.Proofs.YtmjfpcajohhbeaaGreatDoor
def aj{α:Type}(f:α->Nat):List α->Nat
 | []=>0
 | x::xs=>f x+aj f xs
section
variable {α:Type} (f:α->Nat)
theorem jB(d:α):∀ (xs:List α) (k:Nat),k<xs.length->aj f (xs.take (k+1))=aj f (xs.take k)+f (xs.getD k d)
 | [],k,h=>by simp at h
 | x::xs,0,h=>by simp[aj]
 | x::xs,k+1,h=>by
  have:=jB d xs k (by simpa using h);simp[aj] at this ⊢;omega
theorem cJ:∀ (xs:List α) (k:Nat),aj f (xs.take k)<=aj f xs
 | [],k=>by simp
 | x::xs,0=>by simp[aj]
 | x::xs,k+1=>by
  have:=cJ xs k;simp[aj];omega
theorem ou(xs:List α)(k:Nat):xs.length<=k->aj f (xs.take k)=aj f xs:=λ h=>by rw[b1v h]
theorem pT(xs:List α):aj f (xs.take 0)=0:=by simp[aj]
theorem pS(d:α):∀ (xs:List α) (k:Nat),k<xs.length->f (xs.getD k d)<=aj f xs
 | [],k,h=>by simp at h
 | x::xs,0,h=>by simp[aj]
 | x::xs,k+1,h=>by
  have:=pS d xs k (by simpa using h);simp[aj] at this ⊢;omega
end
def bQ(t:Nat)(left:Int):Int:=if (t:Int)<=left then left - t else -1
theorem eY(t:Nat)(left:Int):((t:Int)<=left/\bQ t left=left - t)\/(left<(t:Int)/\bQ t left = -1):=by
 unfold bQ;split
 .exact .inl ⟨by assumption,rfl⟩
 .exact .inr ⟨by omega,rfl⟩
noncomputable def bT{α:Type}(a b:α):Bool := @decide (a=b) (Classical.propDecidable _)
theorem rl{α:Type}{a b:α}(h:a=b):true=bT a b:=by simp[bT,h]
theorem iN{α:Type}{a b:α}(h:a≠b):false=bT a b:=by simp[bT,h]
@[simp] theorem zH{α:Type}{a b:α}:bT a b=true↔a=b:=by simp[bT]
@[simp] theorem a3r{α:Type}{a b:α}:bT a b=false↔a≠b:=by simp[bT]
@[simp] theorem a8I{α:Type}{a:α}:bT a a=true:=by simp[bT]
section
variable {α:Type}
theorem fM(d:α):∀ (xs:List α) (k:Nat),k<xs.length->xs.take (k+1)=xs.take k++[xs.getD k d]
 | [],k,h=>by simp at h
 | x::xs,0,h=>by simp
 | x::xs,k+1,h=>by
  have:=fM d xs k (by simpa using h);simp at this ⊢;exact this
theorem jM(d:α)(xs ys:List α)(k:Nat)(h1:k<xs.length)(h2:k<ys.length)(h:xs.take k=ys.take k)(e:xs.getD k d=ys.getD k d):xs.take (k+1)=ys.take (k+1):=by
 rw[fM d xs k h1,fM d ys k h2,h,e]
theorem eA(xs ys:List α)(k:Nat)(h1:xs.length<=k)(h2:ys.length<=k)(h:xs.take k=ys.take k):xs=ys:=by
 rwa [b1v h1,b1v h2] at h
def fill(xs:List α)(k:Nat)(z:α):List α:=xs.take k++List.replicate (xs.length - k) z
theorem qv(xs:List α)(z:α):List.replicate xs.length z=fill xs 0 z:=by simp[fill]
theorem im(xs:List α)(z:α)(k:Nat)(h:xs.length<=k):fill xs k z=xs:=by
 simp[fill,b1v h,Nat.sub_eq_zero_of_le h]
theorem mC(xs:List α)(z:α)(k:Nat):k<=xs.length->(fill xs k z).length=xs.length:=by
 intro h;simp[fill];omega
theorem iq(xs:List α)(z d:α)(k:Nat)(h:k<xs.length):(fill xs k z).set k (xs.getD k d)=fill xs (k+1) z:=by
 unfold fill;rw[fM d xs k h,List.set_append_right _ _ (by simp;omega)];have e:xs.length - k=(xs.length - (k+1))+1:=by omega
 have e2:(List.take k xs).length=k:=by simp;omega
 rw[e2,Nat.sub_self,e,b2H,b3V];simp
end
def kf{α:Type}(f:α->Nat):List α->Nat
 | []=>0
 | x::xs=>max (f x) (kf f xs)
section
variable {α:Type} (f:α->Nat)
theorem vS(d:α):∀ (xs:List α) (k:Nat),k<xs.length->kf f (xs.take (k+1))=max (kf f (xs.take k)) (f (xs.getD k d))
 | [],k,h=>by simp at h
 | x::xs,0,h=>by simp[kf]
 | x::xs,k+1,h=>by
  have:=vS d xs k (by simpa using h);simp[kf] at this ⊢;omega
theorem mO:∀ (xs:List α) (k:Nat),kf f (xs.take k)<=kf f xs
 | [],k=>by simp
 | x::xs,0=>by simp[kf]
 | x::xs,k+1=>by
  have:=mO xs k;simp[kf];omega
theorem Es(xs:List α)(k:Nat):xs.length<=k->kf f (xs.take k)=kf f xs:=λ h=>by rw[b1v h]
theorem VA(xs:List α):kf f (xs.take 0)=0:=by simp[kf]
theorem vR(d:α):∀ (xs:List α) (k:Nat),k<xs.length->f (xs.getD k d)<=kf f xs
 | [],k,h=>by simp at h
 | x::xs,0,h=>by simp[kf];omega
 | x::xs,k+1,h=>by
  have:=vR d xs k (by simpa using h);simp[kf] at this ⊢;omega
end
def bE{α:Type}(f:α->Bool):List α->Bool
 | []=>true
 | x::xs=>f x&&bE f xs
section
variable {α:Type} (f:α->Bool)
theorem NA:∀ (xs ys:List α),bE f (xs++ys)=(bE f xs&&bE f ys)
 | [],ys=>by simp[bE]
 | x::xs,ys=>by simp[bE,NA xs ys,b3U]
theorem dU(d:α)(xs:List α)(k:Nat)(h:k<xs.length):bE f (xs.take (k+1))=(bE f (xs.take k)&&f (xs.getD k d)):=by
 rw[fM d xs k h,NA];simp[bE]
theorem eZ(d:α):∀ (xs:List α) (k:Nat),k<xs.length->f (xs.getD k d)=false->bE f xs=false
 | [],k,h,_=>by simp at h
 | x::xs,0,h,e=>by simp at e;simp[bE,e]
 | x::xs,k+1,h,e=>by
  have:=eZ d xs k (by simpa using h) (by simpa using e);simp[bE,this]
theorem fR(xs:List α)(k:Nat):xs.length<=k->bE f (xs.take k)=bE f xs:=λ h=>by rw[b1v h]
theorem all_zero(xs:List α):bE f (xs.take 0)=true:=by simp[bE]
theorem Xf(d:α):∀ (xs:List α) (k:Nat),k<xs.length->bE f xs=true->f (xs.getD k d)=true
 | [],k,h,_=>by simp at h
 | x::xs,0,h,e=>by simp[bE] at e;simp[e.1]
 | x::xs,k+1,h,e=>by
  simp only[bE,Bool.and_eq_true] at e;have:=Xf d xs k (by simpa using h) e.2;simpa using this
end
end Go.Proofs.YtmjfpcajohhbeaaGreatDoor

set_option maxRecDepth 4000
set_option maxHeartbeats 4000000
namespace Go.Proofs.YtmjfpcajohhbeaaGreatDoor
noncomputable section
mutual
def aw:J->Nat
 | ⟨_,_,M⟩=>M.length+zg M
def zg:List J->Nat
 | []=>0
 | k::ks=>aw k+zg ks
end
def FC:∀ xs,zg xs=aj aw xs
 | []=>rfl
 | x::xs=>by rw[zg,aj,FC xs]
def qU(x:J):aw x=(x.M.length+aj aw x.M):=by
 cases x;simp[aw,FC];try omega
def pD(n:Nat):aQ:=⟨vd,[.v (.st .expr), .v (.int .i64)],λ (x:J) (left:Int)=>⟨(some (cA x<n/\0<=left/\left<=1048576),[⟨(.int .i64),bQ (aw x) left⟩])⟩⟩
def kY:aQ:=⟨vd,[.v (.st .expr), .v (.int .i64)],λ (x:J) (left:Int)=>⟨(some (0<=left/\left<=1048576),[⟨(.int .i64),bQ (aw x) left⟩])⟩⟩
def nT(n:Nat):aQ:=⟨s9,[.v (.slice (.st .expr)), .v (.int .i64)],λ (xs:List J) (left:Int)=>⟨(some (cA xs<n/\0<=left/\left<=1048576),[⟨(.int .i64),bQ (xs.length+aj aw xs) left⟩])⟩⟩
def sS:aQ:=⟨s9,[.v (.slice (.st .expr)), .v (.int .i64)],λ (xs:List J) (left:Int)=>⟨(some (0<=left/\left<=1048576),[⟨(.int .i64),bQ (xs.length+aj aw xs) left⟩])⟩⟩
def Iv(x:J)(left:Int):Nat->aM:=λ _ => .none
def Tx(n:Nat)(x:J)(left:Int):ck (aZ [nT n] [] [] [2]) (az nt) (Iv x left) 0 (bx (aZ [nT n] [] [] [2]) nt λ r=>bB r [⟨(.int .i64),bQ (aw x) left⟩]) (aL nt [.val ⟨(.st .expr),x⟩, .val ⟨(.int .i64),left⟩]) =
 ((x.M.length<=140737488355328 ->
 ((cA x.M<n/\0<=left/\left<=1048576)/\(U (bQ (x.M.length+aj aw x.M) left) ->
 (((decide ((bQ (x.M.length+aj aw x.M) left)<(0:Int)))=true ->
 (-1:Int)=(bQ (aw x) left))/\((decide ((bQ (x.M.length+aj aw x.M) left)<(0:Int)))=false ->
 (bQ (x.M.length+aj aw x.M) left)=(bQ (aw x) left))))))):=by kernel_rfl
def Th(n:Nat)(hE:aI [nT n]):aQ.Good (pD (n+1)):=by
 refine⟨aA sM rfl (by decide),?_⟩;show ∀ (x:J) (left:Int),(cA x<n+1/\0<=left/\left<=1048576)->bC prog vd [.val ⟨(.st .expr),x⟩, .val ⟨(.int .i64),left⟩] (·=[⟨(.int .i64),bQ (aw x) left⟩]);intro x left hp;refine bg (wr:=[]) (cl:=[]) (ro:=[2]) hE sM NW (Iv x left) ?_;rewrite [Tx n x left];have f0:=eY (x.M.length+aj aw x.M) (left);have fz:=eY ((x.M.length+aj aw x.M)) left;have f0k:=dX x;refine λ _=>⟨?_,λ _=>⟨λ _=>?_,λ _=>?_⟩⟩;all_goals try and_intros
 all_goals try rw[qU]
 all_goals first|rfl|trivial|omega|(simp only[b0N,b0M,aC,U,cb,cM,ca,bF] at *;omega)|(simp[aC,U] at *;omega)|grind
def Gi(xs:List J)(left:Int):Nat->aM:=(λ zb=>if Nat.beq zb 0 then .mk (Nat) (λ k=>k<=xs.length/\(xs.length+aj aw (xs.take k):Int)<=left) (λ k=>xs.length - k) [] [2,3,6,7,8,9,10,11] (λ k=>[(5, .aT ⟨(.int .i64),((k:Int):Int)⟩),(1, .aT ⟨(.int .i64),(left - (xs.length+aj aw (xs.take k):Int):Int)⟩)]) [0,1,4,5,12,13,14,15,16,17,18,19,20,21,22,23,24,25,26] (λ k=>[]) [] [] (λ k=>λ _ => .none) else .none)
def Rt(n:Nat)(xs:List J)(left:Int):ck (aZ [pD n]) (az lN) (Gi xs left) 0 (bx (aZ [pD n]) lN λ r=>bB r [⟨(.int .i64),bQ (xs.length+aj aw xs) left⟩]) (aL lN [.val ⟨(.slice (.st .expr)),xs⟩, .val ⟨(.int .i64),left⟩]) =
 ((U ((xs.length:Int)) ->
 (U (left - ((xs.length:Int)))/\(((decide ((left - ((xs.length:Int)))<(0:Int)))=true ->
 (-1:Int)=(bQ (xs.length+aj aw xs) left))/\((decide ((left - ((xs.length:Int)))<(0:Int)))=false ->
 ((∃ k1:Nat,((k1<=xs.length/\(xs.length+aj aw (xs.take k1):Int)<=left)/\((xs=xs/\((left - ((xs.length:Int)))=(left - (xs.length+aj aw (xs.take k1):Int))/\((0:Int)=(k1:Int)/\True)))/\True)))/\(∀ k1:Nat,((k1<=xs.length/\(xs.length+aj aw (xs.take k1):Int)<=left) ->
 (U ((xs.length:Int)) ->
 (((decide ((k1:Int)<((xs.length:Int))))=true ->
 (aC (k1:Int) xs.length/\((cA (xs.getD k1 zE)<n/\0<=(left - (xs.length+aj aw (xs.take k1):Int))/\(left - (xs.length+aj aw (xs.take k1):Int))<=1048576)/\(U (bQ (aw (xs.getD k1 zE)) (left - (xs.length+aj aw (xs.take k1):Int))) ->
 (((decide ((bQ (aw (xs.getD k1 zE)) (left - (xs.length+aj aw (xs.take k1):Int)))<(0:Int)))=true ->
 (-1:Int)=(bQ (xs.length+aj aw xs) left))/\((decide ((bQ (aw (xs.getD k1 zE)) (left - (xs.length+aj aw (xs.take k1):Int)))<(0:Int)))=false ->
 (U ((k1:Int)+(1:Int))/\(∃ k2:Nat,((k2<=xs.length/\(xs.length+aj aw (xs.take k2):Int)<=left)/\(xs.length - k2<xs.length - k1/\((xs=xs/\((bQ (aw (xs.getD k1 zE)) (left - (xs.length+aj aw (xs.take k1):Int)))=(left - (xs.length+aj aw (xs.take k2):Int))/\(((k1:Int)+(1:Int))=(k2:Int)/\True)))/\True)))))))))))/\((decide ((k1:Int)<((xs.length:Int))))=false ->
 (left - (xs.length+aj aw (xs.take k1):Int))=(bQ (xs.length+aj aw xs) left)))))))))))):=by kernel_rfl
def QW(n:Nat)(hE:aI [pD n]):aQ.Good (nT (n+1)):=by
 refine⟨aA qZ rfl (by decide),?_⟩;show ∀ (xs:List J) (left:Int),(cA xs<n+1/\0<=left/\left<=1048576)->bC prog s9 [.val ⟨(.slice (.st .expr)),xs⟩, .val ⟨(.int .i64),left⟩] (·=[⟨(.int .i64),bQ (xs.length+aj aw xs) left⟩]);intro xs left hp;refine bg (wr:=[]) (cl:=[]) (ro:=[]) hE qZ LF (Gi xs left) ?_;rewrite [Rt n xs left];have f0:=eY (xs.length+aj aw xs) left;have f1:=pT aw xs;refine λ _=>⟨?_,λ _=>?_,λ _=>⟨⟨0,?_,⟨rfl,?_,?_,af⟩,af⟩,λ k1 _=>have a6W:=jB aw zE xs k1;have a6X:=cJ aw xs k1;have a6Y:=cJ aw xs (k1+1);have a6Z:=ou aw xs k1;have a7a:=cx zE xs k1;have b0u:=eY (aw (xs.getD k1 zE)) (left - (xs.length+aj aw (xs.take k1):Int));λ _=>⟨λ _=>⟨?_,?_,λ _=>⟨λ _=>?_,λ _=>⟨?_,k1+1,?_,?_,⟨rfl,?_,?_,af⟩,af⟩⟩⟩,λ _=>?_⟩⟩⟩;all_goals try and_intros
 all_goals first|rfl|trivial|omega|(simp only[b0N,b0M,aC,U,cb,cM,ca,bF] at *;omega)|(simp[aC,U] at *;omega)|grind
def EK :∀ n,aI [pD n,nT n]
 | 0=>⟨⟨aA sM rfl (by decide),λ _ _ h=>absurd h.1 (b1H _)⟩,⟨aA qZ rfl (by decide),λ _ _ h=>absurd h.1 (b1H _)⟩,af⟩
 | n+1=>by
  have ih:=EK  n;exact⟨Th n ⟨ih.2.1,af⟩,QW n ⟨ih.1,af⟩,af⟩
def BE :aQ.Good kY :=
 ⟨aA sM rfl (by decide),λ x left hp=>(EK  (cA x+1)).1.2 x left (⟨b1D _,hp⟩)⟩
def L7 :aQ.Good sS :=
 ⟨aA qZ rfl (by decide),λ xs left hp=>(EK  (cA xs+1)).2.1.2 xs left (⟨b1D _,hp⟩)⟩
def nM:aQ:=⟨v7,[.v (.slice (.int .i64)), .v (.int .i64)],λ (xs:List Int) (left:Int)=>⟨(some (0<=left/\left<=1048576),[⟨(.int .i64),bQ xs.length left⟩])⟩⟩
def Ef(xs:List Int)(left:Int):Nat->aM:=λ _ => .none
def PV(xs:List Int)(left:Int):ck (aZ []) (az kB) (Ef xs left) 0 (bx (aZ []) kB λ r=>bB r [⟨(.int .i64),bQ xs.length left⟩]) (aL kB [.val ⟨(.slice (.int .i64)),xs⟩, .val ⟨(.int .i64),left⟩]) =
 ((U ((xs.length:Int)) ->
 (U (left - ((xs.length:Int)))/\(((decide ((left - ((xs.length:Int)))<(0:Int)))=true ->
 (-1:Int)=(bQ xs.length left))/\((decide ((left - ((xs.length:Int)))<(0:Int)))=false ->
 (left - ((xs.length:Int)))=(bQ xs.length left)))))):=by kernel_rfl
def Pb(hE:aI []):aQ.Good nM:=by
 refine⟨aA Bs rfl (by decide),?_⟩;show ∀ (xs:List Int) (left:Int),(0<=left/\left<=1048576)->bC prog v7 [.val ⟨(.slice (.int .i64)),xs⟩, .val ⟨(.int .i64),left⟩] (·=[⟨(.int .i64),bQ xs.length left⟩]);intro xs left hp;refine bg (wr:=[]) (cl:=[]) (ro:=[]) hE Bs JU (Ef xs left) ?_;rewrite [PV xs left];have f0:=eY xs.length left;refine λ _=>⟨?_,λ _=>?_,λ _=>?_⟩;all_goals try and_intros
 all_goals first|rfl|trivial|omega|(simp only[b0N,b0M,aC,U,cb,cM,ca,bF] at *;omega)|(simp[aC,U] at *;omega)|grind
def J8:aQ.Good nM:=Pb trivial
def aK(x:O):Nat:=(x.path.length)+(x.ar.length+aj aw x.ar)+(x.bo.length+aj aw x.bo)
def ov(x:O):aK x=(x.path.length)+(x.ar.length+aj aw x.ar)+(x.bo.length+aj aw x.bo):=rfl
def eF:aQ:=⟨sa,[.v (.st .proofStep), .v (.int .i64)],λ (x:O) (left:Int)=>⟨(some (0<=left/\left<=1048576),[⟨(.int .i64),bQ (aK x) left⟩])⟩⟩
def yB(x:O)(left:Int):Nat->aM:=λ _ => .none
def Jf(x:O)(left:Int):ck (aZ [nM,sS] [] [] [2]) (az il) (yB x left) 0 (bx (aZ [nM,sS] [] [] [2]) il λ r=>bB r [⟨(.int .i64),bQ (aK x) left⟩]) (aL il [.val ⟨(.st .proofStep),x⟩, .val ⟨(.int .i64),left⟩]) =
 ((x.path.length<=140737488355328 ->
 ((0<=left/\left<=1048576)/\(U (bQ x.path.length left) ->
 (((decide ((bQ x.path.length left)<(0:Int)))=true ->
 (-1:Int)=(bQ (aK x) left))/\((decide ((bQ x.path.length left)<(0:Int)))=false ->
 (x.ar.length<=140737488355328 ->
 ((0<=(bQ x.path.length left)/\(bQ x.path.length left)<=1048576)/\(U (bQ (x.ar.length+aj aw x.ar) (bQ x.path.length left)) ->
 (((decide ((bQ (x.ar.length+aj aw x.ar) (bQ x.path.length left))<(0:Int)))=true ->
 (-1:Int)=(bQ (aK x) left))/\((decide ((bQ (x.ar.length+aj aw x.ar) (bQ x.path.length left))<(0:Int)))=false ->
 (x.bo.length<=140737488355328 ->
 ((0<=(bQ (x.ar.length+aj aw x.ar) (bQ x.path.length left))/\(bQ (x.ar.length+aj aw x.ar) (bQ x.path.length left))<=1048576)/\(U (bQ (x.bo.length+aj aw x.bo) (bQ (x.ar.length+aj aw x.ar) (bQ x.path.length left))) ->
 (((decide ((bQ (x.bo.length+aj aw x.bo) (bQ (x.ar.length+aj aw x.ar) (bQ x.path.length left)))<(0:Int)))=true ->
 (-1:Int)=(bQ (aK x) left))/\((decide ((bQ (x.bo.length+aj aw x.bo) (bQ (x.ar.length+aj aw x.ar) (bQ x.path.length left)))<(0:Int)))=false ->
 (bQ (x.bo.length+aj aw x.bo) (bQ (x.ar.length+aj aw x.ar) (bQ x.path.length left)))=(bQ (aK x) left))))))))))))))))):=by kernel_rfl
def IW(hE:aI [nM,sS]):aQ.Good eF:=by
 refine⟨aA wO rfl (by decide),?_⟩;show ∀ (x:O) (left:Int),(0<=left/\left<=1048576)->bC prog sa [.val ⟨(.st .proofStep),x⟩, .val ⟨(.int .i64),left⟩] (·=[⟨(.int .i64),bQ (aK x) left⟩]);intro x left hp;refine bg (wr:=[]) (cl:=[]) (ro:=[2]) hE wO EV (yB x left) ?_;rewrite [Jf x left];have f0:=eY (x.path.length) (left);have f1:=eY (x.ar.length+aj aw x.ar) (bQ (x.path.length) left);have f2:=eY (x.bo.length+aj aw x.bo) (bQ (x.ar.length+aj aw x.ar) (bQ (x.path.length) left));have fz:=eY ((x.path.length)+(x.ar.length+aj aw x.ar)+(x.bo.length+aj aw x.bo)) left;refine λ _=>⟨?_,λ _=>⟨λ _=>?_,λ _ _=>⟨?_,λ _=>⟨λ _=>?_,λ _ _=>⟨?_,λ _=>⟨λ _=>?_,λ _=>?_⟩⟩⟩⟩⟩⟩;all_goals try and_intros
 all_goals try rw[ov]
 all_goals first|rfl|trivial|omega|(simp only[b0N,b0M,aC,U,cb,cM,ca,bF] at *;omega)|(simp[aC,U] at *;omega)|grind
def uy:aQ.Good eF:=IW ⟨J8,L7,af⟩
def jb:aQ:=⟨qO,[.v (.slice (.st .proofStep)), .v (.int .i64)],λ (xs:List O) (left:Int)=>⟨(some (0<=left/\left<=1048576),[⟨(.int .i64),bQ (xs.length+aj aK xs) left⟩])⟩⟩
def xl(xs:List O)(left:Int):Nat->aM:=(λ zb=>if Nat.beq zb 0 then .mk (Nat) (λ k=>k<=xs.length/\(xs.length+aj aK (xs.take k):Int)<=left) (λ k=>xs.length - k) [] [2,3,6,7,8,9,10,11] (λ k=>[(5, .aT ⟨(.int .i64),((k:Int):Int)⟩),(1, .aT ⟨(.int .i64),(left - (xs.length+aj aK (xs.take k):Int):Int)⟩)]) [0,1,4,5,12,13,14,15,16,17,18,19,20,21,22,23,24,25,26] (λ k=>[]) [] [] (λ k=>λ _ => .none) else .none)
def Hk(xs:List O)(left:Int):ck (aZ [eF]) (az gE) (xl xs left) 0 (bx (aZ [eF]) gE λ r=>bB r [⟨(.int .i64),bQ (xs.length+aj aK xs) left⟩]) (aL gE [.val ⟨(.slice (.st .proofStep)),xs⟩, .val ⟨(.int .i64),left⟩]) =
 ((U ((xs.length:Int)) ->
 (U (left - ((xs.length:Int)))/\(((decide ((left - ((xs.length:Int)))<(0:Int)))=true ->
 (-1:Int)=(bQ (xs.length+aj aK xs) left))/\((decide ((left - ((xs.length:Int)))<(0:Int)))=false ->
 ((∃ k1:Nat,((k1<=xs.length/\(xs.length+aj aK (xs.take k1):Int)<=left)/\((xs=xs/\((left - ((xs.length:Int)))=(left - (xs.length+aj aK (xs.take k1):Int))/\((0:Int)=(k1:Int)/\True)))/\True)))/\(∀ k1:Nat,((k1<=xs.length/\(xs.length+aj aK (xs.take k1):Int)<=left) ->
 (U ((xs.length:Int)) ->
 (((decide ((k1:Int)<((xs.length:Int))))=true ->
 (aC (k1:Int) xs.length/\((0<=(left - (xs.length+aj aK (xs.take k1):Int))/\(left - (xs.length+aj aK (xs.take k1):Int))<=1048576)/\(U (bQ (aK (xs.getD k1 (O.mk (0:Int) false [] [] []))) (left - (xs.length+aj aK (xs.take k1):Int))) ->
 (((decide ((bQ (aK (xs.getD k1 (O.mk (0:Int) false [] [] []))) (left - (xs.length+aj aK (xs.take k1):Int)))<(0:Int)))=true ->
 (-1:Int)=(bQ (xs.length+aj aK xs) left))/\((decide ((bQ (aK (xs.getD k1 (O.mk (0:Int) false [] [] []))) (left - (xs.length+aj aK (xs.take k1):Int)))<(0:Int)))=false ->
 (U ((k1:Int)+(1:Int))/\(∃ k2:Nat,((k2<=xs.length/\(xs.length+aj aK (xs.take k2):Int)<=left)/\(xs.length - k2<xs.length - k1/\((xs=xs/\((bQ (aK (xs.getD k1 (O.mk (0:Int) false [] [] []))) (left - (xs.length+aj aK (xs.take k1):Int)))=(left - (xs.length+aj aK (xs.take k2):Int))/\(((k1:Int)+(1:Int))=(k2:Int)/\True)))/\True)))))))))))/\((decide ((k1:Int)<((xs.length:Int))))=false ->
 (left - (xs.length+aj aK (xs.take k1):Int))=(bQ (xs.length+aj aK xs) left)))))))))))):=by kernel_rfl
def Ha(hE:aI [eF]):aQ.Good jb:=by
 refine⟨aA vt rfl (by decide),?_⟩;show ∀ (xs:List O) (left:Int),(0<=left/\left<=1048576)->bC prog qO [.val ⟨(.slice (.st .proofStep)),xs⟩, .val ⟨(.int .i64),left⟩] (·=[⟨(.int .i64),bQ (xs.length+aj aK xs) left⟩]);intro xs left hp;refine bg (wr:=[]) (cl:=[]) (ro:=[]) hE vt DC (xl xs left) ?_;rewrite [Hk xs left];have f0:=eY (xs.length+aj aK xs) left;have f1:=pT aK xs;refine λ _=>⟨?_,λ _=>?_,λ _=>⟨⟨0,?_,⟨rfl,?_,?_,af⟩,af⟩,λ k1 _=>have a6W:=jB aK (O.mk (0:Int) false [] [] []) xs k1;have a6X:=cJ aK xs k1;have a6Y:=cJ aK xs (k1+1);have a6Z:=ou aK xs k1;have a7a:=eY (aK (xs.getD k1 (O.mk (0:Int) false [] [] []))) (left - (xs.length+aj aK (xs.take k1):Int));λ _=>⟨λ _=>⟨?_,?_,λ _=>⟨λ _=>?_,λ _=>⟨?_,k1+1,?_,?_,⟨rfl,?_,?_,af⟩,af⟩⟩⟩,λ _=>?_⟩⟩⟩;all_goals try and_intros
 all_goals first|rfl|trivial|omega|(simp only[b0N,b0M,aC,U,cb,cM,ca,bF] at *;omega)|(simp[aC,U] at *;omega)|grind
def DP:aQ.Good jb:=Ha ⟨uy,af⟩
def bD(x:ae):Nat:=(aw x.left)+(aw x.right)+(x.steps.length+aj aK x.steps)
def yY(x:ae):bD x=(aw x.left)+(aw x.right)+(x.steps.length+aj aK x.steps):=rfl
def pq:aQ:=⟨xW,[.v (.st .claim), .v (.int .i64)],λ (x:ae) (left:Int)=>⟨(some (0<=left/\left<=1048576),[⟨(.int .i64),bQ (bD x) left⟩])⟩⟩
def Gg(x:ae)(left:Int):Nat->aM:=λ _ => .none
def Rs(x:ae)(left:Int):ck (aZ [kY,jb] [] [] [2]) (az lM) (Gg x left) 0 (bx (aZ [kY,jb] [] [] [2]) lM λ r=>bB r [⟨(.int .i64),bQ (bD x) left⟩]) (aL lM [.val ⟨(.st .claim),x⟩, .val ⟨(.int .i64),left⟩]) =
 (((0<=left/\left<=1048576)/\(U (bQ (aw x.left) left) ->
 (((decide ((bQ (aw x.left) left)<(0:Int)))=true ->
 (-1:Int)=(bQ (bD x) left))/\((decide ((bQ (aw x.left) left)<(0:Int)))=false ->
 ((0<=(bQ (aw x.left) left)/\(bQ (aw x.left) left)<=1048576)/\(U (bQ (aw x.right) (bQ (aw x.left) left)) ->
 (((decide ((bQ (aw x.right) (bQ (aw x.left) left))<(0:Int)))=true ->
 (-1:Int)=(bQ (bD x) left))/\((decide ((bQ (aw x.right) (bQ (aw x.left) left))<(0:Int)))=false ->
 (x.steps.length<=140737488355328 ->
 ((0<=(bQ (aw x.right) (bQ (aw x.left) left))/\(bQ (aw x.right) (bQ (aw x.left) left))<=1048576)/\(U (bQ (x.steps.length+aj aK x.steps) (bQ (aw x.right) (bQ (aw x.left) left))) ->
 (((decide ((bQ (x.steps.length+aj aK x.steps) (bQ (aw x.right) (bQ (aw x.left) left)))<(0:Int)))=true ->
 (-1:Int)=(bQ (bD x) left))/\((decide ((bQ (x.steps.length+aj aK x.steps) (bQ (aw x.right) (bQ (aw x.left) left)))<(0:Int)))=false ->
 (bQ (x.steps.length+aj aK x.steps) (bQ (aw x.right) (bQ (aw x.left) left)))=(bQ (bD x) left))))))))))))))):=by kernel_rfl
def QV(hE:aI [kY,jb]):aQ.Good pq:=by
 refine⟨aA Dp rfl (by decide),?_⟩;show ∀ (x:ae) (left:Int),(0<=left/\left<=1048576)->bC prog xW [.val ⟨(.st .claim),x⟩, .val ⟨(.int .i64),left⟩] (·=[⟨(.int .i64),bQ (bD x) left⟩]);intro x left hp;refine bg (wr:=[]) (cl:=[]) (ro:=[2]) hE Dp LD (Gg x left) ?_;rewrite [Rs x left];have f0:=eY (aw x.left) (left);have f1:=eY (aw x.right) (bQ (aw x.left) left);have f2:=eY (x.steps.length+aj aK x.steps) (bQ (aw x.right) (bQ (aw x.left) left));have fz:=eY ((aw x.left)+(aw x.right)+(x.steps.length+aj aK x.steps)) left;refine⟨?_,λ _=>⟨λ _=>?_,λ _=>⟨?_,λ _=>⟨λ _=>?_,λ _ _=>⟨?_,λ _=>⟨λ _=>?_,λ _=>?_⟩⟩⟩⟩⟩⟩;all_goals try and_intros
 all_goals try rw[yY]
 all_goals first|rfl|trivial|omega|(simp only[b0N,b0M,aC,U,cb,cM,ca,bF] at *;omega)|(simp[aC,U] at *;omega)|grind
def L6:aQ.Good pq:=QV ⟨BE,DP,af⟩
def nL:aQ:=⟨vZ,[.v (.slice (.st .claim)), .v (.int .i64)],λ (xs:List ae) (left:Int)=>⟨(some (0<=left/\left<=1048576),[⟨(.int .i64),bQ (xs.length+aj bD xs) left⟩])⟩⟩
def Ee(xs:List ae)(left:Int):Nat->aM:=(λ zb=>if Nat.beq zb 0 then .mk (Nat) (λ k=>k<=xs.length/\(xs.length+aj bD (xs.take k):Int)<=left) (λ k=>xs.length - k) [] [2,3,6,7,8,9,10,11] (λ k=>[(5, .aT ⟨(.int .i64),((k:Int):Int)⟩),(1, .aT ⟨(.int .i64),(left - (xs.length+aj bD (xs.take k):Int):Int)⟩)]) [0,1,4,5,12,13,14,15,16,17,18,19,20,21,22,23,24,25,26] (λ k=>[]) [] [] (λ k=>λ _ => .none) else .none)
def PU(xs:List ae)(left:Int):ck (aZ [pq]) (az kz) (Ee xs left) 0 (bx (aZ [pq]) kz λ r=>bB r [⟨(.int .i64),bQ (xs.length+aj bD xs) left⟩]) (aL kz [.val ⟨(.slice (.st .claim)),xs⟩, .val ⟨(.int .i64),left⟩]) =
 ((U ((xs.length:Int)) ->
 (U (left - ((xs.length:Int)))/\(((decide ((left - ((xs.length:Int)))<(0:Int)))=true ->
 (-1:Int)=(bQ (xs.length+aj bD xs) left))/\((decide ((left - ((xs.length:Int)))<(0:Int)))=false ->
 ((∃ k1:Nat,((k1<=xs.length/\(xs.length+aj bD (xs.take k1):Int)<=left)/\((xs=xs/\((left - ((xs.length:Int)))=(left - (xs.length+aj bD (xs.take k1):Int))/\((0:Int)=(k1:Int)/\True)))/\True)))/\(∀ k1:Nat,((k1<=xs.length/\(xs.length+aj bD (xs.take k1):Int)<=left) ->
 (U ((xs.length:Int)) ->
 (((decide ((k1:Int)<((xs.length:Int))))=true ->
 (aC (k1:Int) xs.length/\((0<=(left - (xs.length+aj bD (xs.take k1):Int))/\(left - (xs.length+aj bD (xs.take k1):Int))<=1048576)/\(U (bQ (bD (xs.getD k1 (ae.mk zE zE (0:Int) (0:Int) []))) (left - (xs.length+aj bD (xs.take k1):Int))) ->
 (((decide ((bQ (bD (xs.getD k1 (ae.mk zE zE (0:Int) (0:Int) []))) (left - (xs.length+aj bD (xs.take k1):Int)))<(0:Int)))=true ->
 (-1:Int)=(bQ (xs.length+aj bD xs) left))/\((decide ((bQ (bD (xs.getD k1 (ae.mk zE zE (0:Int) (0:Int) []))) (left - (xs.length+aj bD (xs.take k1):Int)))<(0:Int)))=false ->
 (U ((k1:Int)+(1:Int))/\(∃ k2:Nat,((k2<=xs.length/\(xs.length+aj bD (xs.take k2):Int)<=left)/\(xs.length - k2<xs.length - k1/\((xs=xs/\((bQ (bD (xs.getD k1 (ae.mk zE zE (0:Int) (0:Int) []))) (left - (xs.length+aj bD (xs.take k1):Int)))=(left - (xs.length+aj bD (xs.take k2):Int))/\(((k1:Int)+(1:Int))=(k2:Int)/\True)))/\True)))))))))))/\((decide ((k1:Int)<((xs.length:Int))))=false ->
 (left - (xs.length+aj bD (xs.take k1):Int))=(bQ (xs.length+aj bD xs) left)))))))))))):=by kernel_rfl
def Pa(hE:aI [pq]):aQ.Good nL:=by
 refine⟨aA Br rfl (by decide),?_⟩;show ∀ (xs:List ae) (left:Int),(0<=left/\left<=1048576)->bC prog vZ [.val ⟨(.slice (.st .claim)),xs⟩, .val ⟨(.int .i64),left⟩] (·=[⟨(.int .i64),bQ (xs.length+aj bD xs) left⟩]);intro xs left hp;refine bg (wr:=[]) (cl:=[]) (ro:=[]) hE Br JT (Ee xs left) ?_;rewrite [PU xs left];have f0:=eY (xs.length+aj bD xs) left;have f1:=pT bD xs;refine λ _=>⟨?_,λ _=>?_,λ _=>⟨⟨0,?_,⟨rfl,?_,?_,af⟩,af⟩,λ k1 _=>have a6W:=jB bD (ae.mk zE zE (0:Int) (0:Int) []) xs k1;have a6X:=cJ bD xs k1;have a6Y:=cJ bD xs (k1+1);have a6Z:=ou bD xs k1;have a7a:=eY (bD (xs.getD k1 (ae.mk zE zE (0:Int) (0:Int) []))) (left - (xs.length+aj bD (xs.take k1):Int));λ _=>⟨λ _=>⟨?_,?_,λ _=>⟨λ _=>?_,λ _=>⟨?_,k1+1,?_,?_,⟨rfl,?_,?_,af⟩,af⟩⟩⟩,λ _=>?_⟩⟩⟩;all_goals try and_intros
 all_goals first|rfl|trivial|omega|(simp only[b0N,b0M,aC,U,cb,cM,ca,bF] at *;omega)|(simp[aC,U] at *;omega)|grind
def J7:aQ.Good nL:=Pa ⟨L6,af⟩
def cX(x:aB):Nat:=(x.aq.length+aj bD x.aq)
def yZ(x:aB):cX x=(x.aq.length+aj bD x.aq):=rfl
def pr:aQ:=⟨xX,[.v (.st .proof), .v (.int .i64)],λ (x:aB) (left:Int)=>⟨(some (0<=left/\left<=1048576),[⟨(.int .i64),bQ (cX x) left⟩])⟩⟩
def Gj(x:aB)(left:Int):Nat->aM:=λ _ => .none
def Ru(x:aB)(left:Int):ck (aZ [nL] [] [] [2]) (az lO) (Gj x left) 0 (bx (aZ [nL] [] [] [2]) lO λ r=>bB r [⟨(.int .i64),bQ (cX x) left⟩]) (aL lO [.val ⟨(.st .proof),x⟩, .val ⟨(.int .i64),left⟩]) =
 ((x.aq.length<=140737488355328 ->
 ((0<=left/\left<=1048576)/\(U (bQ (x.aq.length+aj bD x.aq) left) ->
 (((decide ((bQ (x.aq.length+aj bD x.aq) left)<(0:Int)))=true ->
 (-1:Int)=(bQ (cX x) left))/\((decide ((bQ (x.aq.length+aj bD x.aq) left)<(0:Int)))=false ->
 (bQ (x.aq.length+aj bD x.aq) left)=(bQ (cX x) left))))))):=by kernel_rfl
def QX(hE:aI [nL]):aQ.Good pr:=by
 refine⟨aA Dq rfl (by decide),?_⟩;show ∀ (x:aB) (left:Int),(0<=left/\left<=1048576)->bC prog xX [.val ⟨(.st .proof),x⟩, .val ⟨(.int .i64),left⟩] (·=[⟨(.int .i64),bQ (cX x) left⟩]);intro x left hp;refine bg (wr:=[]) (cl:=[]) (ro:=[2]) hE Dq LG (Gj x left) ?_;rewrite [Ru x left];have f0:=eY (x.aq.length+aj bD x.aq) (left);have fz:=eY ((x.aq.length+aj bD x.aq)) left;refine λ _=>⟨?_,λ _=>⟨λ _=>?_,λ _=>?_⟩⟩;all_goals try and_intros
 all_goals try rw[yZ]
 all_goals first|rfl|trivial|omega|(simp only[b0N,b0M,aC,U,cb,cM,ca,bF] at *;omega)|(simp[aC,U] at *;omega)|grind
def L8:aQ.Good pr:=QX ⟨J7,af⟩
end
end Go.Proofs.YtmjfpcajohhbeaaGreatDoor

set_option maxRecDepth 4000
set_option maxHeartbeats 4000000
namespace Go.Proofs.YtmjfpcajohhbeaaGreatDoor
noncomputable section
def kc:aQ:=⟨CP,[.v (.st .sig)],λ (x:aX)=>⟨(none,[⟨(.st .sig),x⟩])⟩⟩
def K9(x:aX):Nat->aM:=λ _ => .none
def Wt(x:aX):ck (aZ [] [] [] [1]) (az pN) (K9 x) 0 (bx (aZ [] [] [] [1]) pN λ r=>bB r [⟨(.st .sig),x⟩]) (aL pN [.val ⟨(.st .sig),x⟩]) =
 ((U x.ar ->
 (U x.bq ->
 x=x))):=by kernel_rfl
def VU(hE:aI []):aQ.Good kc:=by
 refine⟨aA Hw rfl (by decide),?_⟩;show ∀ (x:aX),True->bC prog CP [.val ⟨(.st .sig),x⟩] (·=[⟨(.st .sig),x⟩]);intro x _;refine bg (wr:=[]) (cl:=[]) (ro:=[1]) hE Hw Qg (K9 x) ?_;rewrite [Wt x];refine λ a0=>λ a1=>rfl;all_goals try and_intros
 all_goals first|rfl|trivial|omega|(simp only[b0N,b0M,aC,U,cb,cM,ca,bF] at *;omega)|(simp[aC,U] at *;omega)|grind
def DR:aQ.Good kc:=VU trivial
def pE(n:Nat):aQ:=⟨lj,[.v (.st .expr)],λ (x:J)=>⟨(some (cA x<n/\aw x<=1048576),[⟨(.st .expr),x⟩])⟩⟩
def kZ:aQ:=⟨lj,[.v (.st .expr)],λ (x:J)=>⟨(some (aw x<=1048576),[⟨(.st .expr),x⟩])⟩⟩
def nU(n:Nat):aQ:=⟨jI,[.v (.slice (.st .expr))],λ (xs:List J)=>⟨(some (cA xs<n/\xs.length+aj aw xs<=1048576),[⟨(.slice (.st .expr)),xs⟩])⟩⟩
def sT:aQ:=⟨jI,[.v (.slice (.st .expr))],λ (xs:List J)=>⟨(some (xs.length+aj aw xs<=1048576),[⟨(.slice (.st .expr)),xs⟩])⟩⟩
def Iw(x:J):Nat->aM:=λ _ => .none
def Tz(n:Nat)(x:J):ck (aZ [nU n] [] [] [1]) (az gR) (Iw x) 0 (bx (aZ [nU n] [] [] [1]) gR λ r=>bB r [⟨(.st .expr),x⟩]) (aL gR [.val ⟨(.st .expr),x⟩]) =
 ((U x.au ->
 (U x.aO ->
 (x.M.length<=140737488355328 ->
 ((cA x.M<n/\x.M.length+aj aw x.M<=1048576)/\(x.M.length<=140737488355328 ->
 (ag x)=x)))))):=by kernel_rfl
def Ti(n:Nat)(hE:aI [nU n]):aQ.Good (pE (n+1)):=by
 refine⟨aA iy rfl (by decide),?_⟩;show ∀ (x:J),(cA x<n+1/\aw x<=1048576)->bC prog lj [.val ⟨(.st .expr),x⟩] (·=[⟨(.st .expr),x⟩]);intro x hp;refine bg (wr:=[]) (cl:=[]) (ro:=[1]) hE iy Bx (Iw x) ?_;rewrite [Tz n x];rw[qU] at hp;have f0k:=dX x;refine λ _ _ _=>⟨?_,λ _=>?_⟩;all_goals try and_intros
 all_goals try (first|with_reducible rfl|with_reducible assumption)
 all_goals try simp only[J.eta,ae.eta,aH.eta,aU,bM,ct] at *
 all_goals first|rfl|trivial|omega|(simp only[b0N,b0M,aC,U,cb,cM,ca,bF] at *;omega)|(simp[aC,U] at *;omega)|grind
def Gl(xs:List J):Nat->aM:=(λ zb=>if Nat.beq zb 0 then .mk (Nat) (λ k=>k<=xs.length) (λ k=>xs.length - k) [] [1,5,6,7] (λ k=>[(4, .aT ⟨(.int .i64),((k:Int):Int)⟩),(3, .row 7)]) [0,2,3,4,8,9,10,11,12,13,14,15,16,17,18,19,20,21,22] (λ k=>[(7, .row Ym (.st .expr) (fill xs k zE:List J))]) [] [] (λ k=>λ _ => .none) else .none)
def Rw(n:Nat)(xs:List J):ck (aZ [pE n]) (az gl) (Gl xs) 0 (bx (aZ [pE n]) gl λ r=>bB r [⟨(.slice (.st .expr)),xs⟩]) (aL gl [.val ⟨(.slice (.st .expr)),xs⟩]) =
 ((U ((xs.length:Int)) ->
 (ca ((xs.length:Int)) ((xs.length:Int)) 40/\((∃ k1:Nat,(k1<=xs.length/\((xs=xs/\(True/\(True/\((0:Int)=(k1:Int)/\True))))/\((List.replicate (Int.toNat ((xs.length:Int))) zE)=(fill xs k1 zE)/\True))))/\(∀ k1:Nat,(k1<=xs.length ->
 (U ((xs.length:Int)) ->
 (((decide ((k1:Int)<((xs.length:Int))))=true ->
 (aC (k1:Int) xs.length/\((cA (xs.getD k1 zE)<n/\aw (xs.getD k1 zE)<=1048576)/\(aC (k1:Int) (fill xs k1 zE).length/\(U ((k1:Int)+(1:Int))/\(∃ k2:Nat,(k2<=xs.length/\(xs.length - k2<xs.length - k1/\((xs=xs/\(True/\(True/\(((k1:Int)+(1:Int))=(k2:Int)/\True))))/\(((fill xs k1 zE).set k1 (xs.getD k1 zE))=(fill xs k2 zE)/\True))))))))))/\((decide ((k1:Int)<((xs.length:Int))))=false ->
 (fill xs k1 zE)=xs))))))))):=by kernel_rfl
def QZ(n:Nat)(hE:aI [pE n]):aQ.Good (nU (n+1)):=by
 refine⟨aA gA rfl (by decide),?_⟩;show ∀ (xs:List J),(cA xs<n+1/\xs.length+aj aw xs<=1048576)->bC prog jI [.val ⟨(.slice (.st .expr)),xs⟩] (·=[⟨(.slice (.st .expr)),xs⟩]);intro xs hp;refine bg (wr:=[]) (cl:=[]) (ro:=[]) hE gA zy (Gl xs) ?_;rewrite [Rw n xs];refine λ _=>⟨?_,⟨0,?_,⟨rfl,af,af,?_,af⟩,?_,af⟩,λ k1 _=>have HA:=im xs zE k1;have HB:=mC xs zE k1;have HC:=iq xs zE zE k1;have Up:=pS aw zE xs k1;have a8J:=cx zE xs k1;λ _=>⟨λ _=>⟨?_,?_,?_,?_,k1+1,?_,?_,⟨rfl,af,af,?_,af⟩,?_,af⟩,λ _=>?_⟩⟩;all_goals try and_intros
 all_goals first|rfl|trivial|omega|(simp only[b0N,b0M,aC,U,cb,cM,ca,bF] at *;omega)|(simp[aC,U] at *;omega)|grind|exact qv xs _|(simp only[b0N,b0M] at *;first|exact iq _ _ _ _ (by omega)|exact im _ _ _ (by omega)|(simp only[ca];omega))
def EL :∀ n,aI [pE n,nU n]
 | 0=>⟨⟨aA iy rfl (by decide),λ _ h=>absurd h.1 (b1H _)⟩,⟨aA gA rfl (by decide),λ _ h=>absurd h.1 (b1H _)⟩,af⟩
 | n+1=>by
  have ih:=EL  n;exact⟨Ti n ⟨ih.2.1,af⟩,QZ n ⟨ih.1,af⟩,af⟩
def BF :aQ.Good kZ :=
 ⟨aA iy rfl (by decide),λ x hp=>(EL  (cA x+1)).1.2 x (⟨b1D _,hp⟩)⟩
def Ma :aQ.Good sT :=
 ⟨aA gA rfl (by decide),λ xs hp=>(EL  (cA xs+1)).2.1.2 xs (⟨b1D _,hp⟩)⟩
def nO:aQ:=⟨om,[.v (.slice (.int .i64))],λ (xs:List Int)=>⟨(some (xs.length<=1048576),[⟨(.slice (.int .i64)),xs⟩])⟩⟩
def Eh(xs:List Int):Nat->aM:=(λ zb=>if Nat.beq zb 0 then .mk (Nat) (λ k=>k<=xs.length) (λ k=>xs.length - k) [] [1,5,6,7] (λ k=>[(4, .aT ⟨(.int .i64),((k:Int):Int)⟩),(3, .row 7)]) [0,2,3,4,8,9,10,11,12,13,14,15,16,17,18,19,20,21] (λ k=>[(7, .row Nw (.int .i64) (fill xs k (0:Int):List Int))]) [] [] (λ k=>λ _ => .none) else .none)
def PX(xs:List Int):ck (aZ []) (az fv) (Eh xs) 0 (bx (aZ []) fv λ r=>bB r [⟨(.slice (.int .i64)),xs⟩]) (aL fv [.val ⟨(.slice (.int .i64)),xs⟩]) =
 ((U ((xs.length:Int)) ->
 (ca ((xs.length:Int)) ((xs.length:Int)) 8/\((∃ k1:Nat,(k1<=xs.length/\((xs=xs/\(True/\(True/\((0:Int)=(k1:Int)/\True))))/\((List.replicate (Int.toNat ((xs.length:Int))) (0:Int))=(fill xs k1 (0:Int))/\True))))/\(∀ k1:Nat,(k1<=xs.length ->
 (U ((xs.length:Int)) ->
 (((decide ((k1:Int)<((xs.length:Int))))=true ->
 (aC (k1:Int) xs.length/\(U (xs.getD k1 (0:Int)) ->
 (aC (k1:Int) (fill xs k1 (0:Int)).length/\(U ((k1:Int)+(1:Int))/\(∃ k2:Nat,(k2<=xs.length/\(xs.length - k2<xs.length - k1/\((xs=xs/\(True/\(True/\(((k1:Int)+(1:Int))=(k2:Int)/\True))))/\(((fill xs k1 (0:Int)).set k1 (xs.getD k1 (0:Int)))=(fill xs k2 (0:Int))/\True))))))))))/\((decide ((k1:Int)<((xs.length:Int))))=false ->
 (fill xs k1 (0:Int))=xs))))))))):=by kernel_rfl
def Pd(hE:aI []):aQ.Good nO:=by
 refine⟨aA qf rfl (by decide),?_⟩;show ∀ (xs:List Int),(xs.length<=1048576)->bC prog om [.val ⟨(.slice (.int .i64)),xs⟩] (·=[⟨(.slice (.int .i64)),xs⟩]);intro xs hp;refine bg (wr:=[]) (cl:=[]) (ro:=[]) hE qf ym (Eh xs) ?_;rewrite [PX xs];refine λ _=>⟨?_,⟨0,?_,⟨rfl,af,af,?_,af⟩,?_,af⟩,λ k1 _=>have HA:=im xs (0:Int) k1;have HB:=mC xs (0:Int) k1;have HC:=iq xs (0:Int) (0:Int) k1;λ _=>⟨λ _=>⟨?_,λ _=>⟨?_,?_,k1+1,?_,?_,⟨rfl,af,af,?_,af⟩,?_,af⟩⟩,λ _=>?_⟩⟩;all_goals try and_intros
 all_goals first|rfl|trivial|omega|(simp only[b0N,b0M,aC,U,cb,cM,ca,bF] at *;omega)|(simp[aC,U] at *;omega)|grind|exact qv xs _|(simp only[b0N,b0M] at *;first|exact iq _ _ _ _ (by omega)|exact im _ _ _ (by omega)|(simp only[ca];omega))
def Ka:aQ.Good nO:=Pd trivial
def eG:aQ:=⟨jR,[.v (.st .proofStep)],λ (x:O)=>⟨(some (aK x<=1048576),[⟨(.st .proofStep),x⟩])⟩⟩
def yC(x:O):Nat->aM:=λ _ => .none
def Jg(x:O):ck (aZ [nO,sT] [] [] [1]) (az dS) (yC x) 0 (bx (aZ [nO,sT] [] [] [1]) dS λ r=>bB r [⟨(.st .proofStep),x⟩]) (aL dS [.val ⟨(.st .proofStep),x⟩]) =
 ((U x.use ->
 (x.path.length<=140737488355328 ->
 (x.path.length<=1048576/\(x.path.length<=140737488355328 ->
 (x.ar.length<=140737488355328 ->
 (x.ar.length+aj aw x.ar<=1048576/\(x.ar.length<=140737488355328 ->
 (x.bo.length<=140737488355328 ->
 (x.bo.length+aj aw x.bo<=1048576/\(x.bo.length<=140737488355328 ->
 x=x))))))))))):=by kernel_rfl
def IX(hE:aI [nO,sT]):aQ.Good eG:=by
 refine⟨aA ma rfl (by decide),?_⟩;show ∀ (x:O),(aK x<=1048576)->bC prog jR [.val ⟨(.st .proofStep),x⟩] (·=[⟨(.st .proofStep),x⟩]);intro x hp;refine bg (wr:=[]) (cl:=[]) (ro:=[1]) hE ma uq (yC x) ?_;rewrite [Jg x];rw[ov] at hp;refine λ _ _=>⟨?_,λ _ _=>⟨?_,λ _ _=>⟨?_,λ _=>rfl⟩⟩⟩;all_goals try and_intros
 all_goals first|rfl|trivial|omega|(simp only[b0N,b0M,aC,U,cb,cM,ca,bF] at *;omega)|(simp[aC,U] at *;omega)|grind
def uz:aQ.Good eG:=IX ⟨Ka,Ma,af⟩
def jc:aQ:=⟨jg,[.v (.slice (.st .proofStep))],λ (xs:List O)=>⟨(some (xs.length+aj aK xs<=1048576),[⟨(.slice (.st .proofStep)),xs⟩])⟩⟩
def xm(xs:List O):Nat->aM:=(λ zb=>if Nat.beq zb 0 then .mk (Nat) (λ k=>k<=xs.length) (λ k=>xs.length - k) [] [1,5,6,7] (λ k=>[(4, .aT ⟨(.int .i64),((k:Int):Int)⟩),(3, .row 7)]) [0,2,3,4,8,9,10,11,12,13,14,15,16,17,18,19,20,21,22] (λ k=>[(7, .row Nv (.st .proofStep) (fill xs k (O.mk (0:Int) false [] [] []):List O))]) [] [] (λ k=>λ _ => .none) else .none)
def Hl(xs:List O):ck (aZ [eG]) (az dF) (xm xs) 0 (bx (aZ [eG]) dF λ r=>bB r [⟨(.slice (.st .proofStep)),xs⟩]) (aL dF [.val ⟨(.slice (.st .proofStep)),xs⟩]) =
 ((U ((xs.length:Int)) ->
 (ca ((xs.length:Int)) ((xs.length:Int)) 88/\((∃ k1:Nat,(k1<=xs.length/\((xs=xs/\(True/\(True/\((0:Int)=(k1:Int)/\True))))/\((List.replicate (Int.toNat ((xs.length:Int))) (O.mk (0:Int) false [] [] []))=(fill xs k1 (O.mk (0:Int) false [] [] []))/\True))))/\(∀ k1:Nat,(k1<=xs.length ->
 (U ((xs.length:Int)) ->
 (((decide ((k1:Int)<((xs.length:Int))))=true ->
 (aC (k1:Int) xs.length/\(aK (xs.getD k1 (O.mk (0:Int) false [] [] []))<=1048576/\(aC (k1:Int) (fill xs k1 (O.mk (0:Int) false [] [] [])).length/\(U ((k1:Int)+(1:Int))/\(∃ k2:Nat,(k2<=xs.length/\(xs.length - k2<xs.length - k1/\((xs=xs/\(True/\(True/\(((k1:Int)+(1:Int))=(k2:Int)/\True))))/\(((fill xs k1 (O.mk (0:Int) false [] [] [])).set k1 (xs.getD k1 (O.mk (0:Int) false [] [] [])))=(fill xs k2 (O.mk (0:Int) false [] [] []))/\True))))))))))/\((decide ((k1:Int)<((xs.length:Int))))=false ->
 (fill xs k1 (O.mk (0:Int) false [] [] []))=xs))))))))):=by kernel_rfl
def Hb(hE:aI [eG]):aQ.Good jc:=by
 refine⟨aA ly rfl (by decide),?_⟩;show ∀ (xs:List O),(xs.length+aj aK xs<=1048576)->bC prog jg [.val ⟨(.slice (.st .proofStep)),xs⟩] (·=[⟨(.slice (.st .proofStep)),xs⟩]);intro xs hp;refine bg (wr:=[]) (cl:=[]) (ro:=[]) hE ly tL (xm xs) ?_;rewrite [Hl xs];refine λ _=>⟨?_,⟨0,?_,⟨rfl,af,af,?_,af⟩,?_,af⟩,λ k1 _=>have HA:=im xs (O.mk (0:Int) false [] [] []) k1;have HB:=mC xs (O.mk (0:Int) false [] [] []) k1;have HC:=iq xs (O.mk (0:Int) false [] [] []) (O.mk (0:Int) false [] [] []) k1;have Up:=pS aK (O.mk (0:Int) false [] [] []) xs k1;λ _=>⟨λ _=>⟨?_,?_,?_,?_,k1+1,?_,?_,⟨rfl,af,af,?_,af⟩,?_,af⟩,λ _=>?_⟩⟩;all_goals try and_intros
 all_goals first|rfl|trivial|omega|(simp only[b0N,b0M,aC,U,cb,cM,ca,bF] at *;omega)|(simp[aC,U] at *;omega)|grind|exact qv xs _|(simp only[b0N,b0M] at *;first|exact iq _ _ _ _ (by omega)|exact im _ _ _ (by omega)|(simp only[ca];omega))
def DQ:aQ.Good jc:=Hb ⟨uz,af⟩
def pt:aQ:=⟨pG,[.v (.st .claim)],λ (x:ae)=>⟨(some (bD x<=1048576),[⟨(.st .claim),x⟩])⟩⟩
def Gk(x:ae):Nat->aM:=λ _ => .none
def Rv(x:ae):ck (aZ [kZ,jc] [] [] [1]) (az gj) (Gk x) 0 (bx (aZ [kZ,jc] [] [] [1]) gj λ r=>bB r [⟨(.st .claim),x⟩]) (aL gj [.val ⟨(.st .claim),x⟩]) =
 ((aw x.left<=1048576/\(aw x.right<=1048576/\(U x.cj ->
 (U x.ref ->
 (x.steps.length<=140737488355328 ->
 (x.steps.length+aj aK x.steps<=1048576/\(x.steps.length<=140737488355328 ->
 (HU x)=x)))))))):=by kernel_rfl
def QY(hE:aI [kZ,jc]):aQ.Good pt:=by
 refine⟨aA ra rfl (by decide),?_⟩;show ∀ (x:ae),(bD x<=1048576)->bC prog pG [.val ⟨(.st .claim),x⟩] (·=[⟨(.st .claim),x⟩]);intro x hp;refine bg (wr:=[]) (cl:=[]) (ro:=[1]) hE ra zx (Gk x) ?_;rewrite [Rv x];rw[yY] at hp;refine⟨?_,?_,λ _ _ _=>⟨?_,λ _=>?_⟩⟩;all_goals try and_intros
 all_goals try (first|with_reducible rfl|with_reducible assumption)
 all_goals try simp only[J.eta,ae.eta,aH.eta,aU,bM,ct] at *
 all_goals first|rfl|trivial|omega|(simp only[b0N,b0M,aC,U,cb,cM,ca,bF] at *;omega)|(simp[aC,U] at *;omega)|grind
def L9:aQ.Good pt:=QY ⟨BF,DQ,af⟩
def nN:aQ:=⟨oj,[.v (.slice (.st .claim))],λ (xs:List ae)=>⟨(some (xs.length+aj bD xs<=1048576),[⟨(.slice (.st .claim)),xs⟩])⟩⟩
def Eg(xs:List ae):Nat->aM:=(λ zb=>if Nat.beq zb 0 then .mk (Nat) (λ k=>k<=xs.length) (λ k=>xs.length - k) [] [1,5,6,7] (λ k=>[(4, .aT ⟨(.int .i64),((k:Int):Int)⟩),(3, .row 7)]) [0,2,3,4,8,9,10,11,12,13,14,15,16,17,18,19,20,21,22] (λ k=>[(7, .row WE (.st .claim) (fill xs k (ae.mk zE zE (0:Int) (0:Int) []):List ae))]) [] [] (λ k=>λ _ => .none) else .none)
def PW(xs:List ae):ck (aZ [pt]) (az fu) (Eg xs) 0 (bx (aZ [pt]) fu λ r=>bB r [⟨(.slice (.st .claim)),xs⟩]) (aL fu [.val ⟨(.slice (.st .claim)),xs⟩]) =
 ((U ((xs.length:Int)) ->
 (ca ((xs.length:Int)) ((xs.length:Int)) 120/\((∃ k1:Nat,(k1<=xs.length/\((xs=xs/\(True/\(True/\((0:Int)=(k1:Int)/\True))))/\((List.replicate (Int.toNat ((xs.length:Int))) (ae.mk zE zE (0:Int) (0:Int) []))=(fill xs k1 (ae.mk zE zE (0:Int) (0:Int) []))/\True))))/\(∀ k1:Nat,(k1<=xs.length ->
 (U ((xs.length:Int)) ->
 (((decide ((k1:Int)<((xs.length:Int))))=true ->
 (aC (k1:Int) xs.length/\(bD (xs.getD k1 (ae.mk zE zE (0:Int) (0:Int) []))<=1048576/\(aC (k1:Int) (fill xs k1 (ae.mk zE zE (0:Int) (0:Int) [])).length/\(U ((k1:Int)+(1:Int))/\(∃ k2:Nat,(k2<=xs.length/\(xs.length - k2<xs.length - k1/\((xs=xs/\(True/\(True/\(((k1:Int)+(1:Int))=(k2:Int)/\True))))/\(((fill xs k1 (ae.mk zE zE (0:Int) (0:Int) [])).set k1 (xs.getD k1 (ae.mk zE zE (0:Int) (0:Int) [])))=(fill xs k2 (ae.mk zE zE (0:Int) (0:Int) []))/\True))))))))))/\((decide ((k1:Int)<((xs.length:Int))))=false ->
 (fill xs k1 (ae.mk zE zE (0:Int) (0:Int) []))=xs))))))))):=by kernel_rfl
def Pc(hE:aI [pt]):aQ.Good nN:=by
 refine⟨aA qe rfl (by decide),?_⟩;show ∀ (xs:List ae),(xs.length+aj bD xs<=1048576)->bC prog oj [.val ⟨(.slice (.st .claim)),xs⟩] (·=[⟨(.slice (.st .claim)),xs⟩]);intro xs hp;refine bg (wr:=[]) (cl:=[]) (ro:=[]) hE qe yl (Eg xs) ?_;rewrite [PW xs];refine λ _=>⟨?_,⟨0,?_,⟨rfl,af,af,?_,af⟩,?_,af⟩,λ k1 _=>have HA:=im xs (ae.mk zE zE (0:Int) (0:Int) []) k1;have HB:=mC xs (ae.mk zE zE (0:Int) (0:Int) []) k1;have HC:=iq xs (ae.mk zE zE (0:Int) (0:Int) []) (ae.mk zE zE (0:Int) (0:Int) []) k1;have Up:=pS bD (ae.mk zE zE (0:Int) (0:Int) []) xs k1;λ _=>⟨λ _=>⟨?_,?_,?_,?_,k1+1,?_,?_,⟨rfl,af,af,?_,af⟩,?_,af⟩,λ _=>?_⟩⟩;all_goals try and_intros
 all_goals first|rfl|trivial|omega|(simp only[b0N,b0M,aC,U,cb,cM,ca,bF] at *;omega)|(simp[aC,U] at *;omega)|grind|exact qv xs _|(simp only[b0N,b0M] at *;first|exact iq _ _ _ _ (by omega)|exact im _ _ _ (by omega)|(simp only[ca];omega))
def J9:aQ.Good nN:=Pc ⟨L9,af⟩
def pw:aQ:=⟨pH,[.v (.st .proof)],λ (x:aB)=>⟨(some (cX x<=1048576),[⟨(.st .proof),x⟩])⟩⟩
def Gm(x:aB):Nat->aM:=λ _ => .none
def Rx(x:aB):ck (aZ [kc,nN] [] [] [1]) (az gm) (Gm x) 0 (bx (aZ [kc,nN] [] [] [1]) gm λ r=>bB r [⟨(.st .proof),x⟩]) (aL gm [.val ⟨(.st .proof),x⟩]) =
 ((x.aq.length<=140737488355328 ->
 (x.aq.length+aj bD x.aq<=1048576/\(x.aq.length<=140737488355328 ->
 x=x)))):=by kernel_rfl
def Q0(hE:aI [kc,nN]):aQ.Good pw:=by
 refine⟨aA rb rfl (by decide),?_⟩;show ∀ (x:aB),(cX x<=1048576)->bC prog pH [.val ⟨(.st .proof),x⟩] (·=[⟨(.st .proof),x⟩]);intro x hp;refine bg (wr:=[]) (cl:=[]) (ro:=[1]) hE rb zz (Gm x) ?_;rewrite [Rx x];rw[yZ] at hp;refine λ _=>⟨?_,λ _=>rfl⟩;all_goals try and_intros
 all_goals first|rfl|trivial|omega|(simp only[b0N,b0M,aC,U,cb,cM,ca,bF] at *;omega)|(simp[aC,U] at *;omega)|grind
def Mb:aQ.Good pw:=Q0 ⟨DR,J9,af⟩
end
end Go.Proofs.YtmjfpcajohhbeaaGreatDoor

set_option maxRecDepth 4000
set_option maxHeartbeats 4000000
namespace Go.Proofs.YtmjfpcajohhbeaaGreatDoor
noncomputable section
def sw:aQ:=⟨CO,[.v (.st .sig), .v (.st .sig)],λ (x:aX) (y:aX)=>⟨(none,[⟨.bool,bT x y⟩])⟩⟩
def K8(x:aX)(y:aX):Nat->aM:=λ _ => .none
def Ws(x:aX)(y:aX):ck (aZ [] [] [] [2,3]) (az pM) (K8 x y) 0 (bx (aZ [] [] [] [2,3]) pM λ r=>bB r [⟨.bool,bT x y⟩]) (aL pM [.val ⟨(.st .sig),x⟩, .val ⟨(.st .sig),y⟩]) =
 ((U x.ar ->
 (U y.ar ->
 (((!(decide (x.ar=y.ar)))=true ->
 false=(bT x y))/\((!(decide (x.ar=y.ar)))=false ->
 (U x.bq ->
 (U y.bq ->
 (((!(decide (x.bq=y.bq)))=true ->
 false=(bT x y))/\((!(decide (x.bq=y.bq)))=false ->
 true=(bT x y)))))))))):=by kernel_rfl
def VT(hE:aI []):aQ.Good sw:=by
 refine⟨aA Hv rfl (by decide),?_⟩;show ∀ (x:aX) (y:aX),True->bC prog CO [.val ⟨(.st .sig),x⟩, .val ⟨(.st .sig),y⟩] (·=[⟨.bool,bT x y⟩]);intro x y _;refine bg (wr:=[]) (cl:=[]) (ro:=[2,3]) hE Hv Qf (K8 x y) ?_;rewrite [Ws x y];refine λ _ _=>⟨λ _=>?_,λ _ _ _=>⟨λ _=>?_,λ _=>?_⟩⟩;all_goals try and_intros
 all_goals first|rfl|trivial|(simp only[b0N,b0M,aC,U] at *;omega)|(refine iN λ rr=>?_;subst rr;simp_all)|(refine rl ?_;cases x;cases y;simp_all)
def Qw:aQ.Good sw:=VT trivial
def pC(n:Nat):aQ:=⟨uZ,[.v (.st .expr), .v (.st .expr)],λ (x:J) (y:J)=>⟨(some (cA x<n),[⟨.bool,bT x y⟩])⟩⟩
def kX:aQ:=⟨uZ,[.v (.st .expr), .v (.st .expr)],λ (x:J) (y:J)=>⟨(none,[⟨.bool,bT x y⟩])⟩⟩
def nS(n:Nat):aQ:=⟨s7,[.v (.slice (.st .expr)), .v (.slice (.st .expr))],λ (xs:List J) (ys:List J)=>⟨(some (cA xs<n),[⟨.bool,bT xs ys⟩])⟩⟩
def sR:aQ:=⟨s7,[.v (.slice (.st .expr)), .v (.slice (.st .expr))],λ (xs:List J) (ys:List J)=>⟨(none,[⟨.bool,bT xs ys⟩])⟩⟩
def Iu(x:J)(y:J):Nat->aM:=λ _ => .none
def Tw(n:Nat)(x:J)(y:J):ck (aZ [nS n] [] [] [2,3]) (az ns) (Iu x y) 0 (bx (aZ [nS n] [] [] [2,3]) ns λ r=>bB r [⟨.bool,bT x y⟩]) (aL ns [.val ⟨(.st .expr),x⟩, .val ⟨(.st .expr),y⟩]) =
 ((U x.au ->
 (U y.au ->
 (((!(decide (x.au=y.au)))=true ->
 false=(bT x y))/\((!(decide (x.au=y.au)))=false ->
 (U x.aO ->
 (U y.aO ->
 (((!(decide (x.aO=y.aO)))=true ->
 false=(bT x y))/\((!(decide (x.aO=y.aO)))=false ->
 (x.M.length<=140737488355328 ->
 (y.M.length<=140737488355328 ->
 (cA x.M<n/\(((!(bT x.M y.M))=true ->
 false=(bT x y))/\((!(bT x.M y.M))=false ->
 true=(bT x y))))))))))))))):=by kernel_rfl
def Tg(n:Nat)(hE:aI [nS n]):aQ.Good (pC (n+1)):=by
 refine⟨aA sL rfl (by decide),?_⟩;show ∀ (x:J) (y:J),(cA x<n+1)->bC prog uZ [.val ⟨(.st .expr),x⟩, .val ⟨(.st .expr),y⟩] (·=[⟨.bool,bT x y⟩]);intro x y hp;refine bg (wr:=[]) (cl:=[]) (ro:=[2,3]) hE sL NV (Iu x y) ?_;rewrite [Tw n x y];have f0k:=dX x;refine λ _ _=>⟨λ _=>?_,λ _ _ _=>⟨λ _=>?_,λ _ _ _=>⟨?_,λ _=>?_,λ _=>?_⟩⟩⟩;all_goals try and_intros
 all_goals first|rfl|trivial|(simp only[b0N,b0M,aC,U] at *;omega)|(refine iN λ rr=>?_;subst rr;simp_all)|(refine rl ?_;cases x;cases y;simp_all)
def Ge(xs:List J)(ys:List J):Nat->aM:=(λ zb=>if Nat.beq zb 0 then .mk (Nat) (λ k=>k<=xs.length/\xs.length=ys.length/\xs.take k=ys.take k) (λ k=>xs.length - k) [] [2,3,6,7,8,9,10] (λ k=>[(5, .aT ⟨(.int .i64),((k:Int):Int)⟩)]) [0,1,4,5,11,12,13,14,15,16,17,18,19,20,21,22,23,24,25,26] (λ k=>[]) [] [] (λ k=>λ _ => .none) else .none)
def Rq(n:Nat)(xs:List J)(ys:List J):ck (aZ [pC n]) (az lK) (Ge xs ys) 0 (bx (aZ [pC n]) lK λ r=>bB r [⟨.bool,bT xs ys⟩]) (aL lK [.val ⟨(.slice (.st .expr)),xs⟩, .val ⟨(.slice (.st .expr)),ys⟩]) =
 ((U ((xs.length:Int)) ->
 (U ((ys.length:Int)) ->
 (((!(decide (((xs.length:Int))=((ys.length:Int)))))=true ->
 false=(bT xs ys))/\((!(decide (((xs.length:Int))=((ys.length:Int)))))=false ->
 ((∃ k1:Nat,((k1<=xs.length/\xs.length=ys.length/\xs.take k1=ys.take k1)/\((xs=xs/\(ys=ys/\((0:Int)=(k1:Int)/\True)))/\True)))/\(∀ k1:Nat,((k1<=xs.length/\xs.length=ys.length/\xs.take k1=ys.take k1) ->
 (U ((xs.length:Int)) ->
 (((decide ((k1:Int)<((xs.length:Int))))=true ->
 (aC (k1:Int) xs.length/\(aC (k1:Int) ys.length/\(cA (xs.getD k1 zE)<n/\(((!(bT (xs.getD k1 zE) (ys.getD k1 zE)))=true ->
 false=(bT xs ys))/\((!(bT (xs.getD k1 zE) (ys.getD k1 zE)))=false ->
 (U ((k1:Int)+(1:Int))/\(∃ k2:Nat,((k2<=xs.length/\xs.length=ys.length/\xs.take k2=ys.take k2)/\(xs.length - k2<xs.length - k1/\((xs=xs/\(ys=ys/\(((k1:Int)+(1:Int))=(k2:Int)/\True)))/\True)))))))))))/\((decide ((k1:Int)<((xs.length:Int))))=false ->
 true=(bT xs ys)))))))))))):=by kernel_rfl
def QT(n:Nat)(hE:aI [pC n]):aQ.Good (nS (n+1)):=by
 refine⟨aA qY rfl (by decide),?_⟩;show ∀ (xs:List J) (ys:List J),(cA xs<n+1)->bC prog s7 [.val ⟨(.slice (.st .expr)),xs⟩, .val ⟨(.slice (.st .expr)),ys⟩] (·=[⟨.bool,bT xs ys⟩]);intro xs ys hp;refine bg (wr:=[]) (cl:=[]) (ro:=[]) hE qY LB (Ge xs ys) ?_;rewrite [Rq n xs ys];refine λ _ _=>⟨λ _=>?_,λ _=>⟨⟨0,?_,⟨rfl,rfl,?_,af⟩,af⟩,λ k1 _=>have a2s:=jM zE xs ys k1;have a2t:=eA xs ys k1;have a8K:=cx zE xs k1;λ _=>⟨λ _=>⟨?_,?_,?_,λ _=>?_,λ _=>⟨?_,k1+1,?_,?_,⟨rfl,rfl,?_,af⟩,af⟩⟩,λ _=>?_⟩⟩⟩;all_goals try and_intros
 all_goals first|rfl|trivial|(simp only[b0N,b0M,b1B,b4A,b1i,aC,U] at *;first|omega|(refine iN λ rr=>?_;subst rr;simp_all;done)|(refine rl (eA _ _ _ (by omega) (by omega) (by simp_all))))|(refine iN λ rr=>?_;subst rr;simp_all;done)|(simp_all;done)|(refine jM zE _ _ _ (by simp_all;omega) (by simp_all;omega) (by simp_all) ?_;simp_all;done)
def EJ :∀ n,aI [pC n,nS n]
 | 0=>⟨⟨aA sL rfl (by decide),λ _ _ h=>absurd h (b1H _)⟩,⟨aA qY rfl (by decide),λ _ _ h=>absurd h (b1H _)⟩,af⟩
 | n+1=>by
  have ih:=EJ  n;exact⟨Tg n ⟨ih.2.1,af⟩,QT n ⟨ih.1,af⟩,af⟩
def BD :aQ.Good kX :=
 ⟨aA sL rfl (by decide),λ x y hp=>(EJ  (cA x+1)).1.2 x y (b1D _)⟩
def L4 :aQ.Good sR :=
 ⟨aA qY rfl (by decide),λ xs ys hp=>(EJ  (cA xs+1)).2.1.2 xs ys (b1D _)⟩
def nJ:aQ:=⟨vX,[.v (.slice (.int .i64)), .v (.slice (.int .i64))],λ (xs:List Int) (ys:List Int)=>⟨(none,[⟨.bool,bT xs ys⟩])⟩⟩
def Ec(xs:List Int)(ys:List Int):Nat->aM:=(λ zb=>if Nat.beq zb 0 then .mk (Nat) (λ k=>k<=xs.length/\xs.length=ys.length/\xs.take k=ys.take k) (λ k=>xs.length - k) [] [2,3,6,7,8,9,10] (λ k=>[(5, .aT ⟨(.int .i64),((k:Int):Int)⟩)]) [0,1,4,5,11,12,13,14,15,16,17,18,19,20,21,22,23,24,25] (λ k=>[]) [] [] (λ k=>λ _ => .none) else .none)
def PS(xs:List Int)(ys:List Int):ck (aZ []) (az kx) (Ec xs ys) 0 (bx (aZ []) kx λ r=>bB r [⟨.bool,bT xs ys⟩]) (aL kx [.val ⟨(.slice (.int .i64)),xs⟩, .val ⟨(.slice (.int .i64)),ys⟩]) =
 ((U ((xs.length:Int)) ->
 (U ((ys.length:Int)) ->
 (((!(decide (((xs.length:Int))=((ys.length:Int)))))=true ->
 false=(bT xs ys))/\((!(decide (((xs.length:Int))=((ys.length:Int)))))=false ->
 ((∃ k1:Nat,((k1<=xs.length/\xs.length=ys.length/\xs.take k1=ys.take k1)/\((xs=xs/\(ys=ys/\((0:Int)=(k1:Int)/\True)))/\True)))/\(∀ k1:Nat,((k1<=xs.length/\xs.length=ys.length/\xs.take k1=ys.take k1) ->
 (U ((xs.length:Int)) ->
 (((decide ((k1:Int)<((xs.length:Int))))=true ->
 (aC (k1:Int) xs.length/\(aC (k1:Int) ys.length/\(U (xs.getD k1 (0:Int)) ->
 (U (ys.getD k1 (0:Int)) ->
 (((!(decide ((xs.getD k1 (0:Int))=(ys.getD k1 (0:Int)))))=true ->
 false=(bT xs ys))/\((!(decide ((xs.getD k1 (0:Int))=(ys.getD k1 (0:Int)))))=false ->
 (U ((k1:Int)+(1:Int))/\(∃ k2:Nat,((k2<=xs.length/\xs.length=ys.length/\xs.take k2=ys.take k2)/\(xs.length - k2<xs.length - k1/\((xs=xs/\(ys=ys/\(((k1:Int)+(1:Int))=(k2:Int)/\True)))/\True))))))))))))/\((decide ((k1:Int)<((xs.length:Int))))=false ->
 true=(bT xs ys)))))))))))):=by kernel_rfl
def O8(hE:aI []):aQ.Good nJ:=by
 refine⟨aA Bo rfl (by decide),?_⟩;show ∀ (xs:List Int) (ys:List Int),True->bC prog vX [.val ⟨(.slice (.int .i64)),xs⟩, .val ⟨(.slice (.int .i64)),ys⟩] (·=[⟨.bool,bT xs ys⟩]);intro xs ys _;refine bg (wr:=[]) (cl:=[]) (ro:=[]) hE Bo JQ (Ec xs ys) ?_;rewrite [PS xs ys];refine λ _ _=>⟨λ _=>?_,λ _=>⟨⟨0,?_,⟨rfl,rfl,?_,af⟩,af⟩,λ k1 _=>have a2s:=jM (0:Int) xs ys k1;have a2t:=eA xs ys k1;λ _=>⟨λ _=>⟨?_,?_,λ _ _=>⟨λ _=>?_,λ _=>⟨?_,k1+1,?_,?_,⟨rfl,rfl,?_,af⟩,af⟩⟩⟩,λ _=>?_⟩⟩⟩;all_goals try and_intros
 all_goals first|rfl|trivial|(simp only[b0N,b0M,b1B,b4A,b1i,aC,U] at *;first|omega|(refine iN λ rr=>?_;subst rr;simp_all;done)|(refine rl (eA _ _ _ (by omega) (by omega) (by simp_all))))|(refine iN λ rr=>?_;subst rr;simp_all;done)|(simp_all;done)|(refine jM (0:Int) _ _ _ (by simp_all;omega) (by simp_all;omega) (by simp_all) ?_;simp_all;done)
def J5:aQ.Good nJ:=O8 trivial
def eE:aQ:=⟨r9,[.v (.st .proofStep), .v (.st .proofStep)],λ (x:O) (y:O)=>⟨(none,[⟨.bool,bT x y⟩])⟩⟩
def yA(x:O)(y:O):Nat->aM:=λ _ => .none
def Je(x:O)(y:O):ck (aZ [nJ,sR] [] [] [2,3]) (az ik) (yA x y) 0 (bx (aZ [nJ,sR] [] [] [2,3]) ik λ r=>bB r [⟨.bool,bT x y⟩]) (aL ik [.val ⟨(.st .proofStep),x⟩, .val ⟨(.st .proofStep),y⟩]) =
 ((U x.use ->
 (U y.use ->
 (((!(decide (x.use=y.use)))=true ->
 false=(bT x y))/\((!(decide (x.use=y.use)))=false ->
 (((!(x.back == y.back))=true ->
 false=(bT x y))/\((!(x.back == y.back))=false ->
 (x.path.length<=140737488355328 ->
 (y.path.length<=140737488355328 ->
 (((!(bT x.path y.path))=true ->
 false=(bT x y))/\((!(bT x.path y.path))=false ->
 (x.ar.length<=140737488355328 ->
 (y.ar.length<=140737488355328 ->
 (((!(bT x.ar y.ar))=true ->
 false=(bT x y))/\((!(bT x.ar y.ar))=false ->
 (x.bo.length<=140737488355328 ->
 (y.bo.length<=140737488355328 ->
 (((!(bT x.bo y.bo))=true ->
 false=(bT x y))/\((!(bT x.bo y.bo))=false ->
 true=(bT x y)))))))))))))))))))):=by kernel_rfl
def IV(hE:aI [nJ,sR]):aQ.Good eE:=by
 refine⟨aA wN rfl (by decide),?_⟩;show ∀ (x:O) (y:O),True->bC prog r9 [.val ⟨(.st .proofStep),x⟩, .val ⟨(.st .proofStep),y⟩] (·=[⟨.bool,bT x y⟩]);intro x y _;refine bg (wr:=[]) (cl:=[]) (ro:=[2,3]) hE wN EU (yA x y) ?_;rewrite [Je x y];refine λ _ _=>⟨λ _=>?_,λ _=>⟨λ _=>?_,λ _ _ _=>⟨λ _=>?_,λ _ _ _=>⟨λ _=>?_,λ _ _ _=>⟨λ _=>?_,λ _=>?_⟩⟩⟩⟩⟩;all_goals try and_intros
 all_goals first|rfl|trivial|(simp only[b0N,b0M,aC,U] at *;omega)|(refine iN λ rr=>?_;subst rr;simp_all)|(refine rl ?_;cases x;cases y;simp_all)
def ux:aQ.Good eE:=IV ⟨J5,L4,af⟩
def ja:aQ:=⟨qN,[.v (.slice (.st .proofStep)), .v (.slice (.st .proofStep))],λ (xs:List O) (ys:List O)=>⟨(none,[⟨.bool,bT xs ys⟩])⟩⟩
def xk(xs:List O)(ys:List O):Nat->aM:=(λ zb=>if Nat.beq zb 0 then .mk (Nat) (λ k=>k<=xs.length/\xs.length=ys.length/\xs.take k=ys.take k) (λ k=>xs.length - k) [] [2,3,6,7,8,9,10] (λ k=>[(5, .aT ⟨(.int .i64),((k:Int):Int)⟩)]) [0,1,4,5,11,12,13,14,15,16,17,18,19,20,21,22,23,24,25,26] (λ k=>[]) [] [] (λ k=>λ _ => .none) else .none)
def Hj(xs:List O)(ys:List O):ck (aZ [eE]) (az gD) (xk xs ys) 0 (bx (aZ [eE]) gD λ r=>bB r [⟨.bool,bT xs ys⟩]) (aL gD [.val ⟨(.slice (.st .proofStep)),xs⟩, .val ⟨(.slice (.st .proofStep)),ys⟩]) =
 ((U ((xs.length:Int)) ->
 (U ((ys.length:Int)) ->
 (((!(decide (((xs.length:Int))=((ys.length:Int)))))=true ->
 false=(bT xs ys))/\((!(decide (((xs.length:Int))=((ys.length:Int)))))=false ->
 ((∃ k1:Nat,((k1<=xs.length/\xs.length=ys.length/\xs.take k1=ys.take k1)/\((xs=xs/\(ys=ys/\((0:Int)=(k1:Int)/\True)))/\True)))/\(∀ k1:Nat,((k1<=xs.length/\xs.length=ys.length/\xs.take k1=ys.take k1) ->
 (U ((xs.length:Int)) ->
 (((decide ((k1:Int)<((xs.length:Int))))=true ->
 (aC (k1:Int) xs.length/\(aC (k1:Int) ys.length/\(((!(bT (xs.getD k1 (O.mk (0:Int) false [] [] [])) (ys.getD k1 (O.mk (0:Int) false [] [] []))))=true ->
 false=(bT xs ys))/\((!(bT (xs.getD k1 (O.mk (0:Int) false [] [] [])) (ys.getD k1 (O.mk (0:Int) false [] [] []))))=false ->
 (U ((k1:Int)+(1:Int))/\(∃ k2:Nat,((k2<=xs.length/\xs.length=ys.length/\xs.take k2=ys.take k2)/\(xs.length - k2<xs.length - k1/\((xs=xs/\(ys=ys/\(((k1:Int)+(1:Int))=(k2:Int)/\True)))/\True))))))))))/\((decide ((k1:Int)<((xs.length:Int))))=false ->
 true=(bT xs ys)))))))))))):=by kernel_rfl
def G9(hE:aI [eE]):aQ.Good ja:=by
 refine⟨aA vr rfl (by decide),?_⟩;show ∀ (xs:List O) (ys:List O),True->bC prog qN [.val ⟨(.slice (.st .proofStep)),xs⟩, .val ⟨(.slice (.st .proofStep)),ys⟩] (·=[⟨.bool,bT xs ys⟩]);intro xs ys _;refine bg (wr:=[]) (cl:=[]) (ro:=[]) hE vr DB (xk xs ys) ?_;rewrite [Hj xs ys];refine λ _ _=>⟨λ _=>?_,λ _=>⟨⟨0,?_,⟨rfl,rfl,?_,af⟩,af⟩,λ k1 _=>have a2s:=jM (O.mk (0:Int) false [] [] []) xs ys k1;have a2t:=eA xs ys k1;λ _=>⟨λ _=>⟨?_,?_,λ _=>?_,λ _=>⟨?_,k1+1,?_,?_,⟨rfl,rfl,?_,af⟩,af⟩⟩,λ _=>?_⟩⟩⟩;all_goals try and_intros
 all_goals first|rfl|trivial|(simp only[b0N,b0M,b1B,b4A,b1i,aC,U] at *;first|omega|(refine iN λ rr=>?_;subst rr;simp_all;done)|(refine rl (eA _ _ _ (by omega) (by omega) (by simp_all))))|(refine iN λ rr=>?_;subst rr;simp_all;done)|(simp_all;done)|(refine jM (O.mk (0:Int) false [] [] []) _ _ _ (by simp_all;omega) (by simp_all;omega) (by simp_all) ?_;simp_all;done)
def DO:aQ.Good ja:=G9 ⟨ux,af⟩
def pn:aQ:=⟨xU,[.v (.st .claim), .v (.st .claim)],λ (x:ae) (y:ae)=>⟨(none,[⟨.bool,bT x y⟩])⟩⟩
def Gd(x:ae)(y:ae):Nat->aM:=λ _ => .none
def Rp(x:ae)(y:ae):ck (aZ [kX,ja] [] [] [2,3]) (az lJ) (Gd x y) 0 (bx (aZ [kX,ja] [] [] [2,3]) lJ λ r=>bB r [⟨.bool,bT x y⟩]) (aL lJ [.val ⟨(.st .claim),x⟩, .val ⟨(.st .claim),y⟩]) =
 ((((!(bT x.left y.left))=true ->
 false=(bT x y))/\((!(bT x.left y.left))=false ->
 (((!(bT x.right y.right))=true ->
 false=(bT x y))/\((!(bT x.right y.right))=false ->
 (U x.cj ->
 (U y.cj ->
 (((!(decide (x.cj=y.cj)))=true ->
 false=(bT x y))/\((!(decide (x.cj=y.cj)))=false ->
 (U x.ref ->
 (U y.ref ->
 (((!(decide (x.ref=y.ref)))=true ->
 false=(bT x y))/\((!(decide (x.ref=y.ref)))=false ->
 (x.steps.length<=140737488355328 ->
 (y.steps.length<=140737488355328 ->
 (((!(bT x.steps y.steps))=true ->
 false=(bT x y))/\((!(bT x.steps y.steps))=false ->
 true=(bT x y)))))))))))))))))):=by kernel_rfl
def QS(hE:aI [kX,ja]):aQ.Good pn:=by
 refine⟨aA Dm rfl (by decide),?_⟩;show ∀ (x:ae) (y:ae),True->bC prog xU [.val ⟨(.st .claim),x⟩, .val ⟨(.st .claim),y⟩] (·=[⟨.bool,bT x y⟩]);intro x y _;refine bg (wr:=[]) (cl:=[]) (ro:=[2,3]) hE Dm LA (Gd x y) ?_;rewrite [Rp x y];refine⟨λ _=>?_,λ _=>⟨λ _=>?_,λ _ _ _=>⟨λ _=>?_,λ _ _ _=>⟨λ _=>?_,λ _ _ _=>⟨λ _=>?_,λ _=>?_⟩⟩⟩⟩⟩;all_goals try and_intros
 all_goals first|rfl|trivial|(simp only[b0N,b0M,aC,U] at *;omega)|(refine iN λ rr=>?_;subst rr;simp_all)|(refine rl ?_;cases x;cases y;simp_all)
def L3:aQ.Good pn:=QS ⟨BD,DO,af⟩
def nI:aQ:=⟨vW,[.v (.slice (.st .claim)), .v (.slice (.st .claim))],λ (xs:List ae) (ys:List ae)=>⟨(none,[⟨.bool,bT xs ys⟩])⟩⟩
def Eb(xs:List ae)(ys:List ae):Nat->aM:=(λ zb=>if Nat.beq zb 0 then .mk (Nat) (λ k=>k<=xs.length/\xs.length=ys.length/\xs.take k=ys.take k) (λ k=>xs.length - k) [] [2,3,6,7,8,9,10] (λ k=>[(5, .aT ⟨(.int .i64),((k:Int):Int)⟩)]) [0,1,4,5,11,12,13,14,15,16,17,18,19,20,21,22,23,24,25,26] (λ k=>[]) [] [] (λ k=>λ _ => .none) else .none)
def PR(xs:List ae)(ys:List ae):ck (aZ [pn]) (az kv) (Eb xs ys) 0 (bx (aZ [pn]) kv λ r=>bB r [⟨.bool,bT xs ys⟩]) (aL kv [.val ⟨(.slice (.st .claim)),xs⟩, .val ⟨(.slice (.st .claim)),ys⟩]) =
 ((U ((xs.length:Int)) ->
 (U ((ys.length:Int)) ->
 (((!(decide (((xs.length:Int))=((ys.length:Int)))))=true ->
 false=(bT xs ys))/\((!(decide (((xs.length:Int))=((ys.length:Int)))))=false ->
 ((∃ k1:Nat,((k1<=xs.length/\xs.length=ys.length/\xs.take k1=ys.take k1)/\((xs=xs/\(ys=ys/\((0:Int)=(k1:Int)/\True)))/\True)))/\(∀ k1:Nat,((k1<=xs.length/\xs.length=ys.length/\xs.take k1=ys.take k1) ->
 (U ((xs.length:Int)) ->
 (((decide ((k1:Int)<((xs.length:Int))))=true ->
 (aC (k1:Int) xs.length/\(aC (k1:Int) ys.length/\(((!(bT (xs.getD k1 (ae.mk zE zE (0:Int) (0:Int) [])) (ys.getD k1 (ae.mk zE zE (0:Int) (0:Int) []))))=true ->
 false=(bT xs ys))/\((!(bT (xs.getD k1 (ae.mk zE zE (0:Int) (0:Int) [])) (ys.getD k1 (ae.mk zE zE (0:Int) (0:Int) []))))=false ->
 (U ((k1:Int)+(1:Int))/\(∃ k2:Nat,((k2<=xs.length/\xs.length=ys.length/\xs.take k2=ys.take k2)/\(xs.length - k2<xs.length - k1/\((xs=xs/\(ys=ys/\(((k1:Int)+(1:Int))=(k2:Int)/\True)))/\True))))))))))/\((decide ((k1:Int)<((xs.length:Int))))=false ->
 true=(bT xs ys)))))))))))):=by kernel_rfl
def O7(hE:aI [pn]):aQ.Good nI:=by
 refine⟨aA Bn rfl (by decide),?_⟩;show ∀ (xs:List ae) (ys:List ae),True->bC prog vW [.val ⟨(.slice (.st .claim)),xs⟩, .val ⟨(.slice (.st .claim)),ys⟩] (·=[⟨.bool,bT xs ys⟩]);intro xs ys _;refine bg (wr:=[]) (cl:=[]) (ro:=[]) hE Bn JP (Eb xs ys) ?_;rewrite [PR xs ys];refine λ _ _=>⟨λ _=>?_,λ _=>⟨⟨0,?_,⟨rfl,rfl,?_,af⟩,af⟩,λ k1 _=>have a2s:=jM (ae.mk zE zE (0:Int) (0:Int) []) xs ys k1;have a2t:=eA xs ys k1;λ _=>⟨λ _=>⟨?_,?_,λ _=>?_,λ _=>⟨?_,k1+1,?_,?_,⟨rfl,rfl,?_,af⟩,af⟩⟩,λ _=>?_⟩⟩⟩;all_goals try and_intros
 all_goals first|rfl|trivial|(simp only[b0N,b0M,b1B,b4A,b1i,aC,U] at *;first|omega|(refine iN λ rr=>?_;subst rr;simp_all;done)|(refine rl (eA _ _ _ (by omega) (by omega) (by simp_all))))|(refine iN λ rr=>?_;subst rr;simp_all;done)|(simp_all;done)|(refine jM (ae.mk zE zE (0:Int) (0:Int) []) _ _ _ (by simp_all;omega) (by simp_all;omega) (by simp_all) ?_;simp_all;done)
def J4:aQ.Good nI:=O7 ⟨L3,af⟩
def po:aQ:=⟨xV,[.v (.st .proof), .v (.st .proof)],λ (x:aB) (y:aB)=>⟨(none,[⟨.bool,bT x y⟩])⟩⟩
def Gf(x:aB)(y:aB):Nat->aM:=λ _ => .none
def Rr(x:aB)(y:aB):ck (aZ [sw,nI] [] [] [2,3]) (az lL) (Gf x y) 0 (bx (aZ [sw,nI] [] [] [2,3]) lL λ r=>bB r [⟨.bool,bT x y⟩]) (aL lL [.val ⟨(.st .proof),x⟩, .val ⟨(.st .proof),y⟩]) =
 ((((!(bT x.sig y.sig))=true ->
 false=(bT x y))/\((!(bT x.sig y.sig))=false ->
 (x.aq.length<=140737488355328 ->
 (y.aq.length<=140737488355328 ->
 (((!(bT x.aq y.aq))=true ->
 false=(bT x y))/\((!(bT x.aq y.aq))=false ->
 true=(bT x y)))))))):=by kernel_rfl
def QU(hE:aI [sw,nI]):aQ.Good po:=by
 refine⟨aA Dn rfl (by decide),?_⟩;show ∀ (x:aB) (y:aB),True->bC prog xV [.val ⟨(.st .proof),x⟩, .val ⟨(.st .proof),y⟩] (·=[⟨.bool,bT x y⟩]);intro x y _;refine bg (wr:=[]) (cl:=[]) (ro:=[2,3]) hE Dn LC (Gf x y) ?_;rewrite [Rr x y];refine⟨λ _=>?_,λ _ _ _=>⟨λ _=>?_,λ _=>?_⟩⟩;all_goals try and_intros
 all_goals first|rfl|trivial|(simp only[b0N,b0M,aC,U] at *;omega)|(refine iN λ rr=>?_;subst rr;simp_all)|(refine rl ?_;cases x;cases y;simp_all)
def L5:aQ.Good po:=QU ⟨Qw,J4,af⟩
end
end Go.Proofs.YtmjfpcajohhbeaaGreatDoor

set_option maxRecDepth 4000
set_option maxHeartbeats 4000000
namespace Go.Proofs.YtmjfpcajohhbeaaGreatDoor
noncomputable section
def eO(k:Int):List Int->List Int
 | []=>[]
 | _::xs=>k::eO (k+1) xs
def uR:∀ (k:Int) (xs:List Int),(eO k xs).length=xs.length
 | _,[]=>rfl
 | k,_::xs=>by simp[eO,uR (k+1) xs]
def O0:∀ (k:Int) (xs:List Int) (i:Nat) (d:Int),i<xs.length->(eO k xs).getD i d=k+i
 | k,[],i,d,h=>by simp at h
 | k,_::xs,0,d,h=>by simp[eO]
 | k,_::xs,i+1,d,h=>by
  have:=O0 (k+1) xs i d (by simpa using h);simp[eO] at this ⊢;omega
def half{α:Type}(f:List α)(xs:List α)(i:Nat):List α:=f.take i++xs.drop i
def zM{α:Type}(f xs:List α):xs=half f xs 0:=by simp[half]
def Js{α:Type}(f xs:List α)(i:Nat)(h:f.length=xs.length)(hi:xs.length<=i):half f xs i=f:=by
 simp[half,b1v (h ▸ hi),b2U hi]
def uB{α:Type}(f xs:List α)(i:Nat)(h:f.length=xs.length):(half f xs i).length=xs.length:=by
 simp[half];omega
def Mm{α:Type}(f xs:List α)(d:α)(i:Nat)(h:f.length=xs.length)(hi:i<xs.length):(half f xs i).getD i d=xs.getD i d:=by
 simp only[half,b1f];rw[b2m (by simp;omega)];simp[h,Nat.min_eq_left (Nat.le_of_lt hi)]
def Qy{α:Type}(f xs:List α)(d:α)(i:Nat)(h:f.length=xs.length)(hi:i<xs.length):(half f xs i).set i (f.getD i d)=half f xs (i+1):=by
 unfold half;rw[List.set_append_right _ _ (by simp;omega)];have e:i - (List.take i f).length=0:=by simp;omega
 rw[e,b2x (by omega:i<xs.length),b3V,fM d f i (by omega)];simp
def dy:MK:=⟨Aw,⟨(.slice (.int .i64)),λ (xs:List Int) (k:Int)=>(some (0<=k/\k+(xs.length:Int)<=4611686018427387904),eO k xs,k+(xs.length:Int))⟩⟩
def r6(xs:List Int)(k:Int):Nat->aM:=(λ zb=>if Nat.beq zb 0 then .mk (Nat) (λ i=>i<=xs.length) (λ i=>xs.length - i) [] [2,3] (λ i=>[(5, .aT ⟨(.int .i64),((i:Int):Int)⟩),(1, .aT ⟨(.int .i64),(k+(i:Int):Int)⟩),(0, .aD 50)]) [0,1,4,5,6,7,8,9,10,11,12,13,14,15,16,17,18] (λ i=>[(50, .aD (.int .i64) (half (eO k xs) xs i:List Int))]) [] [] (λ i=>λ _ => .none) else .none)
def Ji(xs:List Int)(k:Int):ck (cg [] [] [] [] []) (az ej) (r6 xs k) 0 (fY ej dy.m xs k) (du ej ⟨(.slice (.int .i64)),xs⟩ k) =
 (((∃ i1:Nat,(i1<=xs.length/\((True/\(k=(k+(i1:Int))/\((0:Int)=(0:Int)/\((0:Int)=(i1:Int)/\True))))/\(xs=(half (eO k xs) xs i1)/\True))))/\(∀ i1:Nat,(i1<=xs.length ->
 (((decide ((i1:Int)<(((half (eO k xs) xs i1).length:Int))))=true ->
 (aC (i1:Int) (half (eO k xs) xs i1).length/\(U ((k+(i1:Int))+(1:Int))/\(U ((i1:Int)+(1:Int))/\(∃ i2:Nat,(i2<=xs.length/\(xs.length - i2<xs.length - i1/\((True/\(((k+(i1:Int))+(1:Int))=(k+(i2:Int))/\((0:Int)=(0:Int)/\(((i1:Int)+(1:Int))=(i2:Int)/\True))))/\(((half (eO k xs) xs i1).set i1 (k+(i1:Int)))=(half (eO k xs) xs i2)/\True)))))))))/\((decide ((i1:Int)<(((half (eO k xs) xs i1).length:Int))))=false ->
 ((k+(i1:Int))=(k+(xs.length:Int))/\(half (eO k xs) xs i1)=(eO k xs)))))))):=by kernel_rfl
def IZ(hE:aI [])(hO:dL [])(hM:ed [])(hS:dP []):MK.Good dy:=by
 refine⟨aA yi rfl (by decide),oX (own:=[]) (wr:=[]) (cl:=[]) (ro:=[]) hE hO hM hS yi GO (λ xs k=>r6 xs k) (λ x=>b1r rfl) (b1r (by kernel_rfl)) ?_⟩;show ∀ (xs:List Int) (k:Int),(0<=k/\k+(xs.length:Int)<=4611686018427387904)->U k->ck (cg [] [] [] [] []) (az ej) (r6 xs k) 0 (fY ej dy.m xs k) (du ej ⟨(.slice (.int .i64)),xs⟩ k);intro xs k hp hk;rewrite [Ji xs k];have f0:=zM (eO k xs) xs;refine⟨⟨0,?_,⟨af,?_,rfl,?_,af⟩,?_,af⟩,λ i1 _=>have KO:=Js (eO k xs) xs i1 (uR k xs);have yj:=uB (eO k xs) xs i1 (uR k xs);have Dy:=Qy (eO k xs) xs 0 i1 (uR k xs);have NK:=O0 k xs i1 0;⟨λ _=>⟨?_,?_,?_,i1+1,?_,?_,⟨af,?_,rfl,?_,af⟩,?_,af⟩,λ _=>⟨?_,?_⟩⟩⟩;all_goals try and_intros
 all_goals first|rfl|trivial|(simp only[b0N,b0M,aC,U,cb] at *;omega)|(simp only[b0N,b0M,aC,U] at *;first|omega|(rw[<-zM];done)|grind)|grind
def uQ:MK.Good dy:=IZ trivial trivial trivial trivial
def my:aQ:=⟨om,[.v (.slice (.int .i64))],λ (xs:List Int)=>⟨(some (xs.length<=1048576),[⟨(.slice (.int .i64)),xs⟩])⟩⟩
def Cb(xs:List Int):Nat->aM:=(λ zb=>if Nat.beq zb 0 then .mk (Nat) (λ k=>k<=xs.length) (λ k=>xs.length - k) [] [1,5,6,7] (λ k=>[(4, .aT ⟨(.int .i64),((k:Int):Int)⟩),(3, .row 7)]) [0,2,3,4,8,9,10,11,12,13,14,15,16,17,18,19,20,21] (λ k=>[(7, .row Nw (.int .i64) (fill xs k 0:List Int))]) [] [] (λ k=>λ _ => .none) else .none)
def Nl(xs:List Int):ck (cg [] [] [] [] []) (az fv) (Cb xs) 0 (dN (cg [] [] [] [] []) fv λ r=>bB r [⟨(.slice (.int .i64)),xs⟩]) (fE fv [.val ⟨(.slice (.int .i64)),xs⟩]) =
 ((U ((xs.length:Int)) ->
 (ca ((xs.length:Int)) ((xs.length:Int)) 8/\((∃ k1:Nat,(k1<=xs.length/\((xs=xs/\(True/\(True/\((0:Int)=(k1:Int)/\True))))/\((List.replicate (Int.toNat ((xs.length:Int))) (0:Int))=(fill xs k1 0)/\True))))/\(∀ k1:Nat,(k1<=xs.length ->
 (U ((xs.length:Int)) ->
 (((decide ((k1:Int)<((xs.length:Int))))=true ->
 (aC (k1:Int) xs.length/\(U (xs.getD k1 (0:Int)) ->
 (aC (k1:Int) (fill xs k1 0).length/\(U ((k1:Int)+(1:Int))/\(∃ k2:Nat,(k2<=xs.length/\(xs.length - k2<xs.length - k1/\((xs=xs/\(True/\(True/\(((k1:Int)+(1:Int))=(k2:Int)/\True))))/\(((fill xs k1 0).set k1 (xs.getD k1 (0:Int)))=(fill xs k2 0)/\True))))))))))/\((decide ((k1:Int)<((xs.length:Int))))=false ->
 (fill xs k1 0)=xs))))))))):=by kernel_rfl
def MT(hE:aI [])(hO:dL [])(hM:ed [])(hS:dP []):aQ.df my:=by
 refine⟨aA qf rfl (by decide),?_⟩;show ∀ (xs:List Int),(xs.length<=1048576)->fH prog om [.val ⟨(.slice (.int .i64)),xs⟩] [⟨(.slice (.int .i64)),xs⟩];intro xs hp;refine cV (own:=[]) (wr:=[]) (cl:=[]) (ro:=[]) hE hO hM hS qf ym (Cb xs) ?_;rewrite [Nl xs];refine λ _=>⟨?_,⟨0,?_,⟨rfl,af,af,?_,af⟩,?_,af⟩,λ k1 _=>have HA:=im xs 0 k1;have HB:=mC xs 0 k1;have HC:=iq xs 0 0 k1;λ _=>⟨λ _=>⟨?_,λ _=>⟨?_,?_,k1+1,?_,?_,⟨rfl,af,af,?_,af⟩,?_,af⟩⟩,λ _=>?_⟩⟩;all_goals try and_intros
 all_goals first|rfl|trivial|omega|(simp only[b0N,b0M,aC,U,cb,cM,ca,bF] at *;omega)|(simp[aC,U] at *;omega)|grind|exact qv xs _|(simp only[b0N,b0M] at *;first|exact iq _ _ _ _ (by omega)|exact im _ _ _ (by omega)|(simp only[ca];omega))
def IS:aQ.df my:=MT trivial trivial trivial trivial
def n7(n:Nat):aQ:=⟨lj,[.v (.st .expr)],λ (x:J)=>⟨(some (cA x<n/\aw x<=1048576),[⟨(.st .expr),x⟩])⟩⟩
def jH:aQ:=⟨lj,[.v (.st .expr)],λ (x:J)=>⟨(some (aw x<=1048576),[⟨(.st .expr),x⟩])⟩⟩
def mA(n:Nat):aQ:=⟨jI,[.v (.slice (.st .expr))],λ (xs:List J)=>⟨(some (cA xs<n/\xs.length+aj aw xs<=1048576),[⟨(.slice (.st .expr)),xs⟩])⟩⟩
def rA:aQ:=⟨jI,[.v (.slice (.st .expr))],λ (xs:List J)=>⟨(some (xs.length+aj aw xs<=1048576),[⟨(.slice (.st .expr)),xs⟩])⟩⟩
def Gz(x:J):Nat->aM:=λ _ => .none
def RM(n:Nat)(x:J):ck (cg [] [mA n] [] [12] [] [] [1]) (az gR) (Gz x) 0 (dN (cg [] [mA n] [] [12] [] [] [1]) gR λ r=>bB r [⟨(.st .expr),x⟩]) (fE gR [.val ⟨(.st .expr),x⟩]) =
 ((U x.au ->
 (U x.aO ->
 (x.M.length<=140737488355328 ->
 ((cA x.M<n/\x.M.length+aj aw x.M<=1048576)/\(ag x)=x))))):=by kernel_rfl
def Re(n:Nat)(hE:aI [])(hO:dL [mA n])(hM:ed [])(hS:dP []):aQ.df (n7 (n+1)):=by
 refine⟨aA iy rfl (by decide),?_⟩;show ∀ (x:J),(cA x<n+1/\aw x<=1048576)->fH prog lj [.val ⟨(.st .expr),x⟩] [⟨(.st .expr),x⟩];intro x hp;refine cV (own:=[12]) (wr:=[]) (cl:=[]) (ro:=[1]) hE hO hM hS iy Bx (Gz x) ?_;rewrite [RM n x];rw[qU] at hp;have f0k:=dX x;refine λ _ _ _=>⟨?_,?_⟩;all_goals try and_intros
 all_goals try (first|with_reducible rfl|with_reducible assumption)
 all_goals try simp only[J.eta,ae.eta,aH.eta,aU,bM,ct] at *
 all_goals first|rfl|trivial|omega|(simp only[b0N,b0M,aC,U,cb,cM,ca,bF] at *;omega)|(simp[aC,U] at *;omega)|grind
def Eo(xs:List J):Nat->aM:=(λ zb=>if Nat.beq zb 0 then .mk (Nat) (λ k=>k<=xs.length) (λ k=>xs.length - k) [] [1,5,6,7] (λ k=>[(4, .aT ⟨(.int .i64),((k:Int):Int)⟩),(3, .aD 7)]) [0,2,3,4,8,9,10,11,12,13,14,15,16,17,18,19,20,21,22] (λ k=>[(7, .aD (.st .expr) (fill xs k zE:List J))]) [] [] (λ k=>λ _ => .none) else .none)
def P4(n:Nat)(xs:List J):ck (cg [] [n7 n] [] [7,20] []) (az gl) (Eo xs) 0 (dN (cg [] [n7 n] [] [7,20] []) gl λ r=>bB r [⟨(.slice (.st .expr)),xs⟩]) (fE gl [.val ⟨(.slice (.st .expr)),xs⟩]) =
 ((U ((xs.length:Int)) ->
 (ca ((xs.length:Int)) ((xs.length:Int)) 40/\((∃ k1:Nat,(k1<=xs.length/\((xs=xs/\(True/\(True/\((0:Int)=(k1:Int)/\True))))/\((List.replicate (Int.toNat ((xs.length:Int))) zE)=(fill xs k1 zE)/\True))))/\(∀ k1:Nat,(k1<=xs.length ->
 (U ((xs.length:Int)) ->
 (((decide ((k1:Int)<((xs.length:Int))))=true ->
 (aC (k1:Int) xs.length/\((cA (xs.getD k1 zE)<n/\aw (xs.getD k1 zE)<=1048576)/\(aC (k1:Int) (fill xs k1 zE).length/\(U ((k1:Int)+(1:Int))/\(∃ k2:Nat,(k2<=xs.length/\(xs.length - k2<xs.length - k1/\((xs=xs/\(True/\(True/\(((k1:Int)+(1:Int))=(k2:Int)/\True))))/\(((fill xs k1 zE).set k1 (ag (xs.getD k1 zE)))=(fill xs k2 zE)/\True))))))))))/\((decide ((k1:Int)<((xs.length:Int))))=false ->
 (fill xs k1 zE)=xs))))))))):=by kernel_rfl
def Pk(n:Nat)(hE:aI [])(hO:dL [n7 n])(hM:ed [])(hS:dP []):aQ.df (mA (n+1)):=by
 refine⟨aA gA rfl (by decide),?_⟩;show ∀ (xs:List J),(cA xs<n+1/\xs.length+aj aw xs<=1048576)->fH prog jI [.val ⟨(.slice (.st .expr)),xs⟩] [⟨(.slice (.st .expr)),xs⟩];intro xs hp;refine cV (own:=[7,20]) (wr:=[]) (cl:=[]) (ro:=[]) hE hO hM hS gA zy (Eo xs) ?_;rewrite [P4 n xs];refine λ _=>⟨?_,⟨0,?_,⟨rfl,af,af,?_,af⟩,?_,af⟩,λ k1 _=>have HA:=im xs zE k1;have HB:=mC xs zE k1;have HC:=iq xs zE zE k1;have Up:=pS aw zE xs k1;have a8J:=cx zE xs k1;λ _=>⟨λ _=>⟨?_,?_,?_,?_,k1+1,?_,?_,⟨rfl,af,af,?_,af⟩,?_,af⟩,λ _=>?_⟩⟩;all_goals try and_intros
 all_goals try (first|with_reducible rfl|with_reducible assumption)
 all_goals try simp only[J.eta,ae.eta,aH.eta,aU,bM,ct] at *
 all_goals first|rfl|trivial|omega|(simp only[b0N,b0M,aC,U,cb,cM,ca,bF] at *;omega)|(simp[aC,U] at *;omega)|grind|exact qv xs _|(simp only[b0N,b0M] at *;first|exact iq _ _ _ _ (by omega)|exact im _ _ _ (by omega)|(simp only[ca];omega))
def zj:∀ n,dL [n7 n,mA n]
 | 0=>⟨⟨aA iy rfl (by decide),λ _ h=>absurd h.1 (b1H _)⟩,⟨aA gA rfl (by decide),λ _ h=>absurd h.1 (b1H _)⟩,af⟩
 | n+1=>by
  have ih:=zj n;exact⟨Re n trivial ⟨ih.2.1,af⟩ trivial trivial,Pk n trivial ⟨ih.1,af⟩ trivial trivial,af⟩
def AF:aQ.df jH :=
 ⟨aA iy rfl (by decide),λ x hp=>(zj (cA x+1)).1.2 x (⟨b1D _,hp⟩)⟩
def Ko:aQ.df rA :=
 ⟨aA gA rfl (by decide),λ xs hp=>(zj (cA xs+1)).2.1.2 xs (⟨b1D _,hp⟩)⟩
mutual
def aJ:J->Nat
 | ⟨_,_,ks⟩=>2+Cz ks
def Cz:List J->Nat
 | []=>0
 | x::xs=>aJ x+Cz xs
end
def vH:∀ xs,Cz xs=aj aJ xs
 | []=>rfl
 | x::xs=>by rw[Cz,aj,vH xs]
def Uy(x:J):aJ x=2+aj aJ x.M:=by
 cases x;simp[aJ,vH]
mutual
def QL(k:Int):J->J
 | ⟨_,_,ks⟩=>⟨k,k+1,bz (k+2) ks⟩
def bz(k:Int):List J->List J
 | []=>[]
 | x::xs=>QL k x::bz (k+(aJ x:Int)) xs
end
def a6E(k:Int)(x:J):QL k x=⟨k,k+1,bz (k+2) x.M⟩:=by cases x;rfl
def oY:∀ (k:Int) (xs:List J),(bz k xs).length=xs.length
 | _,[]=>rfl
 | k,x::xs=>by simp[bz,oY _ xs]
def ME(z:J):∀ (k:Int) (xs:List J) (i:Nat),i<xs.length->(bz k xs).getD i z=QL (k+(aj aJ (xs.take i):Int)) (xs.getD i z)
 | k,[],i,h=>by simp at h
 | k,x::xs,0,h=>by simp[bz,aj]
 | k,x::xs,i+1,h=>by
  have:=ME z (k+(aJ x:Int)) xs i (by simpa using h);simp only[bz,List.getD_cons_succ,this,List.take_succ_cons,aj];congr 1;omega
def ZQ:∀ xs:List J,xs.length<=aj aJ xs
 | []=>by simp[aj]
 | x::xs=>by
  have:=ZQ xs;have:=Uy x;simp only[aj,b0Z];omega
def Rk{α:Type}(l:List α)(i:Nat)(y z:α)(h:i<l.length):(l.set i y).getD i z=y:=by
 simp[List.getD,h]
def a5C(k:Int)(xs:List J)(i:Nat)(z:J)(h:i<xs.length)(y1 y2 y3:J)(h3:y3=QL (k+(aj aJ (xs.take i):Int)) (xs.getD i z)) :
  (((half (bz k xs) xs i).set i y1).set i y2).set i y3=half (bz k xs) xs (i+1):=by
 rw[b3O,b3O,h3,<-ME z k xs i h,Qy _ _ z i (oY k xs) h]
def fJ(n:Nat):MK:=⟨va,⟨(.slice (.st .expr)),λ (xs:List J) (k:Int)=>(some (cA xs<n/\0<=k/\k+(aj aJ xs:Int)<=4611686018427387904),bz k xs,k+(aj aJ xs:Int))⟩⟩
def cW:MK:=⟨va,⟨(.slice (.st .expr)),λ (xs:List J) (k:Int)=>(some (0<=k/\k+(aj aJ xs:Int)<=4611686018427387904),bz k xs,k+(aj aJ xs:Int))⟩⟩
def tq(xs:List J)(k:Int):Nat->aM:=(λ zb=>if Nat.beq zb 0 then .mk (Nat) (λ i=>i<=xs.length) (λ i=>xs.length - i) [] [2,3] (λ i=>[(5, .aT ⟨(.int .i64),((i:Int):Int)⟩),(1, .aT ⟨(.int .i64),(k+(aj aJ (xs.take i):Int):Int)⟩),(0, .aD 50)]) [0,1,4,5,6,7,8,9,10,11,12,13,14,15,16,17,18,19,20,21,22,23,24,25,26,27,28,29,30,31,32,33] (λ i=>[(50, .aD (.st .expr) (half (bz k xs) xs i:List J))]) [] [] (λ i=>λ _ => .none) else .none)
def KE(n:Nat)(xs:List J)(k:Int):ck (cg [] [] [fJ n] [32] []) (az eM) (tq xs k) 0 (fY eM (fJ (n+1)).m xs k) (du eM ⟨(.slice (.st .expr)),xs⟩ k) =
 (((∃ i1:Nat,(i1<=xs.length/\((True/\(k=(k+(aj aJ (xs.take i1):Int))/\((0:Int)=(0:Int)/\((0:Int)=(i1:Int)/\True))))/\(xs=(half (bz k xs) xs i1)/\True))))/\(∀ i1:Nat,(i1<=xs.length ->
 (((decide ((i1:Int)<(((half (bz k xs) xs i1).length:Int))))=true ->
 (aC (i1:Int) (half (bz k xs) xs i1).length/\(U ((k+(aj aJ (xs.take i1):Int))+(1:Int))/\(aC (i1:Int) ((half (bz k xs) xs i1).set i1 (J.mk (k+(aj aJ (xs.take i1):Int)) ((half (bz k xs) xs i1).getD i1 zE).aO ((half (bz k xs) xs i1).getD i1 zE).M)).length/\(U (((k+(aj aJ (xs.take i1):Int))+(1:Int))+(1:Int))/\(aC (i1:Int) (((half (bz k xs) xs i1).set i1 (J.mk (k+(aj aJ (xs.take i1):Int)) ((half (bz k xs) xs i1).getD i1 zE).aO ((half (bz k xs) xs i1).getD i1 zE).M)).set i1 (J.mk (((half (bz k xs) xs i1).set i1 (J.mk (k+(aj aJ (xs.take i1):Int)) ((half (bz k xs) xs i1).getD i1 zE).aO ((half (bz k xs) xs i1).getD i1 zE).M)).getD i1 zE).au ((k+(aj aJ (xs.take i1):Int))+(1:Int)) (((half (bz k xs) xs i1).set i1 (J.mk (k+(aj aJ (xs.take i1):Int)) ((half (bz k xs) xs i1).getD i1 zE).aO ((half (bz k xs) xs i1).getD i1 zE).M)).getD i1 zE).M)).length/\((cA ((((half (bz k xs) xs i1).set i1 (J.mk (k+(aj aJ (xs.take i1):Int)) ((half (bz k xs) xs i1).getD i1 zE).aO ((half (bz k xs) xs i1).getD i1 zE).M)).set i1 (J.mk (((half (bz k xs) xs i1).set i1 (J.mk (k+(aj aJ (xs.take i1):Int)) ((half (bz k xs) xs i1).getD i1 zE).aO ((half (bz k xs) xs i1).getD i1 zE).M)).getD i1 zE).au ((k+(aj aJ (xs.take i1):Int))+(1:Int)) (((half (bz k xs) xs i1).set i1 (J.mk (k+(aj aJ (xs.take i1):Int)) ((half (bz k xs) xs i1).getD i1 zE).aO ((half (bz k xs) xs i1).getD i1 zE).M)).getD i1 zE).M)).getD i1 zE).M<n/\0<=(((k+(aj aJ (xs.take i1):Int))+(1:Int))+(1:Int))/\(((k+(aj aJ (xs.take i1):Int))+(1:Int))+(1:Int))+(aj aJ ((((half (bz k xs) xs i1).set i1 (J.mk (k+(aj aJ (xs.take i1):Int)) ((half (bz k xs) xs i1).getD i1 zE).aO ((half (bz k xs) xs i1).getD i1 zE).M)).set i1 (J.mk (((half (bz k xs) xs i1).set i1 (J.mk (k+(aj aJ (xs.take i1):Int)) ((half (bz k xs) xs i1).getD i1 zE).aO ((half (bz k xs) xs i1).getD i1 zE).M)).getD i1 zE).au ((k+(aj aJ (xs.take i1):Int))+(1:Int)) (((half (bz k xs) xs i1).set i1 (J.mk (k+(aj aJ (xs.take i1):Int)) ((half (bz k xs) xs i1).getD i1 zE).aO ((half (bz k xs) xs i1).getD i1 zE).M)).getD i1 zE).M)).getD i1 zE).M:Int)<=4611686018427387904)/\(U ((i1:Int)+(1:Int))/\(∃ i2:Nat,(i2<=xs.length/\(xs.length - i2<xs.length - i1/\((True/\(((((k+(aj aJ (xs.take i1):Int))+(1:Int))+(1:Int))+(aj aJ ((((half (bz k xs) xs i1).set i1 (J.mk (k+(aj aJ (xs.take i1):Int)) ((half (bz k xs) xs i1).getD i1 zE).aO ((half (bz k xs) xs i1).getD i1 zE).M)).set i1 (J.mk (((half (bz k xs) xs i1).set i1 (J.mk (k+(aj aJ (xs.take i1):Int)) ((half (bz k xs) xs i1).getD i1 zE).aO ((half (bz k xs) xs i1).getD i1 zE).M)).getD i1 zE).au ((k+(aj aJ (xs.take i1):Int))+(1:Int)) (((half (bz k xs) xs i1).set i1 (J.mk (k+(aj aJ (xs.take i1):Int)) ((half (bz k xs) xs i1).getD i1 zE).aO ((half (bz k xs) xs i1).getD i1 zE).M)).getD i1 zE).M)).getD i1 zE).M:Int))=(k+(aj aJ (xs.take i2):Int))/\((0:Int)=(0:Int)/\(((i1:Int)+(1:Int))=(i2:Int)/\True))))/\(((((half (bz k xs) xs i1).set i1 (J.mk (k+(aj aJ (xs.take i1):Int)) ((half (bz k xs) xs i1).getD i1 zE).aO ((half (bz k xs) xs i1).getD i1 zE).M)).set i1 (J.mk (((half (bz k xs) xs i1).set i1 (J.mk (k+(aj aJ (xs.take i1):Int)) ((half (bz k xs) xs i1).getD i1 zE).aO ((half (bz k xs) xs i1).getD i1 zE).M)).getD i1 zE).au ((k+(aj aJ (xs.take i1):Int))+(1:Int)) (((half (bz k xs) xs i1).set i1 (J.mk (k+(aj aJ (xs.take i1):Int)) ((half (bz k xs) xs i1).getD i1 zE).aO ((half (bz k xs) xs i1).getD i1 zE).M)).getD i1 zE).M)).set i1 (J.mk ((((half (bz k xs) xs i1).set i1 (J.mk (k+(aj aJ (xs.take i1):Int)) ((half (bz k xs) xs i1).getD i1 zE).aO ((half (bz k xs) xs i1).getD i1 zE).M)).set i1 (J.mk (((half (bz k xs) xs i1).set i1 (J.mk (k+(aj aJ (xs.take i1):Int)) ((half (bz k xs) xs i1).getD i1 zE).aO ((half (bz k xs) xs i1).getD i1 zE).M)).getD i1 zE).au ((k+(aj aJ (xs.take i1):Int))+(1:Int)) (((half (bz k xs) xs i1).set i1 (J.mk (k+(aj aJ (xs.take i1):Int)) ((half (bz k xs) xs i1).getD i1 zE).aO ((half (bz k xs) xs i1).getD i1 zE).M)).getD i1 zE).M)).getD i1 zE).au ((((half (bz k xs) xs i1).set i1 (J.mk (k+(aj aJ (xs.take i1):Int)) ((half (bz k xs) xs i1).getD i1 zE).aO ((half (bz k xs) xs i1).getD i1 zE).M)).set i1 (J.mk (((half (bz k xs) xs i1).set i1 (J.mk (k+(aj aJ (xs.take i1):Int)) ((half (bz k xs) xs i1).getD i1 zE).aO ((half (bz k xs) xs i1).getD i1 zE).M)).getD i1 zE).au ((k+(aj aJ (xs.take i1):Int))+(1:Int)) (((half (bz k xs) xs i1).set i1 (J.mk (k+(aj aJ (xs.take i1):Int)) ((half (bz k xs) xs i1).getD i1 zE).aO ((half (bz k xs) xs i1).getD i1 zE).M)).getD i1 zE).M)).getD i1 zE).aO (bz (((k+(aj aJ (xs.take i1):Int))+(1:Int))+(1:Int)) ((((half (bz k xs) xs i1).set i1 (J.mk (k+(aj aJ (xs.take i1):Int)) ((half (bz k xs) xs i1).getD i1 zE).aO ((half (bz k xs) xs i1).getD i1 zE).M)).set i1 (J.mk (((half (bz k xs) xs i1).set i1 (J.mk (k+(aj aJ (xs.take i1):Int)) ((half (bz k xs) xs i1).getD i1 zE).aO ((half (bz k xs) xs i1).getD i1 zE).M)).getD i1 zE).au ((k+(aj aJ (xs.take i1):Int))+(1:Int)) (((half (bz k xs) xs i1).set i1 (J.mk (k+(aj aJ (xs.take i1):Int)) ((half (bz k xs) xs i1).getD i1 zE).aO ((half (bz k xs) xs i1).getD i1 zE).M)).getD i1 zE).M)).getD i1 zE).M)))=(half (bz k xs) xs i2)/\True)))))))))))))/\((decide ((i1:Int)<(((half (bz k xs) xs i1).length:Int))))=false ->
 ((k+(aj aJ (xs.take i1):Int))=(k+(aj aJ xs:Int))/\(half (bz k xs) xs i1)=(bz k xs)))))))):=by kernel_rfl
def Ku(n:Nat)(hE:aI [])(hO:dL [])(hM:ed [fJ n])(hS:dP []):MK.Good (fJ (n+1)):=by
 refine⟨aA oP rfl (by decide),oX (own:=[32]) (wr:=[]) (cl:=[]) (ro:=[]) hE hO hM hS oP HI (λ xs k=>tq xs k) (λ x=>b1r rfl) (b1r (by kernel_rfl)) ?_⟩;show ∀ (xs:List J) (k:Int),(cA xs<n+1/\0<=k/\k+(aj aJ xs:Int)<=4611686018427387904)->U k->ck (cg [] [] [fJ n] [32] []) (az eM) (tq xs k) 0 (fY eM (fJ (n+1)).m xs k) (du eM ⟨(.slice (.st .expr)),xs⟩ k);intro xs k hp hk;rewrite [KE n xs k];have f0:=zM (bz k xs) xs;have f1:=pT aJ xs;have f2:=ZQ xs;refine⟨⟨0,?_,⟨af,?_,rfl,?_,af⟩,?_,af⟩,λ i1 _=>have KO:=Js (bz k xs) xs i1 (oY k xs);have yj:=uB (bz k xs) xs i1 (oY k xs);have Dy:=Mm (bz k xs) xs zE i1 (oY k xs);have NK:=jB aJ zE xs i1;have Xk:=cJ aJ xs i1;have ZM:=cJ aJ xs (i1+1);have a2p:=ou aJ xs i1;have a2q:=Uy (xs.getD i1 zE);have a2r:=cx zE xs i1;have a4B:=dX (xs.getD i1 zE);have a4z:=a6E (k+(aj aJ (xs.take i1):Int)) (xs.getD i1 zE);have a4A:=(λ (y:J) (h:i1<xs.length)=>Rk (half (bz k xs) xs i1) i1 y zE (by rw[uB _ _ i1 (oY k xs)];exact h));have a7N:=(λ (h:i1<xs.length) (y1 y2 y3:J)=>a5C k xs i1 zE h y1 y2 y3);⟨λ _=>⟨?_,?_,?_,?_,?_,?_,?_,i1+1,?_,?_,⟨af,?_,rfl,?_,af⟩,?_,af⟩,λ _=>⟨?_,?_⟩⟩⟩;all_goals try and_intros
 all_goals first|rfl|trivial|omega|(simp only[b3O,b2k,b0N,b0M,aC,U] at *;first|omega|(have hi:i2<xs.length:=by omega);simp only[a4A _ hi,Dy hi];first|omega|(refine a7N hi (J.mk 0 0 []) (J.mk 0 0 []) _ ?_;rw[a4z,Int.add_assoc];rfl))|grind
def FT:∀ n,ed [fJ n]
 | 0=>⟨⟨aA oP rfl (by decide),λ _ _ _ _ _ h=>absurd (show cA _<0 from h.1) (b1H _)⟩,af⟩
 | n+1=>by
  have ih:=FT n;exact⟨Ku n trivial trivial ⟨ih.1,af⟩ trivial,af⟩
def lB:MK.Good cW :=
 ⟨aA oP rfl (by decide),λ (xs:List J) (k:Int) w v fp (hp:0<=k/\k+(aj aJ xs:Int)<=4611686018427387904)=>(FT (cA xs+1)).1.2 xs k w v fp (show (cA xs<cA xs+1/\(0<=k/\k+(aj aJ xs:Int)<=4611686018427387904)) from ⟨b1D _,hp⟩)⟩
def gY:MK:=⟨Et,⟨(.st .expr),λ (x:J) (k:Int)=>(some (0<=k/\k+(aj aJ x.M:Int)<=4611686018427387904),(J.mk x.au x.aO (bz k x.M)),k+(aj aJ x.M:Int))⟩⟩
def uO(x:J)(k:Int):Nat->aM:=λ _ => .none
def Nf(x:J)(k:Int):ck (cg [] [] [cW] [8] []) (az ft) (uO x k) 0 (fY ft gY.m x k) (du ft ⟨(.st .expr),x⟩ k) =
 (((0<=k/\k+(aj aJ x.M:Int)<=4611686018427387904)/\((k+(aj aJ x.M:Int))=(k+(aj aJ x.M:Int))/\(J.mk x.au x.aO (bz k x.M))=(J.mk x.au x.aO (bz k x.M))))):=by kernel_rfl
def MN(hE:aI [])(hO:dL [])(hM:ed [cW])(hS:dP []):MK.Good gY:=by
 refine⟨aA Bq rfl (by decide),oX (own:=[8]) (wr:=[]) (cl:=[]) (ro:=[]) hE hO hM hS Bq JS (λ x k=>uO x k) (λ x=>b1r rfl) (b1r (by kernel_rfl)) ?_⟩;show ∀ (x:J) (k:Int),(0<=k/\k+(aj aJ x.M:Int)<=4611686018427387904)->U k->ck (cg [] [] [cW] [8] []) (az ft) (uO x k) 0 (fY ft gY.m x k) (du ft ⟨(.st .expr),x⟩ k);intro x k hp hk;rewrite [Nf x k];refine⟨?_,⟨rfl,rfl⟩⟩;all_goals try and_intros
 all_goals first|rfl|trivial|omega|(simp only[b0N,b0M,aC,U,cb,cM,ca,bF] at *;omega)|(simp[aC,U] at *;omega)|grind
def IE:MK.Good gY:=MN trivial trivial ⟨lB,af⟩ trivial
end
end Go.Proofs.YtmjfpcajohhbeaaGreatDoor

namespace Go.Proofs.YtmjfpcajohhbeaaGreatDoor
noncomputable section
def Am{α:Type}(fG:α->Nat)(mk:Int->α->α)(k:Int):List α->List α
 | []=>[]
 | x::xs=>mk k x::Am fG mk (k+(fG x:Int)) xs
def oI{α:Type}(fG:α->Nat)(mk:Int->α->α):∀ (k:Int) (xs:List α),(Am fG mk k xs).length=xs.length
 | _,[]=>rfl
 | k,x::xs=>by simp[Am,oI fG mk _ xs]
def XX{α:Type}(fG:α->Nat)(mk:Int->α->α)(z:α):∀ (k:Int) (xs:List α) (i:Nat),i<xs.length->(Am fG mk k xs).getD i z=mk (k+(aj fG (xs.take i):Int)) (xs.getD i z)
 | k,[],i,h=>by simp at h
 | k,x::xs,0,h=>by simp[Am,aj]
 | k,x::xs,i+1,h=>by
  have:=XX fG mk z (k+(fG x:Int)) xs i (by simpa using h);simp only[Am,List.getD_cons_succ,this,List.take_succ_cons,aj];congr 1;omega
def XY{α:Type}(fG:α->Nat)(mk:Int->α->α)(k:Int)(xs:List α)(i:Nat)(z:α)(h:i<xs.length)(y:α)(e:y=mk (k+(aj fG (xs.take i):Int)) (xs.getD i z)) :
  (half (Am fG mk k xs) xs i).set i y=half (Am fG mk k xs) xs (i+1):=by
 rw[e,<-XX fG mk z k xs i h,Qy _ _ z i (oI fG mk k xs) h]
def Ql{α:Type}(fG:α->Nat)(h:∀ x,1<=fG x):∀ xs:List α,xs.length<=aj fG xs
 | []=>by simp[aj]
 | x::xs=>by
  have:=Ql fG h xs;have:=h x;simp only[aj,b0Z];omega
end
end Go.Proofs.YtmjfpcajohhbeaaGreatDoor

set_option maxRecDepth 4000
set_option maxHeartbeats 4000000
namespace Go.Proofs.YtmjfpcajohhbeaaGreatDoor
noncomputable section
def ef:aQ:=⟨jR,[.v (.st .proofStep)],λ (x:O)=>⟨(some (aK x<=1048576),[⟨(.st .proofStep),x⟩])⟩⟩
def xq(x:O):Nat->aM:=λ _ => .none
def Ho(x:O):ck (cg [] [my,rA] [] [12,16,20] [] [] [1]) (az dS) (xq x) 0 (dN (cg [] [my,rA] [] [12,16,20] [] [] [1]) dS λ r=>bB r [⟨(.st .proofStep),x⟩]) (fE dS [.val ⟨(.st .proofStep),x⟩]) =
 ((U x.use ->
 (x.path.length<=140737488355328 ->
 (x.path.length<=1048576/\(x.ar.length<=140737488355328 ->
 (x.ar.length+aj aw x.ar<=1048576/\(x.bo.length<=140737488355328 ->
 (x.bo.length+aj aw x.bo<=1048576/\x=x)))))))):=by kernel_rfl
def He(hE:aI [])(hO:dL [my,rA])(hM:ed [])(hS:dP []):aQ.df ef:=by
 refine⟨aA ma rfl (by decide),?_⟩;show ∀ (x:O),(aK x<=1048576)->fH prog jR [.val ⟨(.st .proofStep),x⟩] [⟨(.st .proofStep),x⟩];intro x hp;refine cV (own:=[12,16,20]) (wr:=[]) (cl:=[]) (ro:=[1]) hE hO hM hS ma uq (xq x) ?_;rewrite [Ho x];rw[ov] at hp;refine λ _ _=>⟨?_,λ _=>⟨?_,λ _=>⟨?_,rfl⟩⟩⟩;all_goals try and_intros
 all_goals first|rfl|trivial|omega|(simp only[b0N,b0M,aC,U,cb,cM,ca,bF] at *;omega)|(simp[aC,U] at *;omega)|grind
def ub:aQ.df ef:=He trivial ⟨IS,Ko,af⟩ trivial trivial
def iG:aQ:=⟨jg,[.v (.slice (.st .proofStep))],λ (xs:List O)=>⟨(some (xs.length+aj aK xs<=1048576),[⟨(.slice (.st .proofStep)),xs⟩])⟩⟩
def vC(xs:List O):Nat->aM:=(λ zb=>if Nat.beq zb 0 then .mk (Nat) (λ k=>k<=xs.length) (λ k=>xs.length - k) [] [1,5,6,7] (λ k=>[(4, .aT ⟨(.int .i64),((k:Int):Int)⟩),(3, .aD 7)]) [0,2,3,4,8,9,10,11,12,13,14,15,16,17,18,19,20,21,22] (λ k=>[(7, .aD (.st .proofStep) (fill xs k (O.mk (0:Int) false [] [] []):List O))]) [] [] (λ k=>λ _ => .none) else .none)
def FL(xs:List O):ck (cg [] [ef] [] [7,20] []) (az dF) (vC xs) 0 (dN (cg [] [ef] [] [7,20] []) dF λ r=>bB r [⟨(.slice (.st .proofStep)),xs⟩]) (fE dF [.val ⟨(.slice (.st .proofStep)),xs⟩]) =
 ((U ((xs.length:Int)) ->
 (ca ((xs.length:Int)) ((xs.length:Int)) 88/\((∃ k1:Nat,(k1<=xs.length/\((xs=xs/\(True/\(True/\((0:Int)=(k1:Int)/\True))))/\((List.replicate (Int.toNat ((xs.length:Int))) (O.mk (0:Int) false [] [] []))=(fill xs k1 (O.mk (0:Int) false [] [] []))/\True))))/\(∀ k1:Nat,(k1<=xs.length ->
 (U ((xs.length:Int)) ->
 (((decide ((k1:Int)<((xs.length:Int))))=true ->
 (aC (k1:Int) xs.length/\(aK (xs.getD k1 (O.mk (0:Int) false [] [] []))<=1048576/\(aC (k1:Int) (fill xs k1 (O.mk (0:Int) false [] [] [])).length/\(U ((k1:Int)+(1:Int))/\(∃ k2:Nat,(k2<=xs.length/\(xs.length - k2<xs.length - k1/\((xs=xs/\(True/\(True/\(((k1:Int)+(1:Int))=(k2:Int)/\True))))/\(((fill xs k1 (O.mk (0:Int) false [] [] [])).set k1 (xs.getD k1 (O.mk (0:Int) false [] [] [])))=(fill xs k2 (O.mk (0:Int) false [] [] []))/\True))))))))))/\((decide ((k1:Int)<((xs.length:Int))))=false ->
 (fill xs k1 (O.mk (0:Int) false [] [] []))=xs))))))))):=by kernel_rfl
def Fw(hE:aI [])(hO:dL [ef])(hM:ed [])(hS:dP []):aQ.df iG:=by
 refine⟨aA ly rfl (by decide),?_⟩;show ∀ (xs:List O),(xs.length+aj aK xs<=1048576)->fH prog jg [.val ⟨(.slice (.st .proofStep)),xs⟩] [⟨(.slice (.st .proofStep)),xs⟩];intro xs hp;refine cV (own:=[7,20]) (wr:=[]) (cl:=[]) (ro:=[]) hE hO hM hS ly tL (vC xs) ?_;rewrite [FL xs];refine λ _=>⟨?_,⟨0,?_,⟨rfl,af,af,?_,af⟩,?_,af⟩,λ k1 _=>have HA:=im xs (O.mk (0:Int) false [] [] []) k1;have HB:=mC xs (O.mk (0:Int) false [] [] []) k1;have HC:=iq xs (O.mk (0:Int) false [] [] []) (O.mk (0:Int) false [] [] []) k1;have Up:=pS aK (O.mk (0:Int) false [] [] []) xs k1;λ _=>⟨λ _=>⟨?_,?_,?_,?_,k1+1,?_,?_,⟨rfl,af,af,?_,af⟩,?_,af⟩,λ _=>?_⟩⟩;all_goals try and_intros
 all_goals first|rfl|trivial|omega|(simp only[b0N,b0M,aC,U,cb,cM,ca,bF] at *;omega)|(simp[aC,U] at *;omega)|grind|exact qv xs _|(simp only[b0N,b0M] at *;first|exact iq _ _ _ _ (by omega)|exact im _ _ _ (by omega)|(simp only[ca];omega))
def CT:aQ.df iG:=Fw trivial ⟨ub,af⟩ trivial trivial
def nZ:aQ:=⟨pG,[.v (.st .claim)],λ (x:ae)=>⟨(some (bD x<=1048576),[⟨(.st .claim),x⟩])⟩⟩
def En(x:ae):Nat->aM:=λ _ => .none
def P3(x:ae):ck (cg [] [jH,iG] [] [6,10,20] [] [] [1]) (az gj) (En x) 0 (dN (cg [] [jH,iG] [] [6,10,20] [] [] [1]) gj λ r=>bB r [⟨(.st .claim),x⟩]) (fE gj [.val ⟨(.st .claim),x⟩]) =
 ((aw x.left<=1048576/\(aw x.right<=1048576/\(U x.cj ->
 (U x.ref ->
 (x.steps.length<=140737488355328 ->
 (x.steps.length+aj aK x.steps<=1048576/\(HU x)=x))))))):=by kernel_rfl
def Pj(hE:aI [])(hO:dL [jH,iG])(hM:ed [])(hS:dP []):aQ.df nZ:=by
 refine⟨aA ra rfl (by decide),?_⟩;show ∀ (x:ae),(bD x<=1048576)->fH prog pG [.val ⟨(.st .claim),x⟩] [⟨(.st .claim),x⟩];intro x hp;refine cV (own:=[6,10,20]) (wr:=[]) (cl:=[]) (ro:=[1]) hE hO hM hS ra zx (En x) ?_;rewrite [P3 x];rw[yY] at hp;refine⟨?_,?_,λ _ _ _=>⟨?_,?_⟩⟩;all_goals try and_intros
 all_goals try (first|with_reducible rfl|with_reducible assumption)
 all_goals try simp only[J.eta,ae.eta,aH.eta,aU,bM,ct] at *
 all_goals first|rfl|trivial|omega|(simp only[b0N,b0M,aC,U,cb,cM,ca,bF] at *;omega)|(simp[aC,U] at *;omega)|grind
def Kn:aQ.df nZ:=Pj trivial ⟨AF,CT,af⟩ trivial trivial
def mw:aQ:=⟨oj,[.v (.slice (.st .claim))],λ (xs:List ae)=>⟨(some (xs.length+aj bD xs<=1048576),[⟨(.slice (.st .claim)),xs⟩])⟩⟩
def Ca(xs:List ae):Nat->aM:=(λ zb=>if Nat.beq zb 0 then .mk (Nat) (λ k=>k<=xs.length) (λ k=>xs.length - k) [] [1,5,6,7] (λ k=>[(4, .aT ⟨(.int .i64),((k:Int):Int)⟩),(3, .aD 7)]) [0,2,3,4,8,9,10,11,12,13,14,15,16,17,18,19,20,21,22] (λ k=>[(7, .aD (.st .claim) (fill xs k (ae.mk zE zE (0:Int) (0:Int) []):List ae))]) [] [] (λ k=>λ _ => .none) else .none)
def Nk(xs:List ae):ck (cg [] [nZ] [] [7,20] []) (az fu) (Ca xs) 0 (dN (cg [] [nZ] [] [7,20] []) fu λ r=>bB r [⟨(.slice (.st .claim)),xs⟩]) (fE fu [.val ⟨(.slice (.st .claim)),xs⟩]) =
 ((U ((xs.length:Int)) ->
 (ca ((xs.length:Int)) ((xs.length:Int)) 120/\((∃ k1:Nat,(k1<=xs.length/\((xs=xs/\(True/\(True/\((0:Int)=(k1:Int)/\True))))/\((List.replicate (Int.toNat ((xs.length:Int))) (ae.mk zE zE (0:Int) (0:Int) []))=(fill xs k1 (ae.mk zE zE (0:Int) (0:Int) []))/\True))))/\(∀ k1:Nat,(k1<=xs.length ->
 (U ((xs.length:Int)) ->
 (((decide ((k1:Int)<((xs.length:Int))))=true ->
 (aC (k1:Int) xs.length/\(bD (xs.getD k1 (ae.mk zE zE (0:Int) (0:Int) []))<=1048576/\(aC (k1:Int) (fill xs k1 (ae.mk zE zE (0:Int) (0:Int) [])).length/\(U ((k1:Int)+(1:Int))/\(∃ k2:Nat,(k2<=xs.length/\(xs.length - k2<xs.length - k1/\((xs=xs/\(True/\(True/\(((k1:Int)+(1:Int))=(k2:Int)/\True))))/\(((fill xs k1 (ae.mk zE zE (0:Int) (0:Int) [])).set k1 (HU (xs.getD k1 (ae.mk zE zE (0:Int) (0:Int) []))))=(fill xs k2 (ae.mk zE zE (0:Int) (0:Int) []))/\True))))))))))/\((decide ((k1:Int)<((xs.length:Int))))=false ->
 (fill xs k1 (ae.mk zE zE (0:Int) (0:Int) []))=xs))))))))):=by kernel_rfl
def MS(hE:aI [])(hO:dL [nZ])(hM:ed [])(hS:dP []):aQ.df mw:=by
 refine⟨aA qe rfl (by decide),?_⟩;show ∀ (xs:List ae),(xs.length+aj bD xs<=1048576)->fH prog oj [.val ⟨(.slice (.st .claim)),xs⟩] [⟨(.slice (.st .claim)),xs⟩];intro xs hp;refine cV (own:=[7,20]) (wr:=[]) (cl:=[]) (ro:=[]) hE hO hM hS qe yl (Ca xs) ?_;rewrite [Nk xs];refine λ _=>⟨?_,⟨0,?_,⟨rfl,af,af,?_,af⟩,?_,af⟩,λ k1 _=>have HA:=im xs (ae.mk zE zE (0:Int) (0:Int) []) k1;have HB:=mC xs (ae.mk zE zE (0:Int) (0:Int) []) k1;have HC:=iq xs (ae.mk zE zE (0:Int) (0:Int) []) (ae.mk zE zE (0:Int) (0:Int) []) k1;have Up:=pS bD (ae.mk zE zE (0:Int) (0:Int) []) xs k1;λ _=>⟨λ _=>⟨?_,?_,?_,?_,k1+1,?_,?_,⟨rfl,af,af,?_,af⟩,?_,af⟩,λ _=>?_⟩⟩;all_goals try and_intros
 all_goals try (first|with_reducible rfl|with_reducible assumption)
 all_goals try simp only[J.eta,ae.eta,aH.eta,aU,bM,ct] at *
 all_goals first|rfl|trivial|omega|(simp only[b0N,b0M,aC,U,cb,cM,ca,bF] at *;omega)|(simp[aC,U] at *;omega)|grind|exact qv xs _|(simp only[b0N,b0M] at *;first|exact iq _ _ _ _ (by omega)|exact im _ _ _ (by omega)|(simp only[ca];omega))
def IQ:aQ.df mw:=MS trivial ⟨Kn,af⟩ trivial trivial
def n0:aQ:=⟨pH,[.v (.st .proof)],λ (x:aB)=>⟨(some (cX x<=1048576),[⟨(.st .proof),x⟩])⟩⟩
def Ep(x:aB):Nat->aM:=λ _ => .none
def P5(x:aB):ck (cg [kc] [mw] [] [10] [] [] [1]) (az gm) (Ep x) 0 (dN (cg [kc] [mw] [] [10] [] [] [1]) gm λ r=>bB r [⟨(.st .proof),x⟩]) (fE gm [.val ⟨(.st .proof),x⟩]) =
 ((x.aq.length<=140737488355328 ->
 (x.aq.length+aj bD x.aq<=1048576/\x=x))):=by kernel_rfl
def Pm(hE:aI [kc])(hO:dL [mw])(hM:ed [])(hS:dP []):aQ.df n0:=by
 refine⟨aA rb rfl (by decide),?_⟩;show ∀ (x:aB),(cX x<=1048576)->fH prog pH [.val ⟨(.st .proof),x⟩] [⟨(.st .proof),x⟩];intro x hp;refine cV (own:=[10]) (wr:=[]) (cl:=[]) (ro:=[1]) hE hO hM hS rb zz (Ep x) ?_;rewrite [P5 x];rw[yZ] at hp;refine λ _=>⟨?_,rfl⟩;all_goals try and_intros
 all_goals first|rfl|trivial|omega|(simp only[b0N,b0M,aC,U,cb,cM,ca,bF] at *;omega)|(simp[aC,U] at *;omega)|grind
def Kp:aQ.df n0:=Pm ⟨DR,af⟩ ⟨IQ,af⟩ trivial trivial
def av(x:O):Nat:=2+x.path.length+aj aJ x.ar+aj aJ x.bo
def uu(x:O):av x=2+x.path.length+aj aJ x.ar+aj aJ x.bo:=rfl
def ea(k:Int)(x:O):O:=⟨k,decide ((k+1).tmod 3=0),eO (k+1+1) x.path,bz (k+1+1+(x.path.length:Int)) x.ar,bz (k+1+1+(x.path.length:Int)+(aj aJ x.ar:Int)) x.bo⟩
def QM(k:Int)(x:O):ea k x=⟨k,decide ((k+1).tmod 3=0),eO (k+1+1) x.path,bz (k+1+1+(x.path.length:Int)) x.ar,bz (k+1+1+(x.path.length:Int)+(aj aJ x.ar:Int)) x.bo⟩:=rfl
def aS(k:Int)(xs:List O)(i:Nat):List O:=half (Am av ea k xs) xs i
def Mt(k:Int)(xs:List O):xs=aS k xs 0:=zM _ _
def OH(k:Int)(xs:List O)(i:Nat)(h:xs.length<=i):aS k xs i=Am av ea k xs:=Js _ _ i (oI av ea k xs) h
def BI(k:Int)(xs:List O)(i:Nat):(aS k xs i).length=xs.length:=uB _ _ i (oI av ea k xs)
def OI(k:Int)(xs:List O)(i:Nat)(z:O)(h:i<xs.length):(aS k xs i).getD i z=xs.getD i z:=Mm _ _ z i (oI av ea k xs) h
def OJ(k:Int)(xs:List O)(i:Nat)(z y:O)(h:i<xs.length):((aS k xs i).set i y).getD i z=y:=Rk _ i y z (by rw[BI];exact h)
def hJ(k:Int)(x:O):O:=(O.mk (k) x.back x.path x.ar x.bo)
def eu(k:Int)(x:O):O:=(O.mk (k) (decide ((k+1).tmod 3=0)) x.path x.ar x.bo)
def ew(k:Int)(x:O):O:=(O.mk (k) (decide ((k+1).tmod 3=0)) (eO (k+1+1) x.path) x.ar x.bo)
def ez(k:Int)(x:O):O:=(O.mk (k) (decide ((k+1).tmod 3=0)) (eO (k+1+1) x.path) (bz (k+1+1+(x.path.length:Int)) x.ar) x.bo)
def AN(k:Int)(x:O):O:=(O.mk (k) (decide ((k+1).tmod 3=0)) (eO (k+1+1) x.path) (bz (k+1+1+(x.path.length:Int)) x.ar) (bz (k+1+1+(x.path.length:Int)+(aj aJ x.ar:Int)) x.bo))
def PB(k:Int)(x:O):AN k x=ea k x:=(QM k x).symm
def Ms(k:Int)(xs:List O)(i:Nat)(z:O)(h:i<xs.length):(aS k xs i).set i (AN (k+(aj av (xs.take i):Int)) (xs.getD i z))=aS k xs (i+1):=XY av ea k xs i z h _ (PB _ _)
def dW:MK:=⟨vb,⟨(.slice (.st .proofStep)),λ (xs:List O) (k:Int)=>(some (0<=k/\k+(aj av xs:Int)<=4611686018427387904),Am av ea k xs,k+(aj av xs:Int))⟩⟩
def og(xs:List O)(k:Int):Nat->aM:=(λ zb=>if Nat.beq zb 0 then .mk (Nat) (λ i=>i<=xs.length) (λ i=>xs.length - i) [] [2,3] (λ i=>[(5, .aT ⟨(.int .i64),((i:Int):Int)⟩),(1, .aT ⟨(.int .i64),(k+(aj av (xs.take i):Int):Int)⟩),(0, .aD 50)]) [0,1,4,5,6,7,8,9,10,11,12,13,14,15,16,17,18,19,20,21,22,23,24,25,26,27,28,29,30,31,32,33,34,35,36,37,38,39,40,41,42,43,44,45,46,47,48,49] (λ i=>[(50, .aD (.st .proofStep) (aS k xs i:List O))]) [] [] (λ i=>(λ zb=>if Nat.beq zb 100006 then .mk (Unit) (λ u=>i<xs.length) (λ u=>0) [] [2,3,6,7,8,9,10,11,12,13,14,15,16,17,18,19,20,21,22,23,24,25,26,27,28,29,30,31,32,33,34,35,36,37,38,39,40,41,42,43,44,45,46,47,48,49] (λ u=>[(5, .aT ⟨(.int .i64),((i:Int):Int)⟩),(1, .aT ⟨(.int .i64),(k+(aj av (xs.take i):Int)+1:Int)⟩),(0, .aD 50)]) [0,1,4,5,6,7,8,9,10,11,12,13,14,15,16,17,18,19,20,21,22,23,24,25,26,27,28,29,30,31,32,33,34,35,36,37,38,39,40,41,42,43,44,45,46,47,48,49] (λ u=>[(50, .aD (.st .proofStep) ((aS k xs i).set i (hJ (k+(aj av (xs.take i):Int)) (xs.getD i (O.mk (0:Int) false [] [] []))):List O))]) [] [] (λ u=>(λ zb=>if Nat.beq zb 100008 then .mk (Unit) (λ u=>i<xs.length) (λ u=>0) [] [2,3,6,7,8,9,10,11,12,13,14,15,16,17,18,19,20,21,22,23,24,25,26,27,28,29,30,31,32,33,34,35,36,37,38,39,40,41,42,43,44,45,46,47,48,49] (λ u=>[(5, .aT ⟨(.int .i64),((i:Int):Int)⟩),(1, .aT ⟨(.int .i64),(k+(aj av (xs.take i):Int)+1+1:Int)⟩),(0, .aD 50)]) [0,1,4,5,6,7,8,9,10,11,12,13,14,15,16,17,18,19,20,21,22,23,24,25,26,27,28,29,30,31,32,33,34,35,36,37,38,39,40,41,42,43,44,45,46,47,48,49] (λ u=>[(50, .aD (.st .proofStep) ((aS k xs i).set i (eu (k+(aj av (xs.take i):Int)) (xs.getD i (O.mk (0:Int) false [] [] []))):List O))]) [] [] (λ u=>(λ zb=>if Nat.beq zb 100009 then .mk (Unit) (λ u=>i<xs.length) (λ u=>0) [] [2,3,6,7,8,9,10,11,12,13,14,15,16,17,18,19,20,21,22,23,24,25,26,27,28,29,30,31,32,33,34,35,36,37,38,39,40,41,42,43,44,45,46,47,48,49] (λ u=>[(5, .aT ⟨(.int .i64),((i:Int):Int)⟩),(1, .aT ⟨(.int .i64),(k+(aj av (xs.take i):Int)+1+1+((xs.getD i (O.mk (0:Int) false [] [] [])).path.length:Int):Int)⟩),(0, .aD 50)]) [0,1,4,5,6,7,8,9,10,11,12,13,14,15,16,17,18,19,20,21,22,23,24,25,26,27,28,29,30,31,32,33,34,35,36,37,38,39,40,41,42,43,44,45,46,47,48,49] (λ u=>[(50, .aD (.st .proofStep) ((aS k xs i).set i (ew (k+(aj av (xs.take i):Int)) (xs.getD i (O.mk (0:Int) false [] [] []))):List O))]) [] [] (λ u=>(λ zb=>if Nat.beq zb 100010 then .mk (Unit) (λ u=>i<xs.length) (λ u=>0) [] [2,3,6,7,8,9,10,11,12,13,14,15,16,17,18,19,20,21,22,23,24,25,26,27,28,29,30,31,32,33,34,35,36,37,38,39,40,41,42,43,44,45,46,47,48,49] (λ u=>[(5, .aT ⟨(.int .i64),((i:Int):Int)⟩),(1, .aT ⟨(.int .i64),(k+(aj av (xs.take i):Int)+1+1+((xs.getD i (O.mk (0:Int) false [] [] [])).path.length:Int)+(aj aJ (xs.getD i (O.mk (0:Int) false [] [] [])).ar:Int):Int)⟩),(0, .aD 50)]) [0,1,4,5,6,7,8,9,10,11,12,13,14,15,16,17,18,19,20,21,22,23,24,25,26,27,28,29,30,31,32,33,34,35,36,37,38,39,40,41,42,43,44,45,46,47,48,49] (λ u=>[(50, .aD (.st .proofStep) ((aS k xs i).set i (ez (k+(aj av (xs.take i):Int)) (xs.getD i (O.mk (0:Int) false [] [] []))):List O))]) [] [] (λ u=>λ _ => .none) else .none)) else .none)) else .none)) else .none)) else .none)
def C9(xs:List O)(k:Int):ck (cg [] [] [dy,cW] [34,41,48] []) (az dq) (og xs k) 0 (fY dq dW.m xs k) (du dq ⟨(.slice (.st .proofStep)),xs⟩ k) =
 (((∃ i1:Nat,(i1<=xs.length/\((True/\(k=(k+(aj av (xs.take i1):Int))/\((0:Int)=(0:Int)/\((0:Int)=(i1:Int)/\True))))/\(xs=(aS k xs i1)/\True))))/\(∀ i1:Nat,(i1<=xs.length ->
 (((decide ((i1:Int)<(((aS k xs i1).length:Int))))=true ->
 (aC (i1:Int) (aS k xs i1).length/\((U ((k+(aj av (xs.take i1):Int))+(1:Int))/\(∃ u2:Unit,(i1<xs.length/\((True/\(((k+(aj av (xs.take i1):Int))+(1:Int))=(k+(aj av (xs.take i1):Int)+1)/\((0:Int)=(0:Int)/\((i1:Int)=(i1:Int)/\True))))/\(((aS k xs i1).set i1 (O.mk (k+(aj av (xs.take i1):Int)) ((aS k xs i1).getD i1 (O.mk (0:Int) false [] [] [])).back ((aS k xs i1).getD i1 (O.mk (0:Int) false [] [] [])).path ((aS k xs i1).getD i1 (O.mk (0:Int) false [] [] [])).ar ((aS k xs i1).getD i1 (O.mk (0:Int) false [] [] [])).bo))=((aS k xs i1).set i1 (hJ (k+(aj av (xs.take i1):Int)) (xs.getD i1 (O.mk (0:Int) false [] [] []))))/\True)))))/\(∀ u2:Unit,(i1<xs.length ->
 (((3:Int)≠(0:Int)/\U ((k+(aj av (xs.take i1):Int)+1).tmod (3:Int)))/\(aC (i1:Int) ((aS k xs i1).set i1 (hJ (k+(aj av (xs.take i1):Int)) (xs.getD i1 (O.mk (0:Int) false [] [] [])))).length/\((U ((k+(aj av (xs.take i1):Int)+1)+(1:Int))/\(∃ u3:Unit,(i1<xs.length/\((True/\(((k+(aj av (xs.take i1):Int)+1)+(1:Int))=(k+(aj av (xs.take i1):Int)+1+1)/\((0:Int)=(0:Int)/\((i1:Int)=(i1:Int)/\True))))/\((((aS k xs i1).set i1 (hJ (k+(aj av (xs.take i1):Int)) (xs.getD i1 (O.mk (0:Int) false [] [] [])))).set i1 (O.mk (((aS k xs i1).set i1 (hJ (k+(aj av (xs.take i1):Int)) (xs.getD i1 (O.mk (0:Int) false [] [] [])))).getD i1 (O.mk (0:Int) false [] [] [])).use (decide (((k+(aj av (xs.take i1):Int)+1).tmod (3:Int))=(0:Int))) (((aS k xs i1).set i1 (hJ (k+(aj av (xs.take i1):Int)) (xs.getD i1 (O.mk (0:Int) false [] [] [])))).getD i1 (O.mk (0:Int) false [] [] [])).path (((aS k xs i1).set i1 (hJ (k+(aj av (xs.take i1):Int)) (xs.getD i1 (O.mk (0:Int) false [] [] [])))).getD i1 (O.mk (0:Int) false [] [] [])).ar (((aS k xs i1).set i1 (hJ (k+(aj av (xs.take i1):Int)) (xs.getD i1 (O.mk (0:Int) false [] [] [])))).getD i1 (O.mk (0:Int) false [] [] [])).bo))=((aS k xs i1).set i1 (eu (k+(aj av (xs.take i1):Int)) (xs.getD i1 (O.mk (0:Int) false [] [] []))))/\True)))))/\(∀ u3:Unit,(i1<xs.length ->
 ((aC (i1:Int) ((aS k xs i1).set i1 (eu (k+(aj av (xs.take i1):Int)) (xs.getD i1 (O.mk (0:Int) false [] [] [])))).length/\((0<=(k+(aj av (xs.take i1):Int)+1+1)/\(k+(aj av (xs.take i1):Int)+1+1)+((((aS k xs i1).set i1 (eu (k+(aj av (xs.take i1):Int)) (xs.getD i1 (O.mk (0:Int) false [] [] [])))).getD i1 (O.mk (0:Int) false [] [] [])).path.length:Int)<=4611686018427387904)/\(∃ u4:Unit,(i1<xs.length/\((True/\(((k+(aj av (xs.take i1):Int)+1+1)+((((aS k xs i1).set i1 (eu (k+(aj av (xs.take i1):Int)) (xs.getD i1 (O.mk (0:Int) false [] [] [])))).getD i1 (O.mk (0:Int) false [] [] [])).path.length:Int))=(k+(aj av (xs.take i1):Int)+1+1+((xs.getD i1 (O.mk (0:Int) false [] [] [])).path.length:Int))/\((0:Int)=(0:Int)/\((i1:Int)=(i1:Int)/\True))))/\((((aS k xs i1).set i1 (eu (k+(aj av (xs.take i1):Int)) (xs.getD i1 (O.mk (0:Int) false [] [] [])))).set i1 (O.mk (((aS k xs i1).set i1 (eu (k+(aj av (xs.take i1):Int)) (xs.getD i1 (O.mk (0:Int) false [] [] [])))).getD i1 (O.mk (0:Int) false [] [] [])).use (((aS k xs i1).set i1 (eu (k+(aj av (xs.take i1):Int)) (xs.getD i1 (O.mk (0:Int) false [] [] [])))).getD i1 (O.mk (0:Int) false [] [] [])).back (eO (k+(aj av (xs.take i1):Int)+1+1) (((aS k xs i1).set i1 (eu (k+(aj av (xs.take i1):Int)) (xs.getD i1 (O.mk (0:Int) false [] [] [])))).getD i1 (O.mk (0:Int) false [] [] [])).path) (((aS k xs i1).set i1 (eu (k+(aj av (xs.take i1):Int)) (xs.getD i1 (O.mk (0:Int) false [] [] [])))).getD i1 (O.mk (0:Int) false [] [] [])).ar (((aS k xs i1).set i1 (eu (k+(aj av (xs.take i1):Int)) (xs.getD i1 (O.mk (0:Int) false [] [] [])))).getD i1 (O.mk (0:Int) false [] [] [])).bo))=((aS k xs i1).set i1 (ew (k+(aj av (xs.take i1):Int)) (xs.getD i1 (O.mk (0:Int) false [] [] []))))/\True))))))/\(∀ u4:Unit,(i1<xs.length ->
 ((aC (i1:Int) ((aS k xs i1).set i1 (ew (k+(aj av (xs.take i1):Int)) (xs.getD i1 (O.mk (0:Int) false [] [] [])))).length/\((0<=(k+(aj av (xs.take i1):Int)+1+1+((xs.getD i1 (O.mk (0:Int) false [] [] [])).path.length:Int))/\(k+(aj av (xs.take i1):Int)+1+1+((xs.getD i1 (O.mk (0:Int) false [] [] [])).path.length:Int))+(aj aJ (((aS k xs i1).set i1 (ew (k+(aj av (xs.take i1):Int)) (xs.getD i1 (O.mk (0:Int) false [] [] [])))).getD i1 (O.mk (0:Int) false [] [] [])).ar:Int)<=4611686018427387904)/\(∃ u5:Unit,(i1<xs.length/\((True/\(((k+(aj av (xs.take i1):Int)+1+1+((xs.getD i1 (O.mk (0:Int) false [] [] [])).path.length:Int))+(aj aJ (((aS k xs i1).set i1 (ew (k+(aj av (xs.take i1):Int)) (xs.getD i1 (O.mk (0:Int) false [] [] [])))).getD i1 (O.mk (0:Int) false [] [] [])).ar:Int))=(k+(aj av (xs.take i1):Int)+1+1+((xs.getD i1 (O.mk (0:Int) false [] [] [])).path.length:Int)+(aj aJ (xs.getD i1 (O.mk (0:Int) false [] [] [])).ar:Int))/\((0:Int)=(0:Int)/\((i1:Int)=(i1:Int)/\True))))/\((((aS k xs i1).set i1 (ew (k+(aj av (xs.take i1):Int)) (xs.getD i1 (O.mk (0:Int) false [] [] [])))).set i1 (O.mk (((aS k xs i1).set i1 (ew (k+(aj av (xs.take i1):Int)) (xs.getD i1 (O.mk (0:Int) false [] [] [])))).getD i1 (O.mk (0:Int) false [] [] [])).use (((aS k xs i1).set i1 (ew (k+(aj av (xs.take i1):Int)) (xs.getD i1 (O.mk (0:Int) false [] [] [])))).getD i1 (O.mk (0:Int) false [] [] [])).back (((aS k xs i1).set i1 (ew (k+(aj av (xs.take i1):Int)) (xs.getD i1 (O.mk (0:Int) false [] [] [])))).getD i1 (O.mk (0:Int) false [] [] [])).path (bz (k+(aj av (xs.take i1):Int)+1+1+((xs.getD i1 (O.mk (0:Int) false [] [] [])).path.length:Int)) (((aS k xs i1).set i1 (ew (k+(aj av (xs.take i1):Int)) (xs.getD i1 (O.mk (0:Int) false [] [] [])))).getD i1 (O.mk (0:Int) false [] [] [])).ar) (((aS k xs i1).set i1 (ew (k+(aj av (xs.take i1):Int)) (xs.getD i1 (O.mk (0:Int) false [] [] [])))).getD i1 (O.mk (0:Int) false [] [] [])).bo))=((aS k xs i1).set i1 (ez (k+(aj av (xs.take i1):Int)) (xs.getD i1 (O.mk (0:Int) false [] [] []))))/\True))))))/\(∀ u5:Unit,(i1<xs.length ->
 (aC (i1:Int) ((aS k xs i1).set i1 (ez (k+(aj av (xs.take i1):Int)) (xs.getD i1 (O.mk (0:Int) false [] [] [])))).length/\((0<=(k+(aj av (xs.take i1):Int)+1+1+((xs.getD i1 (O.mk (0:Int) false [] [] [])).path.length:Int)+(aj aJ (xs.getD i1 (O.mk (0:Int) false [] [] [])).ar:Int))/\(k+(aj av (xs.take i1):Int)+1+1+((xs.getD i1 (O.mk (0:Int) false [] [] [])).path.length:Int)+(aj aJ (xs.getD i1 (O.mk (0:Int) false [] [] [])).ar:Int))+(aj aJ (((aS k xs i1).set i1 (ez (k+(aj av (xs.take i1):Int)) (xs.getD i1 (O.mk (0:Int) false [] [] [])))).getD i1 (O.mk (0:Int) false [] [] [])).bo:Int)<=4611686018427387904)/\(U ((i1:Int)+(1:Int))/\(∃ i6:Nat,(i6<=xs.length/\(xs.length - i6<xs.length - i1/\((True/\(((k+(aj av (xs.take i1):Int)+1+1+((xs.getD i1 (O.mk (0:Int) false [] [] [])).path.length:Int)+(aj aJ (xs.getD i1 (O.mk (0:Int) false [] [] [])).ar:Int))+(aj aJ (((aS k xs i1).set i1 (ez (k+(aj av (xs.take i1):Int)) (xs.getD i1 (O.mk (0:Int) false [] [] [])))).getD i1 (O.mk (0:Int) false [] [] [])).bo:Int))=(k+(aj av (xs.take i6):Int))/\((0:Int)=(0:Int)/\(((i1:Int)+(1:Int))=(i6:Int)/\True))))/\((((aS k xs i1).set i1 (ez (k+(aj av (xs.take i1):Int)) (xs.getD i1 (O.mk (0:Int) false [] [] [])))).set i1 (O.mk (((aS k xs i1).set i1 (ez (k+(aj av (xs.take i1):Int)) (xs.getD i1 (O.mk (0:Int) false [] [] [])))).getD i1 (O.mk (0:Int) false [] [] [])).use (((aS k xs i1).set i1 (ez (k+(aj av (xs.take i1):Int)) (xs.getD i1 (O.mk (0:Int) false [] [] [])))).getD i1 (O.mk (0:Int) false [] [] [])).back (((aS k xs i1).set i1 (ez (k+(aj av (xs.take i1):Int)) (xs.getD i1 (O.mk (0:Int) false [] [] [])))).getD i1 (O.mk (0:Int) false [] [] [])).path (((aS k xs i1).set i1 (ez (k+(aj av (xs.take i1):Int)) (xs.getD i1 (O.mk (0:Int) false [] [] [])))).getD i1 (O.mk (0:Int) false [] [] [])).ar (bz (k+(aj av (xs.take i1):Int)+1+1+((xs.getD i1 (O.mk (0:Int) false [] [] [])).path.length:Int)+(aj aJ (xs.getD i1 (O.mk (0:Int) false [] [] [])).ar:Int)) (((aS k xs i1).set i1 (ez (k+(aj av (xs.take i1):Int)) (xs.getD i1 (O.mk (0:Int) false [] [] [])))).getD i1 (O.mk (0:Int) false [] [] [])).bo)))=(aS k xs i6)/\True))))))))))))))))))))))))/\((decide ((i1:Int)<(((aS k xs i1).length:Int))))=false ->
 ((k+(aj av (xs.take i1):Int))=(k+(aj av xs:Int))/\(aS k xs i1)=(Am av ea k xs)))))))):=by kernel_rfl
def CU(hE:aI [])(hO:dL [])(hM:ed [dy,cW])(hS:dP []):MK.Good dW:=by
 refine⟨aA tH rfl (by decide),oX (own:=[34,41,48]) (wr:=[]) (cl:=[]) (ro:=[]) hE hO hM hS tH AX (λ xs k=>og xs k) (λ x=>b1r rfl) (b1r (by kernel_rfl)) ?_⟩;show ∀ (xs:List O) (k:Int),(0<=k/\k+(aj av xs:Int)<=4611686018427387904)->U k->ck (cg [] [] [dy,cW] [34,41,48] []) (az dq) (og xs k) 0 (fY dq dW.m xs k) (du dq ⟨(.slice (.st .proofStep)),xs⟩ k);intro xs k hp hk;rewrite [C9 xs k];have f0:=Mt k xs;have f1:=pT av xs;have f2:=Ql av (λ x=>by rw[uu];omega) xs;refine⟨⟨0,?_,⟨af,?_,rfl,?_,af⟩,?_,af⟩,λ i1 _=>have KO:=OH k xs i1;have yj:=OJ k xs i1 (O.mk (0:Int) false [] [] []);have Dy:=OI k xs i1 (O.mk (0:Int) false [] [] []);have NK:=Ms k xs i1 (O.mk (0:Int) false [] [] []);have Xk:=BI k xs i1;have ZM:=jB av (O.mk (0:Int) false [] [] []) xs i1;have a2p:=cJ av xs i1;have a2q:=cJ av xs (i1+1);have a2r:=ou av xs i1;have a4B:=uu (xs.getD i1 (O.mk (0:Int) false [] [] []));⟨λ _=>⟨?_,⟨?_,(),?_,⟨af,?_,rfl,rfl,af⟩,?_,af⟩,λ u2 _=>⟨⟨?_,?_⟩,?_,⟨?_,(),?_,⟨af,?_,rfl,rfl,af⟩,?_,af⟩,λ u3 _=>⟨⟨?_,?_,(),?_,⟨af,?_,rfl,rfl,af⟩,?_,af⟩,λ u4 _=>⟨⟨?_,?_,(),?_,⟨af,?_,rfl,rfl,af⟩,?_,af⟩,λ u5 _=>⟨?_,?_,?_,i1+1,?_,?_,⟨af,?_,rfl,?_,af⟩,?_,af⟩⟩⟩⟩⟩,λ _=>⟨?_,?_⟩⟩⟩;all_goals try and_intros
 all_goals first|rfl|trivial|omega|(simp only[b3O,b2k,b0N,b0M,aC,U] at *;first|omega|exact KO (by omega)|(simp only[yj _ (by omega)];rfl)|(simp only[yj _ (by omega),Dy (by omega)];first|done|omega|rfl)|(simp only[Dy (by omega)];first|done|omega|rfl)|(simp only[yj _ (by omega)];first|omega|exact NK (by omega))|(simp only[yj _ (by omega),hJ,eu,ew,ez,AN];first|done|omega)|grind)
def Al:MK.Good dW:=CU trivial trivial ⟨uQ,lB,af⟩ trivial
def ak(x:ae):Nat:=6+aj aJ x.left.M+aj aJ x.right.M+aj av x.steps
def CA(x:ae):ak x=6+aj aJ x.left.M+aj aJ x.right.M+aj av x.steps:=rfl
def kL(k:Int)(x:ae):ae:=⟨⟨k,k+1,bz (k+1+1) x.left.M⟩,⟨k+1+1+(aj aJ x.left.M:Int),k+1+1+(aj aJ x.left.M:Int)+1,bz (k+1+1+(aj aJ x.left.M:Int)+1+1) x.right.M⟩,k+1+1+(aj aJ x.left.M:Int)+1+1+(aj aJ x.right.M:Int),k+1+1+(aj aJ x.left.M:Int)+1+1+(aj aJ x.right.M:Int)+1,Am av ea (k+1+1+(aj aJ x.left.M:Int)+1+1+(aj aJ x.right.M:Int)+1+1) x.steps⟩
def Zb(k:Int)(x:ae):kL k x=⟨⟨k,k+1,bz (k+1+1) x.left.M⟩,⟨k+1+1+(aj aJ x.left.M:Int),k+1+1+(aj aJ x.left.M:Int)+1,bz (k+1+1+(aj aJ x.left.M:Int)+1+1) x.right.M⟩,k+1+1+(aj aJ x.left.M:Int)+1+1+(aj aJ x.right.M:Int),k+1+1+(aj aJ x.left.M:Int)+1+1+(aj aJ x.right.M:Int)+1,Am av ea (k+1+1+(aj aJ x.left.M:Int)+1+1+(aj aJ x.right.M:Int)+1+1) x.steps⟩:=rfl
def aP(k:Int)(xs:List ae)(i:Nat):List ae:=half (Am ak kL k xs) xs i
def U5(k:Int)(xs:List ae):xs=aP k xs 0:=zM _ _
def WQ(k:Int)(xs:List ae)(i:Nat)(h:xs.length<=i):aP k xs i=Am ak kL k xs:=Js _ _ i (oI ak kL k xs) h
def K3(k:Int)(xs:List ae)(i:Nat):(aP k xs i).length=xs.length:=uB _ _ i (oI ak kL k xs)
def WR(k:Int)(xs:List ae)(i:Nat)(z:ae)(h:i<xs.length):(aP k xs i).getD i z=xs.getD i z:=Mm _ _ z i (oI ak kL k xs) h
def WS(k:Int)(xs:List ae)(i:Nat)(z y:ae)(h:i<xs.length):((aP k xs i).set i y).getD i z=y:=Rk _ i y z (by rw[K3];exact h)
def lr(k:Int)(x:ae):ae:=(ae.mk (J.mk (k) x.left.aO x.left.M) x.right x.cj x.ref x.steps)
def hU(k:Int)(x:ae):ae:=(ae.mk (J.mk (k) (k+1) x.left.M) x.right x.cj x.ref x.steps)
def lu(k:Int)(x:ae):ae:=(ae.mk (J.mk (k) (k+1) (bz (k+1+1) x.left.M)) x.right x.cj x.ref x.steps)
def lv(k:Int)(x:ae):ae:=(ae.mk (J.mk (k) (k+1) (bz (k+1+1) x.left.M)) (J.mk (k+1+1+(aj aJ x.left.M:Int)) x.right.aO x.right.M) x.cj x.ref x.steps)
def ia(k:Int)(x:ae):ae:=(ae.mk (J.mk (k) (k+1) (bz (k+1+1) x.left.M)) (J.mk (k+1+1+(aj aJ x.left.M:Int)) (k+1+1+(aj aJ x.left.M:Int)+1) x.right.M) x.cj x.ref x.steps)
def pc(k:Int)(x:ae):ae:=(ae.mk (J.mk (k) (k+1) (bz (k+1+1) x.left.M)) (J.mk (k+1+1+(aj aJ x.left.M:Int)) (k+1+1+(aj aJ x.left.M:Int)+1) (bz (k+1+1+(aj aJ x.left.M:Int)+1+1) x.right.M)) x.cj x.ref x.steps)
def pd(k:Int)(x:ae):ae:=(ae.mk (J.mk (k) (k+1) (bz (k+1+1) x.left.M)) (J.mk (k+1+1+(aj aJ x.left.M:Int)) (k+1+1+(aj aJ x.left.M:Int)+1) (bz (k+1+1+(aj aJ x.left.M:Int)+1+1) x.right.M)) (k+1+1+(aj aJ x.left.M:Int)+1+1+(aj aJ x.right.M:Int)) x.ref x.steps)
def jK(k:Int)(x:ae):ae:=(ae.mk (J.mk (k) (k+1) (bz (k+1+1) x.left.M)) (J.mk (k+1+1+(aj aJ x.left.M:Int)) (k+1+1+(aj aJ x.left.M:Int)+1) (bz (k+1+1+(aj aJ x.left.M:Int)+1+1) x.right.M)) (k+1+1+(aj aJ x.left.M:Int)+1+1+(aj aJ x.right.M:Int)) (k+1+1+(aj aJ x.left.M:Int)+1+1+(aj aJ x.right.M:Int)+1) x.steps)
def M7(k:Int)(x:ae):ae:=(ae.mk (J.mk (k) (k+1) (bz (k+1+1) x.left.M)) (J.mk (k+1+1+(aj aJ x.left.M:Int)) (k+1+1+(aj aJ x.left.M:Int)+1) (bz (k+1+1+(aj aJ x.left.M:Int)+1+1) x.right.M)) (k+1+1+(aj aJ x.left.M:Int)+1+1+(aj aJ x.right.M:Int)) (k+1+1+(aj aJ x.left.M:Int)+1+1+(aj aJ x.right.M:Int)+1) (Am av ea (k+1+1+(aj aJ x.left.M:Int)+1+1+(aj aJ x.right.M:Int)+1+1) x.steps))
def W3(k:Int)(x:ae):M7 k x=kL k x:=(Zb k x).symm
def U4(k:Int)(xs:List ae)(i:Nat)(z:ae)(h:i<xs.length):(aP k xs i).set i (M7 (k+(aj ak (xs.take i):Int)) (xs.getD i z))=aP k xs (i+1):=XY ak kL k xs i z h _ (W3 _ _)
def fI:MK:=⟨Av,⟨(.slice (.st .claim)),λ (xs:List ae) (k:Int)=>(some (0<=k/\k+(aj ak xs:Int)<=4611686018427387904),Am ak kL k xs,k+(aj ak xs:Int))⟩⟩
def rZ(xs:List ae)(k:Int):Nat->aM:=(λ zb=>if Nat.beq zb 0 then .mk (Nat) (λ i=>i<=xs.length) (λ i=>xs.length - i) [] [2,3,50] (λ i=>[(5, .aT ⟨(.int .i64),((i:Int):Int)⟩),(1, .aT ⟨(.int .i64),(k+(aj ak (xs.take i):Int):Int)⟩),(0, .aD 50)]) [0,1,4,5,6,7,8,9,10,11,12,13,14,15,16,17,18,19,20,21,22,23,24,25,26,27,28,29,30,31,32,33,34,35,36,37,38,39,40,41,42,43,44,45,46,47,48,49,51,52,53,54,55,56,57,58,59,60,61,62,63,64,65,66,67,68,69,70,71,72,73,74,75,76,77,78,79,80,81] (λ i=>[(50, .aD (.st .claim) (aP k xs i:List ae))]) [] [] (λ i=>(λ zb=>if Nat.beq zb 100006 then .mk (Unit) (λ u=>i<xs.length) (λ u=>0) [] [2,3,6,7,8,9,10,11,12,13,14,15,16,17,18,19,20,21,22,23,24,25,26,27,28,29,30,31,32,33,34,35,36,37,38,39,40,41,42,43,44,45,46,47,48,49,50,51,52,53,54,55,56,57,58,59,60,61,62,63,64,65,66,67,68,69,70,71,72,73,74,75,76,77,78,79,80,81] (λ u=>[(5, .aT ⟨(.int .i64),((i:Int):Int)⟩),(1, .aT ⟨(.int .i64),(k+(aj ak (xs.take i):Int)+1:Int)⟩),(0, .aD 50)]) [0,1,4,5,6,7,8,9,10,11,12,13,14,15,16,17,18,19,20,21,22,23,24,25,26,27,28,29,30,31,32,33,34,35,36,37,38,39,40,41,42,43,44,45,46,47,48,49,51,52,53,54,55,56,57,58,59,60,61,62,63,64,65,66,67,68,69,70,71,72,73,74,75,76,77,78,79,80,81] (λ u=>[(50, .aD (.st .claim) ((aP k xs i).set i (lr (k+(aj ak (xs.take i):Int)) (xs.getD i (ae.mk zE zE (0:Int) (0:Int) []))):List ae))]) [] [] (λ u=>(λ zb=>if Nat.beq zb 100008 then .mk (Unit) (λ u=>i<xs.length) (λ u=>0) [] [2,3,6,7,8,9,10,11,12,13,14,15,16,17,18,19,20,21,22,23,24,25,26,27,28,29,30,31,32,33,34,35,36,37,38,39,40,41,42,43,44,45,46,47,48,49,50,51,52,53,54,55,56,57,58,59,60,61,62,63,64,65,66,67,68,69,70,71,72,73,74,75,76,77,78,79,80,81] (λ u=>[(5, .aT ⟨(.int .i64),((i:Int):Int)⟩),(1, .aT ⟨(.int .i64),(k+(aj ak (xs.take i):Int)+1+1:Int)⟩),(0, .aD 50)]) [0,1,4,5,6,7,8,9,10,11,12,13,14,15,16,17,18,19,20,21,22,23,24,25,26,27,28,29,30,31,32,33,34,35,36,37,38,39,40,41,42,43,44,45,46,47,48,49,51,52,53,54,55,56,57,58,59,60,61,62,63,64,65,66,67,68,69,70,71,72,73,74,75,76,77,78,79,80,81] (λ u=>[(50, .aD (.st .claim) ((aP k xs i).set i (hU (k+(aj ak (xs.take i):Int)) (xs.getD i (ae.mk zE zE (0:Int) (0:Int) []))):List ae))]) [] [] (λ u=>(λ zb=>if Nat.beq zb 100009 then .mk (Unit) (λ u=>i<xs.length) (λ u=>0) [] [2,3,6,7,8,9,10,11,12,13,14,15,16,17,18,19,20,21,22,23,24,25,26,27,28,29,30,31,32,33,34,35,36,37,38,39,40,41,42,43,44,45,46,47,48,49,50,51,52,53,54,55,56,57,58,59,60,61,62,63,64,65,66,67,68,69,70,71,72,73,74,75,76,77,78,79,80,81] (λ u=>[(5, .aT ⟨(.int .i64),((i:Int):Int)⟩),(1, .aT ⟨(.int .i64),(k+(aj ak (xs.take i):Int)+1+1+(aj aJ (xs.getD i (ae.mk zE zE (0:Int) (0:Int) [])).left.M:Int):Int)⟩),(0, .aD 50)]) [0,1,4,5,6,7,8,9,10,11,12,13,14,15,16,17,18,19,20,21,22,23,24,25,26,27,28,29,30,31,32,33,34,35,36,37,38,39,40,41,42,43,44,45,46,47,48,49,51,52,53,54,55,56,57,58,59,60,61,62,63,64,65,66,67,68,69,70,71,72,73,74,75,76,77,78,79,80,81] (λ u=>[(50, .aD (.st .claim) ((aP k xs i).set i (lu (k+(aj ak (xs.take i):Int)) (xs.getD i (ae.mk zE zE (0:Int) (0:Int) []))):List ae))]) [] [] (λ u=>(λ zb=>if Nat.beq zb 100011 then .mk (Unit) (λ u=>i<xs.length) (λ u=>0) [] [2,3,6,7,8,9,10,11,12,13,14,15,16,17,18,19,20,21,22,23,24,25,26,27,28,29,30,31,32,33,34,35,36,37,38,39,40,41,42,43,44,45,46,47,48,49,50,51,52,53,54,55,56,57,58,59,60,61,62,63,64,65,66,67,68,69,70,71,72,73,74,75,76,77,78,79,80,81] (λ u=>[(5, .aT ⟨(.int .i64),((i:Int):Int)⟩),(1, .aT ⟨(.int .i64),(k+(aj ak (xs.take i):Int)+1+1+(aj aJ (xs.getD i (ae.mk zE zE (0:Int) (0:Int) [])).left.M:Int)+1:Int)⟩),(0, .aD 50)]) [0,1,4,5,6,7,8,9,10,11,12,13,14,15,16,17,18,19,20,21,22,23,24,25,26,27,28,29,30,31,32,33,34,35,36,37,38,39,40,41,42,43,44,45,46,47,48,49,51,52,53,54,55,56,57,58,59,60,61,62,63,64,65,66,67,68,69,70,71,72,73,74,75,76,77,78,79,80,81] (λ u=>[(50, .aD (.st .claim) ((aP k xs i).set i (lv (k+(aj ak (xs.take i):Int)) (xs.getD i (ae.mk zE zE (0:Int) (0:Int) []))):List ae))]) [] [] (λ u=>(λ zb=>if Nat.beq zb 100013 then .mk (Unit) (λ u=>i<xs.length) (λ u=>0) [] [2,3,6,7,8,9,10,11,12,13,14,15,16,17,18,19,20,21,22,23,24,25,26,27,28,29,30,31,32,33,34,35,36,37,38,39,40,41,42,43,44,45,46,47,48,49,50,51,52,53,54,55,56,57,58,59,60,61,62,63,64,65,66,67,68,69,70,71,72,73,74,75,76,77,78,79,80,81] (λ u=>[(5, .aT ⟨(.int .i64),((i:Int):Int)⟩),(1, .aT ⟨(.int .i64),(k+(aj ak (xs.take i):Int)+1+1+(aj aJ (xs.getD i (ae.mk zE zE (0:Int) (0:Int) [])).left.M:Int)+1+1:Int)⟩),(0, .aD 50)]) [0,1,4,5,6,7,8,9,10,11,12,13,14,15,16,17,18,19,20,21,22,23,24,25,26,27,28,29,30,31,32,33,34,35,36,37,38,39,40,41,42,43,44,45,46,47,48,49,51,52,53,54,55,56,57,58,59,60,61,62,63,64,65,66,67,68,69,70,71,72,73,74,75,76,77,78,79,80,81] (λ u=>[(50, .aD (.st .claim) ((aP k xs i).set i (ia (k+(aj ak (xs.take i):Int)) (xs.getD i (ae.mk zE zE (0:Int) (0:Int) []))):List ae))]) [] [] (λ u=>(λ zb=>if Nat.beq zb 100014 then .mk (Unit) (λ u=>i<xs.length) (λ u=>0) [] [2,3,6,7,8,9,10,11,12,13,14,15,16,17,18,19,20,21,22,23,24,25,26,27,28,29,30,31,32,33,34,35,36,37,38,39,40,41,42,43,44,45,46,47,48,49,50,51,52,53,54,55,56,57,58,59,60,61,62,63,64,65,66,67,68,69,70,71,72,73,74,75,76,77,78,79,80,81] (λ u=>[(5, .aT ⟨(.int .i64),((i:Int):Int)⟩),(1, .aT ⟨(.int .i64),(k+(aj ak (xs.take i):Int)+1+1+(aj aJ (xs.getD i (ae.mk zE zE (0:Int) (0:Int) [])).left.M:Int)+1+1+(aj aJ (xs.getD i (ae.mk zE zE (0:Int) (0:Int) [])).right.M:Int):Int)⟩),(0, .aD 50)]) [0,1,4,5,6,7,8,9,10,11,12,13,14,15,16,17,18,19,20,21,22,23,24,25,26,27,28,29,30,31,32,33,34,35,36,37,38,39,40,41,42,43,44,45,46,47,48,49,51,52,53,54,55,56,57,58,59,60,61,62,63,64,65,66,67,68,69,70,71,72,73,74,75,76,77,78,79,80,81] (λ u=>[(50, .aD (.st .claim) ((aP k xs i).set i (pc (k+(aj ak (xs.take i):Int)) (xs.getD i (ae.mk zE zE (0:Int) (0:Int) []))):List ae))]) [] [] (λ u=>(λ zb=>if Nat.beq zb 100016 then .mk (Unit) (λ u=>i<xs.length) (λ u=>0) [] [2,3,6,7,8,9,10,11,12,13,14,15,16,17,18,19,20,21,22,23,24,25,26,27,28,29,30,31,32,33,34,35,36,37,38,39,40,41,42,43,44,45,46,47,48,49,50,51,52,53,54,55,56,57,58,59,60,61,62,63,64,65,66,67,68,69,70,71,72,73,74,75,76,77,78,79,80,81] (λ u=>[(5, .aT ⟨(.int .i64),((i:Int):Int)⟩),(1, .aT ⟨(.int .i64),(k+(aj ak (xs.take i):Int)+1+1+(aj aJ (xs.getD i (ae.mk zE zE (0:Int) (0:Int) [])).left.M:Int)+1+1+(aj aJ (xs.getD i (ae.mk zE zE (0:Int) (0:Int) [])).right.M:Int)+1:Int)⟩),(0, .aD 50)]) [0,1,4,5,6,7,8,9,10,11,12,13,14,15,16,17,18,19,20,21,22,23,24,25,26,27,28,29,30,31,32,33,34,35,36,37,38,39,40,41,42,43,44,45,46,47,48,49,51,52,53,54,55,56,57,58,59,60,61,62,63,64,65,66,67,68,69,70,71,72,73,74,75,76,77,78,79,80,81] (λ u=>[(50, .aD (.st .claim) ((aP k xs i).set i (pd (k+(aj ak (xs.take i):Int)) (xs.getD i (ae.mk zE zE (0:Int) (0:Int) []))):List ae))]) [] [] (λ u=>(λ zb=>if Nat.beq zb 100018 then .mk (Unit) (λ u=>i<xs.length) (λ u=>0) [] [2,3,6,7,8,9,10,11,12,13,14,15,16,17,18,19,20,21,22,23,24,25,26,27,28,29,30,31,32,33,34,35,36,37,38,39,40,41,42,43,44,45,46,47,48,49,50,51,52,53,54,55,56,57,58,59,60,61,62,63,64,65,66,67,68,69,70,71,72,73,74,75,76,77,78,79,80,81] (λ u=>[(5, .aT ⟨(.int .i64),((i:Int):Int)⟩),(1, .aT ⟨(.int .i64),(k+(aj ak (xs.take i):Int)+1+1+(aj aJ (xs.getD i (ae.mk zE zE (0:Int) (0:Int) [])).left.M:Int)+1+1+(aj aJ (xs.getD i (ae.mk zE zE (0:Int) (0:Int) [])).right.M:Int)+1+1:Int)⟩),(0, .aD 50)]) [0,1,4,5,6,7,8,9,10,11,12,13,14,15,16,17,18,19,20,21,22,23,24,25,26,27,28,29,30,31,32,33,34,35,36,37,38,39,40,41,42,43,44,45,46,47,48,49,51,52,53,54,55,56,57,58,59,60,61,62,63,64,65,66,67,68,69,70,71,72,73,74,75,76,77,78,79,80,81] (λ u=>[(50, .aD (.st .claim) ((aP k xs i).set i (jK (k+(aj ak (xs.take i):Int)) (xs.getD i (ae.mk zE zE (0:Int) (0:Int) []))):List ae))]) [] [] (λ u=>λ _ => .none) else .none)) else .none)) else .none)) else .none)) else .none)) else .none)) else .none)) else .none)) else .none)
def Jh(xs:List ae)(k:Int):ck (cg [] [] [cW,dW] [35,59,80] []) (az ei) (rZ xs k) 0 (fY ei fI.m xs k) (du ei ⟨(.slice (.st .claim)),xs⟩ k) =
 (((∃ i1:Nat,(i1<=xs.length/\((True/\(k=(k+(aj ak (xs.take i1):Int))/\((0:Int)=(0:Int)/\((0:Int)=(i1:Int)/\True))))/\(xs=(aP k xs i1)/\True))))/\(∀ i1:Nat,(i1<=xs.length ->
 (((decide ((i1:Int)<(((aP k xs i1).length:Int))))=true ->
 (aC (i1:Int) (aP k xs i1).length/\((U ((k+(aj ak (xs.take i1):Int))+(1:Int))/\(∃ u2:Unit,(i1<xs.length/\((True/\(((k+(aj ak (xs.take i1):Int))+(1:Int))=(k+(aj ak (xs.take i1):Int)+1)/\((0:Int)=(0:Int)/\((i1:Int)=(i1:Int)/\True))))/\(((aP k xs i1).set i1 (ae.mk (J.mk (k+(aj ak (xs.take i1):Int)) ((aP k xs i1).getD i1 (ae.mk zE zE (0:Int) (0:Int) [])).left.aO ((aP k xs i1).getD i1 (ae.mk zE zE (0:Int) (0:Int) [])).left.M) (ag ((aP k xs i1).getD i1 (ae.mk zE zE (0:Int) (0:Int) [])).right) ((aP k xs i1).getD i1 (ae.mk zE zE (0:Int) (0:Int) [])).cj ((aP k xs i1).getD i1 (ae.mk zE zE (0:Int) (0:Int) [])).ref ((aP k xs i1).getD i1 (ae.mk zE zE (0:Int) (0:Int) [])).steps))=((aP k xs i1).set i1 (lr (k+(aj ak (xs.take i1):Int)) (xs.getD i1 (ae.mk zE zE (0:Int) (0:Int) []))))/\True)))))/\(∀ u2:Unit,(i1<xs.length ->
 (aC (i1:Int) ((aP k xs i1).set i1 (lr (k+(aj ak (xs.take i1):Int)) (xs.getD i1 (ae.mk zE zE (0:Int) (0:Int) [])))).length/\((U ((k+(aj ak (xs.take i1):Int)+1)+(1:Int))/\(∃ u3:Unit,(i1<xs.length/\((True/\(((k+(aj ak (xs.take i1):Int)+1)+(1:Int))=(k+(aj ak (xs.take i1):Int)+1+1)/\((0:Int)=(0:Int)/\((i1:Int)=(i1:Int)/\True))))/\((((aP k xs i1).set i1 (lr (k+(aj ak (xs.take i1):Int)) (xs.getD i1 (ae.mk zE zE (0:Int) (0:Int) [])))).set i1 (ae.mk (J.mk (((aP k xs i1).set i1 (lr (k+(aj ak (xs.take i1):Int)) (xs.getD i1 (ae.mk zE zE (0:Int) (0:Int) [])))).getD i1 (ae.mk zE zE (0:Int) (0:Int) [])).left.au (k+(aj ak (xs.take i1):Int)+1) (((aP k xs i1).set i1 (lr (k+(aj ak (xs.take i1):Int)) (xs.getD i1 (ae.mk zE zE (0:Int) (0:Int) [])))).getD i1 (ae.mk zE zE (0:Int) (0:Int) [])).left.M) (ag (((aP k xs i1).set i1 (lr (k+(aj ak (xs.take i1):Int)) (xs.getD i1 (ae.mk zE zE (0:Int) (0:Int) [])))).getD i1 (ae.mk zE zE (0:Int) (0:Int) [])).right) (((aP k xs i1).set i1 (lr (k+(aj ak (xs.take i1):Int)) (xs.getD i1 (ae.mk zE zE (0:Int) (0:Int) [])))).getD i1 (ae.mk zE zE (0:Int) (0:Int) [])).cj (((aP k xs i1).set i1 (lr (k+(aj ak (xs.take i1):Int)) (xs.getD i1 (ae.mk zE zE (0:Int) (0:Int) [])))).getD i1 (ae.mk zE zE (0:Int) (0:Int) [])).ref (((aP k xs i1).set i1 (lr (k+(aj ak (xs.take i1):Int)) (xs.getD i1 (ae.mk zE zE (0:Int) (0:Int) [])))).getD i1 (ae.mk zE zE (0:Int) (0:Int) [])).steps))=((aP k xs i1).set i1 (hU (k+(aj ak (xs.take i1):Int)) (xs.getD i1 (ae.mk zE zE (0:Int) (0:Int) []))))/\True)))))/\(∀ u3:Unit,(i1<xs.length ->
 ((aC (i1:Int) ((aP k xs i1).set i1 (hU (k+(aj ak (xs.take i1):Int)) (xs.getD i1 (ae.mk zE zE (0:Int) (0:Int) [])))).length/\((0<=(k+(aj ak (xs.take i1):Int)+1+1)/\(k+(aj ak (xs.take i1):Int)+1+1)+(aj aJ (((aP k xs i1).set i1 (hU (k+(aj ak (xs.take i1):Int)) (xs.getD i1 (ae.mk zE zE (0:Int) (0:Int) [])))).getD i1 (ae.mk zE zE (0:Int) (0:Int) [])).left.M:Int)<=4611686018427387904)/\(∃ u4:Unit,(i1<xs.length/\((True/\(((k+(aj ak (xs.take i1):Int)+1+1)+(aj aJ (((aP k xs i1).set i1 (hU (k+(aj ak (xs.take i1):Int)) (xs.getD i1 (ae.mk zE zE (0:Int) (0:Int) [])))).getD i1 (ae.mk zE zE (0:Int) (0:Int) [])).left.M:Int))=(k+(aj ak (xs.take i1):Int)+1+1+(aj aJ (xs.getD i1 (ae.mk zE zE (0:Int) (0:Int) [])).left.M:Int))/\((0:Int)=(0:Int)/\((i1:Int)=(i1:Int)/\True))))/\((((aP k xs i1).set i1 (hU (k+(aj ak (xs.take i1):Int)) (xs.getD i1 (ae.mk zE zE (0:Int) (0:Int) [])))).set i1 (ae.mk (J.mk (((aP k xs i1).set i1 (hU (k+(aj ak (xs.take i1):Int)) (xs.getD i1 (ae.mk zE zE (0:Int) (0:Int) [])))).getD i1 (ae.mk zE zE (0:Int) (0:Int) [])).left.au (((aP k xs i1).set i1 (hU (k+(aj ak (xs.take i1):Int)) (xs.getD i1 (ae.mk zE zE (0:Int) (0:Int) [])))).getD i1 (ae.mk zE zE (0:Int) (0:Int) [])).left.aO (bz (k+(aj ak (xs.take i1):Int)+1+1) (((aP k xs i1).set i1 (hU (k+(aj ak (xs.take i1):Int)) (xs.getD i1 (ae.mk zE zE (0:Int) (0:Int) [])))).getD i1 (ae.mk zE zE (0:Int) (0:Int) [])).left.M)) (ag (((aP k xs i1).set i1 (hU (k+(aj ak (xs.take i1):Int)) (xs.getD i1 (ae.mk zE zE (0:Int) (0:Int) [])))).getD i1 (ae.mk zE zE (0:Int) (0:Int) [])).right) (((aP k xs i1).set i1 (hU (k+(aj ak (xs.take i1):Int)) (xs.getD i1 (ae.mk zE zE (0:Int) (0:Int) [])))).getD i1 (ae.mk zE zE (0:Int) (0:Int) [])).cj (((aP k xs i1).set i1 (hU (k+(aj ak (xs.take i1):Int)) (xs.getD i1 (ae.mk zE zE (0:Int) (0:Int) [])))).getD i1 (ae.mk zE zE (0:Int) (0:Int) [])).ref (((aP k xs i1).set i1 (hU (k+(aj ak (xs.take i1):Int)) (xs.getD i1 (ae.mk zE zE (0:Int) (0:Int) [])))).getD i1 (ae.mk zE zE (0:Int) (0:Int) [])).steps))=((aP k xs i1).set i1 (lu (k+(aj ak (xs.take i1):Int)) (xs.getD i1 (ae.mk zE zE (0:Int) (0:Int) []))))/\True))))))/\(∀ u4:Unit,(i1<xs.length ->
 (aC (i1:Int) ((aP k xs i1).set i1 (lu (k+(aj ak (xs.take i1):Int)) (xs.getD i1 (ae.mk zE zE (0:Int) (0:Int) [])))).length/\((U ((k+(aj ak (xs.take i1):Int)+1+1+(aj aJ (xs.getD i1 (ae.mk zE zE (0:Int) (0:Int) [])).left.M:Int))+(1:Int))/\(∃ u5:Unit,(i1<xs.length/\((True/\(((k+(aj ak (xs.take i1):Int)+1+1+(aj aJ (xs.getD i1 (ae.mk zE zE (0:Int) (0:Int) [])).left.M:Int))+(1:Int))=(k+(aj ak (xs.take i1):Int)+1+1+(aj aJ (xs.getD i1 (ae.mk zE zE (0:Int) (0:Int) [])).left.M:Int)+1)/\((0:Int)=(0:Int)/\((i1:Int)=(i1:Int)/\True))))/\((((aP k xs i1).set i1 (lu (k+(aj ak (xs.take i1):Int)) (xs.getD i1 (ae.mk zE zE (0:Int) (0:Int) [])))).set i1 (ae.mk (ag (((aP k xs i1).set i1 (lu (k+(aj ak (xs.take i1):Int)) (xs.getD i1 (ae.mk zE zE (0:Int) (0:Int) [])))).getD i1 (ae.mk zE zE (0:Int) (0:Int) [])).left) (J.mk (k+(aj ak (xs.take i1):Int)+1+1+(aj aJ (xs.getD i1 (ae.mk zE zE (0:Int) (0:Int) [])).left.M:Int)) (((aP k xs i1).set i1 (lu (k+(aj ak (xs.take i1):Int)) (xs.getD i1 (ae.mk zE zE (0:Int) (0:Int) [])))).getD i1 (ae.mk zE zE (0:Int) (0:Int) [])).right.aO (((aP k xs i1).set i1 (lu (k+(aj ak (xs.take i1):Int)) (xs.getD i1 (ae.mk zE zE (0:Int) (0:Int) [])))).getD i1 (ae.mk zE zE (0:Int) (0:Int) [])).right.M) (((aP k xs i1).set i1 (lu (k+(aj ak (xs.take i1):Int)) (xs.getD i1 (ae.mk zE zE (0:Int) (0:Int) [])))).getD i1 (ae.mk zE zE (0:Int) (0:Int) [])).cj (((aP k xs i1).set i1 (lu (k+(aj ak (xs.take i1):Int)) (xs.getD i1 (ae.mk zE zE (0:Int) (0:Int) [])))).getD i1 (ae.mk zE zE (0:Int) (0:Int) [])).ref (((aP k xs i1).set i1 (lu (k+(aj ak (xs.take i1):Int)) (xs.getD i1 (ae.mk zE zE (0:Int) (0:Int) [])))).getD i1 (ae.mk zE zE (0:Int) (0:Int) [])).steps))=((aP k xs i1).set i1 (lv (k+(aj ak (xs.take i1):Int)) (xs.getD i1 (ae.mk zE zE (0:Int) (0:Int) []))))/\True)))))/\(∀ u5:Unit,(i1<xs.length ->
 (aC (i1:Int) ((aP k xs i1).set i1 (lv (k+(aj ak (xs.take i1):Int)) (xs.getD i1 (ae.mk zE zE (0:Int) (0:Int) [])))).length/\((U ((k+(aj ak (xs.take i1):Int)+1+1+(aj aJ (xs.getD i1 (ae.mk zE zE (0:Int) (0:Int) [])).left.M:Int)+1)+(1:Int))/\(∃ u6:Unit,(i1<xs.length/\((True/\(((k+(aj ak (xs.take i1):Int)+1+1+(aj aJ (xs.getD i1 (ae.mk zE zE (0:Int) (0:Int) [])).left.M:Int)+1)+(1:Int))=(k+(aj ak (xs.take i1):Int)+1+1+(aj aJ (xs.getD i1 (ae.mk zE zE (0:Int) (0:Int) [])).left.M:Int)+1+1)/\((0:Int)=(0:Int)/\((i1:Int)=(i1:Int)/\True))))/\((((aP k xs i1).set i1 (lv (k+(aj ak (xs.take i1):Int)) (xs.getD i1 (ae.mk zE zE (0:Int) (0:Int) [])))).set i1 (ae.mk (ag (((aP k xs i1).set i1 (lv (k+(aj ak (xs.take i1):Int)) (xs.getD i1 (ae.mk zE zE (0:Int) (0:Int) [])))).getD i1 (ae.mk zE zE (0:Int) (0:Int) [])).left) (J.mk (((aP k xs i1).set i1 (lv (k+(aj ak (xs.take i1):Int)) (xs.getD i1 (ae.mk zE zE (0:Int) (0:Int) [])))).getD i1 (ae.mk zE zE (0:Int) (0:Int) [])).right.au (k+(aj ak (xs.take i1):Int)+1+1+(aj aJ (xs.getD i1 (ae.mk zE zE (0:Int) (0:Int) [])).left.M:Int)+1) (((aP k xs i1).set i1 (lv (k+(aj ak (xs.take i1):Int)) (xs.getD i1 (ae.mk zE zE (0:Int) (0:Int) [])))).getD i1 (ae.mk zE zE (0:Int) (0:Int) [])).right.M) (((aP k xs i1).set i1 (lv (k+(aj ak (xs.take i1):Int)) (xs.getD i1 (ae.mk zE zE (0:Int) (0:Int) [])))).getD i1 (ae.mk zE zE (0:Int) (0:Int) [])).cj (((aP k xs i1).set i1 (lv (k+(aj ak (xs.take i1):Int)) (xs.getD i1 (ae.mk zE zE (0:Int) (0:Int) [])))).getD i1 (ae.mk zE zE (0:Int) (0:Int) [])).ref (((aP k xs i1).set i1 (lv (k+(aj ak (xs.take i1):Int)) (xs.getD i1 (ae.mk zE zE (0:Int) (0:Int) [])))).getD i1 (ae.mk zE zE (0:Int) (0:Int) [])).steps))=((aP k xs i1).set i1 (ia (k+(aj ak (xs.take i1):Int)) (xs.getD i1 (ae.mk zE zE (0:Int) (0:Int) []))))/\True)))))/\(∀ u6:Unit,(i1<xs.length ->
 ((aC (i1:Int) ((aP k xs i1).set i1 (ia (k+(aj ak (xs.take i1):Int)) (xs.getD i1 (ae.mk zE zE (0:Int) (0:Int) [])))).length/\((0<=(k+(aj ak (xs.take i1):Int)+1+1+(aj aJ (xs.getD i1 (ae.mk zE zE (0:Int) (0:Int) [])).left.M:Int)+1+1)/\(k+(aj ak (xs.take i1):Int)+1+1+(aj aJ (xs.getD i1 (ae.mk zE zE (0:Int) (0:Int) [])).left.M:Int)+1+1)+(aj aJ (((aP k xs i1).set i1 (ia (k+(aj ak (xs.take i1):Int)) (xs.getD i1 (ae.mk zE zE (0:Int) (0:Int) [])))).getD i1 (ae.mk zE zE (0:Int) (0:Int) [])).right.M:Int)<=4611686018427387904)/\(∃ u7:Unit,(i1<xs.length/\((True/\(((k+(aj ak (xs.take i1):Int)+1+1+(aj aJ (xs.getD i1 (ae.mk zE zE (0:Int) (0:Int) [])).left.M:Int)+1+1)+(aj aJ (((aP k xs i1).set i1 (ia (k+(aj ak (xs.take i1):Int)) (xs.getD i1 (ae.mk zE zE (0:Int) (0:Int) [])))).getD i1 (ae.mk zE zE (0:Int) (0:Int) [])).right.M:Int))=(k+(aj ak (xs.take i1):Int)+1+1+(aj aJ (xs.getD i1 (ae.mk zE zE (0:Int) (0:Int) [])).left.M:Int)+1+1+(aj aJ (xs.getD i1 (ae.mk zE zE (0:Int) (0:Int) [])).right.M:Int))/\((0:Int)=(0:Int)/\((i1:Int)=(i1:Int)/\True))))/\((((aP k xs i1).set i1 (ia (k+(aj ak (xs.take i1):Int)) (xs.getD i1 (ae.mk zE zE (0:Int) (0:Int) [])))).set i1 (ae.mk (ag (((aP k xs i1).set i1 (ia (k+(aj ak (xs.take i1):Int)) (xs.getD i1 (ae.mk zE zE (0:Int) (0:Int) [])))).getD i1 (ae.mk zE zE (0:Int) (0:Int) [])).left) (J.mk (((aP k xs i1).set i1 (ia (k+(aj ak (xs.take i1):Int)) (xs.getD i1 (ae.mk zE zE (0:Int) (0:Int) [])))).getD i1 (ae.mk zE zE (0:Int) (0:Int) [])).right.au (((aP k xs i1).set i1 (ia (k+(aj ak (xs.take i1):Int)) (xs.getD i1 (ae.mk zE zE (0:Int) (0:Int) [])))).getD i1 (ae.mk zE zE (0:Int) (0:Int) [])).right.aO (bz (k+(aj ak (xs.take i1):Int)+1+1+(aj aJ (xs.getD i1 (ae.mk zE zE (0:Int) (0:Int) [])).left.M:Int)+1+1) (((aP k xs i1).set i1 (ia (k+(aj ak (xs.take i1):Int)) (xs.getD i1 (ae.mk zE zE (0:Int) (0:Int) [])))).getD i1 (ae.mk zE zE (0:Int) (0:Int) [])).right.M)) (((aP k xs i1).set i1 (ia (k+(aj ak (xs.take i1):Int)) (xs.getD i1 (ae.mk zE zE (0:Int) (0:Int) [])))).getD i1 (ae.mk zE zE (0:Int) (0:Int) [])).cj (((aP k xs i1).set i1 (ia (k+(aj ak (xs.take i1):Int)) (xs.getD i1 (ae.mk zE zE (0:Int) (0:Int) [])))).getD i1 (ae.mk zE zE (0:Int) (0:Int) [])).ref (((aP k xs i1).set i1 (ia (k+(aj ak (xs.take i1):Int)) (xs.getD i1 (ae.mk zE zE (0:Int) (0:Int) [])))).getD i1 (ae.mk zE zE (0:Int) (0:Int) [])).steps))=((aP k xs i1).set i1 (pc (k+(aj ak (xs.take i1):Int)) (xs.getD i1 (ae.mk zE zE (0:Int) (0:Int) []))))/\True))))))/\(∀ u7:Unit,(i1<xs.length ->
 (aC (i1:Int) ((aP k xs i1).set i1 (pc (k+(aj ak (xs.take i1):Int)) (xs.getD i1 (ae.mk zE zE (0:Int) (0:Int) [])))).length/\((U ((k+(aj ak (xs.take i1):Int)+1+1+(aj aJ (xs.getD i1 (ae.mk zE zE (0:Int) (0:Int) [])).left.M:Int)+1+1+(aj aJ (xs.getD i1 (ae.mk zE zE (0:Int) (0:Int) [])).right.M:Int))+(1:Int))/\(∃ u8:Unit,(i1<xs.length/\((True/\(((k+(aj ak (xs.take i1):Int)+1+1+(aj aJ (xs.getD i1 (ae.mk zE zE (0:Int) (0:Int) [])).left.M:Int)+1+1+(aj aJ (xs.getD i1 (ae.mk zE zE (0:Int) (0:Int) [])).right.M:Int))+(1:Int))=(k+(aj ak (xs.take i1):Int)+1+1+(aj aJ (xs.getD i1 (ae.mk zE zE (0:Int) (0:Int) [])).left.M:Int)+1+1+(aj aJ (xs.getD i1 (ae.mk zE zE (0:Int) (0:Int) [])).right.M:Int)+1)/\((0:Int)=(0:Int)/\((i1:Int)=(i1:Int)/\True))))/\((((aP k xs i1).set i1 (pc (k+(aj ak (xs.take i1):Int)) (xs.getD i1 (ae.mk zE zE (0:Int) (0:Int) [])))).set i1 (ae.mk (ag (((aP k xs i1).set i1 (pc (k+(aj ak (xs.take i1):Int)) (xs.getD i1 (ae.mk zE zE (0:Int) (0:Int) [])))).getD i1 (ae.mk zE zE (0:Int) (0:Int) [])).left) (ag (((aP k xs i1).set i1 (pc (k+(aj ak (xs.take i1):Int)) (xs.getD i1 (ae.mk zE zE (0:Int) (0:Int) [])))).getD i1 (ae.mk zE zE (0:Int) (0:Int) [])).right) (k+(aj ak (xs.take i1):Int)+1+1+(aj aJ (xs.getD i1 (ae.mk zE zE (0:Int) (0:Int) [])).left.M:Int)+1+1+(aj aJ (xs.getD i1 (ae.mk zE zE (0:Int) (0:Int) [])).right.M:Int)) (((aP k xs i1).set i1 (pc (k+(aj ak (xs.take i1):Int)) (xs.getD i1 (ae.mk zE zE (0:Int) (0:Int) [])))).getD i1 (ae.mk zE zE (0:Int) (0:Int) [])).ref (((aP k xs i1).set i1 (pc (k+(aj ak (xs.take i1):Int)) (xs.getD i1 (ae.mk zE zE (0:Int) (0:Int) [])))).getD i1 (ae.mk zE zE (0:Int) (0:Int) [])).steps))=((aP k xs i1).set i1 (pd (k+(aj ak (xs.take i1):Int)) (xs.getD i1 (ae.mk zE zE (0:Int) (0:Int) []))))/\True)))))/\(∀ u8:Unit,(i1<xs.length ->
 (aC (i1:Int) ((aP k xs i1).set i1 (pd (k+(aj ak (xs.take i1):Int)) (xs.getD i1 (ae.mk zE zE (0:Int) (0:Int) [])))).length/\((U ((k+(aj ak (xs.take i1):Int)+1+1+(aj aJ (xs.getD i1 (ae.mk zE zE (0:Int) (0:Int) [])).left.M:Int)+1+1+(aj aJ (xs.getD i1 (ae.mk zE zE (0:Int) (0:Int) [])).right.M:Int)+1)+(1:Int))/\(∃ u9:Unit,(i1<xs.length/\((True/\(((k+(aj ak (xs.take i1):Int)+1+1+(aj aJ (xs.getD i1 (ae.mk zE zE (0:Int) (0:Int) [])).left.M:Int)+1+1+(aj aJ (xs.getD i1 (ae.mk zE zE (0:Int) (0:Int) [])).right.M:Int)+1)+(1:Int))=(k+(aj ak (xs.take i1):Int)+1+1+(aj aJ (xs.getD i1 (ae.mk zE zE (0:Int) (0:Int) [])).left.M:Int)+1+1+(aj aJ (xs.getD i1 (ae.mk zE zE (0:Int) (0:Int) [])).right.M:Int)+1+1)/\((0:Int)=(0:Int)/\((i1:Int)=(i1:Int)/\True))))/\((((aP k xs i1).set i1 (pd (k+(aj ak (xs.take i1):Int)) (xs.getD i1 (ae.mk zE zE (0:Int) (0:Int) [])))).set i1 (ae.mk (ag (((aP k xs i1).set i1 (pd (k+(aj ak (xs.take i1):Int)) (xs.getD i1 (ae.mk zE zE (0:Int) (0:Int) [])))).getD i1 (ae.mk zE zE (0:Int) (0:Int) [])).left) (ag (((aP k xs i1).set i1 (pd (k+(aj ak (xs.take i1):Int)) (xs.getD i1 (ae.mk zE zE (0:Int) (0:Int) [])))).getD i1 (ae.mk zE zE (0:Int) (0:Int) [])).right) (((aP k xs i1).set i1 (pd (k+(aj ak (xs.take i1):Int)) (xs.getD i1 (ae.mk zE zE (0:Int) (0:Int) [])))).getD i1 (ae.mk zE zE (0:Int) (0:Int) [])).cj (k+(aj ak (xs.take i1):Int)+1+1+(aj aJ (xs.getD i1 (ae.mk zE zE (0:Int) (0:Int) [])).left.M:Int)+1+1+(aj aJ (xs.getD i1 (ae.mk zE zE (0:Int) (0:Int) [])).right.M:Int)+1) (((aP k xs i1).set i1 (pd (k+(aj ak (xs.take i1):Int)) (xs.getD i1 (ae.mk zE zE (0:Int) (0:Int) [])))).getD i1 (ae.mk zE zE (0:Int) (0:Int) [])).steps))=((aP k xs i1).set i1 (jK (k+(aj ak (xs.take i1):Int)) (xs.getD i1 (ae.mk zE zE (0:Int) (0:Int) []))))/\True)))))/\(∀ u9:Unit,(i1<xs.length ->
 (aC (i1:Int) ((aP k xs i1).set i1 (jK (k+(aj ak (xs.take i1):Int)) (xs.getD i1 (ae.mk zE zE (0:Int) (0:Int) [])))).length/\((0<=(k+(aj ak (xs.take i1):Int)+1+1+(aj aJ (xs.getD i1 (ae.mk zE zE (0:Int) (0:Int) [])).left.M:Int)+1+1+(aj aJ (xs.getD i1 (ae.mk zE zE (0:Int) (0:Int) [])).right.M:Int)+1+1)/\(k+(aj ak (xs.take i1):Int)+1+1+(aj aJ (xs.getD i1 (ae.mk zE zE (0:Int) (0:Int) [])).left.M:Int)+1+1+(aj aJ (xs.getD i1 (ae.mk zE zE (0:Int) (0:Int) [])).right.M:Int)+1+1)+(aj av (((aP k xs i1).set i1 (jK (k+(aj ak (xs.take i1):Int)) (xs.getD i1 (ae.mk zE zE (0:Int) (0:Int) [])))).getD i1 (ae.mk zE zE (0:Int) (0:Int) [])).steps:Int)<=4611686018427387904)/\(U ((i1:Int)+(1:Int))/\(∃ i10:Nat,(i10<=xs.length/\(xs.length - i10<xs.length - i1/\((True/\(((k+(aj ak (xs.take i1):Int)+1+1+(aj aJ (xs.getD i1 (ae.mk zE zE (0:Int) (0:Int) [])).left.M:Int)+1+1+(aj aJ (xs.getD i1 (ae.mk zE zE (0:Int) (0:Int) [])).right.M:Int)+1+1)+(aj av (((aP k xs i1).set i1 (jK (k+(aj ak (xs.take i1):Int)) (xs.getD i1 (ae.mk zE zE (0:Int) (0:Int) [])))).getD i1 (ae.mk zE zE (0:Int) (0:Int) [])).steps:Int))=(k+(aj ak (xs.take i10):Int))/\((0:Int)=(0:Int)/\(((i1:Int)+(1:Int))=(i10:Int)/\True))))/\((((aP k xs i1).set i1 (jK (k+(aj ak (xs.take i1):Int)) (xs.getD i1 (ae.mk zE zE (0:Int) (0:Int) [])))).set i1 (ae.mk (ag (((aP k xs i1).set i1 (jK (k+(aj ak (xs.take i1):Int)) (xs.getD i1 (ae.mk zE zE (0:Int) (0:Int) [])))).getD i1 (ae.mk zE zE (0:Int) (0:Int) [])).left) (ag (((aP k xs i1).set i1 (jK (k+(aj ak (xs.take i1):Int)) (xs.getD i1 (ae.mk zE zE (0:Int) (0:Int) [])))).getD i1 (ae.mk zE zE (0:Int) (0:Int) [])).right) (((aP k xs i1).set i1 (jK (k+(aj ak (xs.take i1):Int)) (xs.getD i1 (ae.mk zE zE (0:Int) (0:Int) [])))).getD i1 (ae.mk zE zE (0:Int) (0:Int) [])).cj (((aP k xs i1).set i1 (jK (k+(aj ak (xs.take i1):Int)) (xs.getD i1 (ae.mk zE zE (0:Int) (0:Int) [])))).getD i1 (ae.mk zE zE (0:Int) (0:Int) [])).ref (Am av ea (k+(aj ak (xs.take i1):Int)+1+1+(aj aJ (xs.getD i1 (ae.mk zE zE (0:Int) (0:Int) [])).left.M:Int)+1+1+(aj aJ (xs.getD i1 (ae.mk zE zE (0:Int) (0:Int) [])).right.M:Int)+1+1) (((aP k xs i1).set i1 (jK (k+(aj ak (xs.take i1):Int)) (xs.getD i1 (ae.mk zE zE (0:Int) (0:Int) [])))).getD i1 (ae.mk zE zE (0:Int) (0:Int) [])).steps)))=(aP k xs i10)/\True)))))))))))))))))))))))))))))))))))))))/\((decide ((i1:Int)<(((aP k xs i1).length:Int))))=false ->
 ((k+(aj ak (xs.take i1):Int))=(k+(aj ak xs:Int))/\(aP k xs i1)=(Am ak kL k xs)))))))):=by kernel_rfl
def IY(hE:aI [])(hO:dL [])(hM:ed [cW,dW])(hS:dP []):MK.Good fI:=by
 refine⟨aA yh rfl (by decide),oX (own:=[35,59,80]) (wr:=[]) (cl:=[]) (ro:=[]) hE hO hM hS yh GN (λ xs k=>rZ xs k) (λ x=>b1r rfl) (b1r (by kernel_rfl)) ?_⟩;show ∀ (xs:List ae) (k:Int),(0<=k/\k+(aj ak xs:Int)<=4611686018427387904)->U k->ck (cg [] [] [cW,dW] [35,59,80] []) (az ei) (rZ xs k) 0 (fY ei fI.m xs k) (du ei ⟨(.slice (.st .claim)),xs⟩ k);intro xs k hp hk;rewrite [Jh xs k];have f0:=U5 k xs;have f1:=pT ak xs;have f2:=Ql ak (λ x=>by rw[CA];omega) xs;refine⟨⟨0,?_,⟨af,?_,rfl,?_,af⟩,?_,af⟩,λ i1 _=>have KO:=WQ k xs i1;have yj:=WS k xs i1 (ae.mk zE zE (0:Int) (0:Int) []);have Dy:=WR k xs i1 (ae.mk zE zE (0:Int) (0:Int) []);have NK:=U4 k xs i1 (ae.mk zE zE (0:Int) (0:Int) []);have Xk:=K3 k xs i1;have ZM:=jB ak (ae.mk zE zE (0:Int) (0:Int) []) xs i1;have a2p:=cJ ak xs i1;have a2q:=cJ ak xs (i1+1);have a2r:=ou ak xs i1;have a4B:=CA (xs.getD i1 (ae.mk zE zE (0:Int) (0:Int) []));⟨λ _=>⟨?_,⟨?_,(),?_,⟨af,?_,rfl,rfl,af⟩,?_,af⟩,λ u2 _=>⟨?_,⟨?_,(),?_,⟨af,?_,rfl,rfl,af⟩,?_,af⟩,λ u3 _=>⟨⟨?_,?_,(),?_,⟨af,?_,rfl,rfl,af⟩,?_,af⟩,λ u4 _=>⟨?_,⟨?_,(),?_,⟨af,?_,rfl,rfl,af⟩,?_,af⟩,λ u5 _=>⟨?_,⟨?_,(),?_,⟨af,?_,rfl,rfl,af⟩,?_,af⟩,λ u6 _=>⟨⟨?_,?_,(),?_,⟨af,?_,rfl,rfl,af⟩,?_,af⟩,λ u7 _=>⟨?_,⟨?_,(),?_,⟨af,?_,rfl,rfl,af⟩,?_,af⟩,λ u8 _=>⟨?_,⟨?_,(),?_,⟨af,?_,rfl,rfl,af⟩,?_,af⟩,λ u9 _=>⟨?_,?_,?_,i1+1,?_,?_,⟨af,?_,rfl,?_,af⟩,?_,af⟩⟩⟩⟩⟩⟩⟩⟩⟩,λ _=>⟨?_,?_⟩⟩⟩;all_goals try and_intros
 all_goals try (first|with_reducible rfl|with_reducible assumption)
 all_goals try simp only[J.eta,ae.eta,aH.eta,aU,bM,ct] at *
 all_goals first|rfl|trivial|omega|(simp only[b3O,b2k,b0N,b0M,aC,U] at *;first|omega|exact KO (by omega)|(simp only[yj _ (by omega)];rfl)|(simp only[yj _ (by omega),Dy (by omega)];first|done|omega|rfl)|(simp only[Dy (by omega)];first|done|omega|rfl)|(simp only[yj _ (by omega)];first|omega|exact NK (by omega))|(simp only[yj _ (by omega),lr,hU,lu,lv,ia,pc,pd,jK,M7];first|done|omega)|grind)
def Fl:MK.Good fI:=IY trivial trivial ⟨lB,Al,af⟩ trivial
def eo:MK:=⟨vE,⟨(.st .proofStep),λ (x:O) (k:Int)=>(some (0<=k/\k+(x.path.length:Int)+(aj aJ x.ar:Int)+(aj aJ x.bo:Int)<=4611686018427387904),(O.mk x.use x.back (eO k x.path) (bz (k+(x.path.length:Int)) x.ar) (bz (k+(x.path.length:Int)+(aj aJ x.ar:Int)) x.bo)),k+(x.path.length:Int)+(aj aJ x.ar:Int)+(aj aJ x.bo:Int))⟩⟩
def oV(x:O)(k:Int):Nat->aM:=λ _ => .none
def EE(x:O)(k:Int):ck (cg [] [] [dy,cW] [8,12,16] []) (az dv) (oV x k) 0 (fY dv eo.m x k) (du dv ⟨(.st .proofStep),x⟩ k) =
 (((0<=k/\k+(x.path.length:Int)<=4611686018427387904)/\((0<=(k+(x.path.length:Int))/\(k+(x.path.length:Int))+(aj aJ x.ar:Int)<=4611686018427387904)/\((0<=((k+(x.path.length:Int))+(aj aJ x.ar:Int))/\((k+(x.path.length:Int))+(aj aJ x.ar:Int))+(aj aJ x.bo:Int)<=4611686018427387904)/\((((k+(x.path.length:Int))+(aj aJ x.ar:Int))+(aj aJ x.bo:Int))=(k+(x.path.length:Int)+(aj aJ x.ar:Int)+(aj aJ x.bo:Int))/\(O.mk x.use x.back (eO k x.path) (bz (k+(x.path.length:Int)) x.ar) (bz ((k+(x.path.length:Int))+(aj aJ x.ar:Int)) x.bo))=(O.mk x.use x.back (eO k x.path) (bz (k+(x.path.length:Int)) x.ar) (bz (k+(x.path.length:Int)+(aj aJ x.ar:Int)) x.bo))))))):=by kernel_rfl
def Ew(hE:aI [])(hO:dL [])(hM:ed [dy,cW])(hS:dP []):MK.Good eo:=by
 refine⟨aA uk rfl (by decide),oX (own:=[8,12,16]) (wr:=[]) (cl:=[]) (ro:=[]) hE hO hM hS uk Cv (λ x k=>oV x k) (λ x=>b1r rfl) (b1r (by kernel_rfl)) ?_⟩;show ∀ (x:O) (k:Int),(0<=k/\k+(x.path.length:Int)+(aj aJ x.ar:Int)+(aj aJ x.bo:Int)<=4611686018427387904)->U k->ck (cg [] [] [dy,cW] [8,12,16] []) (az dv) (oV x k) 0 (fY dv eo.m x k) (du dv ⟨(.st .proofStep),x⟩ k);intro x k hp hk;rewrite [EE x k];refine⟨?_,⟨?_,⟨?_,⟨?_,?_⟩⟩⟩⟩;all_goals try and_intros
 all_goals first|rfl|trivial|omega|(simp only[b0N,b0M,aC,U,cb,cM,ca,bF] at *;omega)|(simp[aC,U] at *;omega)|grind
def A6:MK.Good eo:=Ew trivial trivial ⟨uQ,lB,af⟩ trivial
def gu:MK:=⟨Cf,⟨(.st .proof),λ (x:aB) (k:Int)=>(some (0<=k/\k+(aj ak x.aq:Int)<=4611686018427387904),(aB.mk x.sig (Am ak kL k x.aq)),k+(aj ak x.aq:Int))⟩⟩
def tu(x:aB)(k:Int):Nat->aM:=λ _ => .none
def KF(x:aB)(k:Int):ck (cg [] [] [fI] [8] []) (az eN) (tu x k) 0 (fY eN gu.m x k) (du eN ⟨(.st .proof),x⟩ k) =
 (((0<=k/\k+(aj ak x.aq:Int)<=4611686018427387904)/\((k+(aj ak x.aq:Int))=(k+(aj ak x.aq:Int))/\(aB.mk x.sig (Am ak kL k x.aq))=(aB.mk x.sig (Am ak kL k x.aq))))):=by kernel_rfl
def Kv(hE:aI [])(hO:dL [])(hM:ed [fI])(hS:dP []):MK.Good gu:=by
 refine⟨aA zp rfl (by decide),oX (own:=[8]) (wr:=[]) (cl:=[]) (ro:=[]) hE hO hM hS zp HJ (λ x k=>tu x k) (λ x=>b1r rfl) (b1r (by kernel_rfl)) ?_⟩;show ∀ (x:aB) (k:Int),(0<=k/\k+(aj ak x.aq:Int)<=4611686018427387904)->U k->ck (cg [] [] [fI] [8] []) (az eN) (tu x k) 0 (fY eN gu.m x k) (du eN ⟨(.st .proof),x⟩ k);intro x k hp hk;rewrite [KF x k];refine⟨?_,⟨rfl,rfl⟩⟩;all_goals try and_intros
 all_goals first|rfl|trivial|omega|(simp only[b0N,b0M,aC,U,cb,cM,ca,bF] at *;omega)|(simp[aC,U] at *;omega)|grind
def G5:MK.Good gu:=Kv trivial trivial ⟨Fl,af⟩ trivial
end
end Go.Proofs.YtmjfpcajohhbeaaGreatDoor

set_option maxRecDepth 4000
set_option maxHeartbeats 4000000
namespace Go.Proofs.YtmjfpcajohhbeaaGreatDoor
noncomputable section
mutual
def ZP:∀ (k:Int) (x:J),aJ (QL k x)=aJ x
 | k,⟨a,b,ks⟩=>by
  have:=Jn (k+2) ks;simp only[QL,aJ,this]
def Jn:∀ (k:Int) (xs:List J),Cz (bz k xs)=Cz xs
 | _,[]=>rfl
 | k,x::xs=>by
  have h1:=ZP k x;have h2:=Jn (k+(aJ x:Int)) xs;simp only[bz,Cz,h1,h2]
end
mutual
def a6F:∀ (k:Int) (x:J),QL k (QL k x)=QL k x
 | k,⟨a,b,ks⟩=>by
  have:=VC (k+2) ks;simp only[QL,this]
def VC:∀ (k:Int) (xs:List J),bz k (bz k xs)=bz k xs
 | _,[]=>rfl
 | k,x::xs=>by
  have h1:=a6F k x;have h2:=ZP k x;have h3:=VC (k+(aJ x:Int)) xs;simp only[bz,h1,h2,h3]
end
def rN(k:Int)(xs:List J):Bool:=bT (bz k xs) xs
def dK(k:Int)(xs:List J):Int:=bif rN k xs then k+(aj aJ xs:Int) else -1
def Mr(k:Int)(xs:List J):(rN k xs=true/\dK k xs=k+(aj aJ xs:Int))\/(rN k xs=false/\dK k xs = -1):=by
 unfold dK;cases rN k xs<;>simp
def a1x(k:Int)(xs:List J):dK k (bz k xs)=k+(aj aJ xs:Int):=by
 have h:=VC k xs;have h2:=Jn k xs;rw[vH,vH] at h2;simp[dK,rN,h,h2]
def VD(z:J):∀ (k:Int) (xs:List J) (i:Nat),i<xs.length->bz k (xs.take (i+1))=bz k (xs.take i)++[QL (k+(aj aJ (xs.take i):Int)) (xs.getD i z)]
 | k,[],i,h=>by simp at h
 | k,x::xs,0,h=>by simp[bz,aj]
 | k,x::xs,i+1,h=>by
  have:=VD z (k+(aJ x:Int)) xs i (by simpa using h);simp only[List.take_succ_cons,bz,this,List.getD_cons_succ,aj,List.cons_append];congr 4;omega
def okX(k:Int)(x:J):Bool:=decide (x.au=k)&&decide (x.aO=k+1)&&rN (k+2) x.M
def a0x(k:Int)(x:J):okX k x=true↔QL k x=x:=by
 cases x;simp[okX,rN,QL];constructor
 .rintro⟨⟨h1,h2⟩,h3⟩;exact⟨h1.symm,h2.symm,h3⟩
 .rintro⟨h1,h2,h3⟩;exact⟨⟨h1.symm,h2.symm⟩,h3⟩
def a1R(z:J)(k:Int)(xs:List J)(i:Nat)(h:i<xs.length):rN k (xs.take (i+1))=(rN k (xs.take i)&&okX (k+(aj aJ (xs.take i):Int)) (xs.getD i z)):=by
 rw[b3z,b0R,a0x];simp only[rN,zH];rw[VD z k xs i h,fM z xs i h];constructor
 .intro e;have:=List.append_inj e (by rw[oY]);exact⟨this.1,by simpa using this.2⟩
 .rintro⟨e1,e2⟩;rw[e1,e2]
def a3J(z:J)(k:Int)(xs:List J)(i:Nat)(h:i<xs.length)(e:okX (k+(aj aJ (xs.take i):Int)) (xs.getD i z)=false):rN k xs=false:=by
 cases hb:rN k xs with
 | false=>rfl
 | true =>
  have h1:=ME z k xs i h;simp only[rN,zH] at hb;rw[hb] at h1;have:=(a0x _ _).2 h1.symm;rw[e] at this;cases this
def a1Q(k:Int)(xs:List J)(i:Nat)(h:xs.length<=i):rN k (xs.take i)=rN k xs:=by rw[b1v h]
def a1P(k:Int)(x:J):okX k x=(decide (x.au=k)&&decide (x.aO=k+1)&&rN (k+1+1) x.M):=by
 rw[okX,show k+2=k+1+1 by omega]
def k9(n:Nat):aQ:=⟨qm,[.v (.slice (.st .expr)), .v (.int .i64)],λ (xs:List J) (k:Int)=>⟨(some (cA xs<n/\0<=k/\k+(aj aJ xs:Int)<=4611686018427387904),[⟨(.int .i64),dK k xs⟩])⟩⟩
def qk:aQ:=⟨qm,[.v (.slice (.st .expr)), .v (.int .i64)],λ (xs:List J) (k:Int)=>⟨(some (0<=k/\k+(aj aJ xs:Int)<=4611686018427387904),[⟨(.int .i64),dK k xs⟩])⟩⟩
def B2(xs:List J)(k:Int):Nat->aM:=(λ zb=>if Nat.beq zb 0 then .mk (Nat) (λ i=>i<=xs.length/\rN k (xs.take i)=true) (λ i=>xs.length - i) [] [2,3] (λ i=>[(5, .aT ⟨(.int .i64),((i:Int):Int)⟩),(1, .aT ⟨(.int .i64),((k+(aj aJ (xs.take i):Int)):Int)⟩)]) [0,1,4,5,6,7,8,9,10,11,12,13,14,15,16,17,18,19,20,21,22,23,24,25,26,27,28,29,30,31,32,33,34,35,36,37,38,39] (λ i=>[]) [] [] (λ i=>λ _ => .none) else .none)
def Na(n:Nat)(xs:List J)(k:Int):ck (aZ [k9 n]) (az jt) (B2 xs k) 0 (bx (aZ [k9 n]) jt λ r=>bB r [⟨(.int .i64),dK k xs⟩]) (aL jt [.val ⟨(.slice (.st .expr)),xs⟩, .val ⟨(.int .i64),k⟩]) =
 (((∃ i1:Nat,((i1<=xs.length/\rN k (xs.take i1)=true)/\((xs=xs/\(k=(k+(aj aJ (xs.take i1):Int))/\((0:Int)=(i1:Int)/\True)))/\True)))/\(∀ i1:Nat,((i1<=xs.length/\rN k (xs.take i1)=true) ->
 (U ((xs.length:Int)) ->
 (((decide ((i1:Int)<((xs.length:Int))))=true ->
 (aC (i1:Int) xs.length/\(U (xs.getD i1 zE).au ->
 (((!(decide ((xs.getD i1 zE).au=(k+(aj aJ (xs.take i1):Int)))))=true ->
 (-1:Int)=(dK k xs))/\((!(decide ((xs.getD i1 zE).au=(k+(aj aJ (xs.take i1):Int)))))=false ->
 (U ((k+(aj aJ (xs.take i1):Int))+(1:Int))/\(aC (i1:Int) xs.length/\(U (xs.getD i1 zE).aO ->
 (((!(decide ((xs.getD i1 zE).aO=((k+(aj aJ (xs.take i1):Int))+(1:Int)))))=true ->
 (-1:Int)=(dK k xs))/\((!(decide ((xs.getD i1 zE).aO=((k+(aj aJ (xs.take i1):Int))+(1:Int)))))=false ->
 (U (((k+(aj aJ (xs.take i1):Int))+(1:Int))+(1:Int))/\(aC (i1:Int) xs.length/\((xs.getD i1 zE).M.length<=140737488355328 ->
 ((cA (xs.getD i1 zE).M<n/\0<=(((k+(aj aJ (xs.take i1):Int))+(1:Int))+(1:Int))/\(((k+(aj aJ (xs.take i1):Int))+(1:Int))+(1:Int))+(aj aJ (xs.getD i1 zE).M:Int)<=4611686018427387904)/\(U (dK (((k+(aj aJ (xs.take i1):Int))+(1:Int))+(1:Int)) (xs.getD i1 zE).M) ->
 (((decide ((dK (((k+(aj aJ (xs.take i1):Int))+(1:Int))+(1:Int)) (xs.getD i1 zE).M)<(0:Int)))=true ->
 (-1:Int)=(dK k xs))/\((decide ((dK (((k+(aj aJ (xs.take i1):Int))+(1:Int))+(1:Int)) (xs.getD i1 zE).M)<(0:Int)))=false ->
 (U ((i1:Int)+(1:Int))/\(∃ i2:Nat,((i2<=xs.length/\rN k (xs.take i2)=true)/\(xs.length - i2<xs.length - i1/\((xs=xs/\((dK (((k+(aj aJ (xs.take i1):Int))+(1:Int))+(1:Int)) (xs.getD i1 zE).M)=(k+(aj aJ (xs.take i2):Int))/\(((i1:Int)+(1:Int))=(i2:Int)/\True)))/\True))))))))))))))))))))))/\((decide ((i1:Int)<((xs.length:Int))))=false ->
 (k+(aj aJ (xs.take i1):Int))=(dK k xs)))))))):=by kernel_rfl
def MJ(n:Nat)(hE:aI [k9 n]):aQ.Good (k9 (n+1)):=by
 refine⟨aA oO rfl (by decide),?_⟩;show ∀ (xs:List J) (k:Int),(cA xs<n+1/\0<=k/\k+(aj aJ xs:Int)<=4611686018427387904)->bC prog qm [.val ⟨(.slice (.st .expr)),xs⟩, .val ⟨(.int .i64),k⟩] (·=[⟨(.int .i64),dK k xs⟩]);intro xs k hp;refine bg (wr:=[]) (cl:=[]) (ro:=[]) hE oO HH (B2 xs k) ?_;rewrite [Na n xs k];have f0:rN k (xs.take 0)=true:=by simp[rN,bz]
 have f1:=pT aJ xs;have f2:=Mr k xs;refine⟨⟨0,?_,⟨rfl,?_,?_,af⟩,af⟩,λ i1 _=>have KO:=a1R zE k xs i1;have yj:=a3J zE k xs i1;have Dy:=a1Q k xs i1;have NK:=a1P (k+(aj aJ (xs.take i1):Int)) (xs.getD i1 zE);have Xk:=Mr ((k+(aj aJ (xs.take i1):Int))+1+1) (xs.getD i1 zE).M;have ZM:=jB aJ zE xs i1;have a2p:=cJ aJ xs i1;have a2q:=cJ aJ xs (i1+1);have a2r:=ou aJ xs i1;have a4B:=Uy (xs.getD i1 zE);have a4z:=cx zE xs i1;have a4A:=dX (xs.getD i1 zE);λ _=>⟨λ _=>⟨?_,λ _=>⟨λ _=>?_,λ _=>⟨?_,?_,λ _=>⟨λ _=>?_,λ _=>⟨?_,?_,λ _=>⟨?_,λ _=>⟨λ _=>?_,λ _=>⟨?_,i1+1,?_,?_,⟨rfl,?_,?_,af⟩,af⟩⟩⟩⟩⟩⟩⟩⟩,λ _=>?_⟩⟩;all_goals try and_intros
 all_goals first|rfl|trivial|omega|(simp only[b0N,b0M,aC,U,b1i,b1B] at *;first|omega|grind)
def Hs :∀ n,aI [k9 n]
 | 0=>⟨⟨aA oO rfl (by decide),λ _ _ h=>absurd h.1 (b1H _)⟩,af⟩
 | n+1=>by
  have ih:=Hs  n;exact⟨MJ n ⟨ih.1,af⟩,af⟩
def H4 :aQ.Good qk :=
 ⟨aA oO rfl (by decide),λ xs k hp=>(Hs  (cA xs+1)).1.2 xs k (⟨b1D _,hp⟩)⟩
def nK:aQ:=⟨vY,[.v (.st .expr), .v (.int .i64)],λ (x:J) (k:Int)=>⟨(some (0<=k/\k+(aj aJ x.M:Int)<=4611686018427387904),[⟨(.int .i64),dK k x.M⟩])⟩⟩
def Ed(x:J)(k:Int):Nat->aM:=λ _ => .none
def PT(x:J)(k:Int):ck (aZ [qk] [] [] [2]) (az ky) (Ed x k) 0 (bx (aZ [qk] [] [] [2]) ky λ r=>bB r [⟨(.int .i64),dK k x.M⟩]) (aL ky [.val ⟨(.st .expr),x⟩, .val ⟨(.int .i64),k⟩]) =
 ((x.M.length<=140737488355328 ->
 ((0<=k/\k+(aj aJ x.M:Int)<=4611686018427387904)/\(U (dK k x.M) ->
 (((decide ((dK k x.M)<(0:Int)))=true ->
 (-1:Int)=(dK k x.M))/\((decide ((dK k x.M)<(0:Int)))=false ->
 (dK k x.M)=(dK k x.M))))))):=by kernel_rfl
def O9(hE:aI [qk]):aQ.Good nK:=by
 refine⟨aA Bp rfl (by decide),?_⟩;show ∀ (x:J) (k:Int),(0<=k/\k+(aj aJ x.M:Int)<=4611686018427387904)->bC prog vY [.val ⟨(.st .expr),x⟩, .val ⟨(.int .i64),k⟩] (·=[⟨(.int .i64),dK k x.M⟩]);intro x k hp;refine bg (wr:=[]) (cl:=[]) (ro:=[2]) hE Bp JR (Ed x k) ?_;rewrite [PT x k];have f2:=Mr k x.M;refine λ _=>⟨?_,λ _=>⟨λ _=>?_,λ _=>rfl⟩⟩;all_goals try and_intros
 all_goals first|rfl|trivial|omega|(simp only[b0N,b0M,aC,U,b1i,b1B] at *;first|omega|grind)
def J6:aQ.Good nK:=O9 ⟨H4,af⟩
end
end Go.Proofs.YtmjfpcajohhbeaaGreatDoor

set_option maxRecDepth 4000
set_option maxHeartbeats 4000000
namespace Go.Proofs.YtmjfpcajohhbeaaGreatDoor
noncomputable section
mutual
def aN:J->Nat
 | ⟨_,_,ks⟩=>1+dG ks
def dG:List J->Nat
 | []=>0
 | k::ks=>aN k+dG ks
end
def Sr:∀ xs,dG xs=aj aN xs
 | []=>rfl
 | x::xs=>by rw[dG,aj,Sr xs]
def AE(x:J):aN x=1+aj aN x.M:=by
 cases x;simp[aN,Sr]
mutual
def bR:J->Nat
 | ⟨_,_,ks⟩=>1+zF ks
def zF:List J->Nat
 | []=>0
 | k::ks=>max (bR k) (zF ks)
end
def R9:∀ xs,zF xs=kf bR xs
 | []=>rfl
 | x::xs=>by rw[zF,kf,R9 xs]
def kQ(x:J):bR x=1+kf bR x.M:=by
 cases x;simp[bR,R9]
mutual
def N9:∀ x:J,bR x<=aN x
 | ⟨k,n,ks⟩=>by
  have:=KU ks;simp only[bR,aN];omega
def KU:∀ xs:List J,zF xs<=dG xs
 | []=>by simp[zF]
 | x::xs=>by
  have h1:=N9 x;have h2:=KU xs;simp only[zF,dG];omega
end
def LW(k:Int):Bool:=decide (k=1)||decide (k=2)||decide (k=3)||decide (k=5)||decide (k=6)||decide (k=7)
mutual
def bu:J->Bool
 | ⟨k,_,ks⟩=>LW k&&TI ks
def TI:List J->Bool
 | []=>true
 | k::ks=>bu k&&TI ks
end
def UA:∀ xs,TI xs=bE bu xs
 | []=>rfl
 | x::xs=>by rw[TI,bE,UA xs]
def Qm(x:J):bu x=(LW x.au&&bE bu x.M):=by
 cases x;simp[bu,UA]
def de(k:Int):Int:=if k=1\/k=2\/k=3\/k=4 then 0 else if k=5\/k=8 then 1 else if k=6\/k=7 then 2 else -1
def cu:aQ:=⟨Au,[.v (.int .i64), .v (.int .i64), .v (.int .i64)],λ (n:Int) (least:Int) (most:Int)=>⟨(none,[⟨.bool,decide (least<=n/\n<=most)⟩])⟩⟩
def It(n:Int)(least:Int)(most:Int):Nat->aM:=λ _ => .none
def Tv(n:Int)(least:Int)(most:Int):ck (aZ []) (az nr) (It n least most) 0 (bx (aZ []) nr λ r=>bB r [⟨.bool,decide (least<=n/\n<=most)⟩]) (aL nr [.val ⟨(.int .i64),n⟩, .val ⟨(.int .i64),least⟩, .val ⟨(.int .i64),most⟩]) =
 ((((decide (least<=n))=true ->
 ((decide (n<=most))=(decide (least<=n/\n<=most))))/\((decide (least<=n))=(!true) ->
 (false=(decide (least<=n/\n<=most)))))):=by kernel_rfl
def Tf(hE:aI []):aQ.Good cu:=by
 refine⟨aA F2 rfl (by decide),?_⟩;show ∀ (n:Int) (least:Int) (most:Int),True->bC prog Au [.val ⟨(.int .i64),n⟩, .val ⟨(.int .i64),least⟩, .val ⟨(.int .i64),most⟩] (·=[⟨.bool,decide (least<=n/\n<=most)⟩]);intro n least most _;refine bg (wr:=[]) (cl:=[]) (ro:=[]) hE F2 NU (It n least most) ?_;rewrite [Tv n least most];refine⟨λ _=>?_,λ _=>?_⟩;all_goals try and_intros
 all_goals first|rfl|trivial|(simp_all;done)|(simp_all;omega)
def gS:aQ.Good cu:=Tf trivial
def cQ:aQ:=⟨wC,[.v (.int .i64), .v (.int .i64), .v (.int .i64)],λ (n:Int) (low:Int) (high:Int)=>⟨(none,[⟨.bool,decide (low<=n/\n<=high)⟩])⟩⟩
def La(n:Int)(low:Int)(high:Int):Nat->aM:=λ _ => .none
def Wu(n:Int)(low:Int)(high:Int):ck (aZ []) (az pO) (La n low high) 0 (bx (aZ []) pO λ r=>bB r [⟨.bool,decide (low<=n/\n<=high)⟩]) (aL pO [.val ⟨(.int .i64),n⟩, .val ⟨(.int .i64),low⟩, .val ⟨(.int .i64),high⟩]) =
 ((((decide (low<=n))=true ->
 ((decide (n<=high))=(decide (low<=n/\n<=high))))/\((decide (low<=n))=(!true) ->
 (false=(decide (low<=n/\n<=high)))))):=by kernel_rfl
def VV(hE:aI []):aQ.Good cQ:=by
 refine⟨aA Hx rfl (by decide),?_⟩;show ∀ (n:Int) (low:Int) (high:Int),True->bC prog wC [.val ⟨(.int .i64),n⟩, .val ⟨(.int .i64),low⟩, .val ⟨(.int .i64),high⟩] (·=[⟨.bool,decide (low<=n/\n<=high)⟩]);intro n low high _;refine bg (wr:=[]) (cl:=[]) (ro:=[]) hE Hx Qh (La n low high) ?_;rewrite [Wu n low high];refine⟨λ _=>?_,λ _=>?_⟩;all_goals try and_intros
 all_goals first|rfl|trivial|(simp_all;done)|(simp_all;omega)
def kJ:aQ.Good cQ:=VV trivial
def jd:aQ:=⟨Ax,[.v (.int .i64), .v (.int .i64)],λ (a:Int) (b:Int)=>⟨(none,[⟨(.int .i64),max a b⟩])⟩⟩
def Ix(a:Int)(b:Int):Nat->aM:=λ _ => .none
def TA(a:Int)(b:Int):ck (aZ []) (az nu) (Ix a b) 0 (bx (aZ []) nu λ r=>bB r [⟨(.int .i64),max a b⟩]) (aL nu [.val ⟨(.int .i64),a⟩, .val ⟨(.int .i64),b⟩]) =
 ((((decide (b<a))=true ->
 a=(max a b))/\((decide (b<a))=false ->
 b=(max a b)))):=by kernel_rfl
def Tj(hE:aI []):aQ.Good jd:=by
 refine⟨aA F3 rfl (by decide),?_⟩;show ∀ (a:Int) (b:Int),True->bC prog Ax [.val ⟨(.int .i64),a⟩, .val ⟨(.int .i64),b⟩] (·=[⟨(.int .i64),max a b⟩]);intro a b _;refine bg (wr:=[]) (cl:=[]) (ro:=[]) hE F3 NX (Ix a b) ?_;rewrite [TA a b];refine⟨λ _=>?_,λ _=>?_⟩;all_goals try and_intros
 all_goals first|rfl|trivial|(simp_all;omega)
def BG:aQ.Good jd:=Tj trivial
def qH:aQ:=⟨Ar,[.v (.int .i64)],λ (k:Int)=>⟨(none,[⟨(.int .i64),de k⟩])⟩⟩
def Ip(k:Int):Nat->aM:=λ _ => .none
abbrev D3(k:Int):Prop:=(((decide (k=(6:Int)))=true ->
 (((decide (k=(6:Int)))=true ->
 (2:Int)=(de k))/\((decide (k=(6:Int)))=false ->
 (-1:Int)=(de k))))/\((decide (k=(6:Int)))=false ->
 (((decide (k=(7:Int)))=true ->
 (2:Int)=(de k))/\((decide (k=(7:Int)))=false ->
 (-1:Int)=(de k)))))
abbrev rv(k:Int):Prop:=(((decide (k=(5:Int)))=true ->
 (((decide (k=(5:Int)))=true ->
 (1:Int)=(de k))/\((decide (k=(5:Int)))=false ->
 (D3 k))))/\((decide (k=(5:Int)))=false ->
 (((decide (k=(8:Int)))=true ->
 (1:Int)=(de k))/\((decide (k=(8:Int)))=false ->
 (D3 k)))))
def Tq(k:Int):ck (aZ []) (az ni) (Ip k) 0 (bx (aZ []) ni λ r=>bB r [⟨(.int .i64),de k⟩]) (aL ni [.val ⟨(.int .i64),k⟩]) =
 ((((decide (k=(1:Int)))=true ->
 (((decide (k=(1:Int)))=true ->
 (0:Int)=(de k))/\((decide (k=(1:Int)))=false ->
 (rv k))))/\((decide (k=(1:Int)))=false ->
 (((decide (k=(2:Int)))=true ->
 (((decide (k=(2:Int)))=true ->
 (0:Int)=(de k))/\((decide (k=(2:Int)))=false ->
 (rv k))))/\((decide (k=(2:Int)))=false ->
 (((decide (k=(3:Int)))=true ->
 (((decide (k=(3:Int)))=true ->
 (0:Int)=(de k))/\((decide (k=(3:Int)))=false ->
 (rv k))))/\((decide (k=(3:Int)))=false ->
 (((decide (k=(4:Int)))=true ->
 (0:Int)=(de k))/\((decide (k=(4:Int)))=false ->
 (rv k)))))))))):=by kernel_rfl
def Tb(hE:aI []):aQ.Good qH:=by
 refine⟨aA FZ rfl (by decide),?_⟩;show ∀ (k:Int),True->bC prog Ar [.val ⟨(.int .i64),k⟩] (·=[⟨(.int .i64),de k⟩]);intro k _;refine bg (wr:=[]) (cl:=[]) (ro:=[]) hE FZ NQ (Ip k) ?_;rewrite [Tq k];refine⟨λ _=>⟨λ _=>?_,λ _=>⟨λ _=>⟨λ _=>?_,λ _=>⟨λ _=>⟨λ _=>?_,λ _=>?_⟩,λ _=>⟨λ _=>?_,λ _=>?_⟩⟩⟩,λ _=>⟨λ _=>?_,λ _=>⟨λ _=>⟨λ _=>?_,λ _=>?_⟩,λ _=>⟨λ _=>?_,λ _=>?_⟩⟩⟩⟩⟩,λ _=>⟨λ _=>⟨λ _=>?_,λ _=>⟨λ _=>⟨λ _=>?_,λ _=>⟨λ _=>⟨λ _=>?_,λ _=>?_⟩,λ _=>⟨λ _=>?_,λ _=>?_⟩⟩⟩,λ _=>⟨λ _=>?_,λ _=>⟨λ _=>⟨λ _=>?_,λ _=>?_⟩,λ _=>⟨λ _=>?_,λ _=>?_⟩⟩⟩⟩⟩,λ _=>⟨λ _=>⟨λ _=>?_,λ _=>⟨λ _=>⟨λ _=>?_,λ _=>⟨λ _=>⟨λ _=>?_,λ _=>?_⟩,λ _=>⟨λ _=>?_,λ _=>?_⟩⟩⟩,λ _=>⟨λ _=>?_,λ _=>⟨λ _=>⟨λ _=>?_,λ _=>?_⟩,λ _=>⟨λ _=>?_,λ _=>?_⟩⟩⟩⟩⟩,λ _=>⟨λ _=>?_,λ _=>⟨λ _=>⟨λ _=>?_,λ _=>⟨λ _=>⟨λ _=>?_,λ _=>?_⟩,λ _=>⟨λ _=>?_,λ _=>?_⟩⟩⟩,λ _=>⟨λ _=>?_,λ _=>⟨λ _=>⟨λ _=>?_,λ _=>?_⟩,λ _=>⟨λ _=>?_,λ _=>?_⟩⟩⟩⟩⟩⟩⟩⟩;all_goals try and_intros
 all_goals first|rfl|trivial|(simp only[decide_eq_true_eq,decide_eq_false_iff_not] at *;simp[de, *];done)|(simp only[decide_eq_true_eq,decide_eq_false_iff_not] at *;unfold de;repeat (first|omega|split))
def Oo:aQ.Good qH:=Tb trivial
def px:aQ:=⟨xY,[.v (.int .i64)],λ (k:Int)=>⟨(none,[⟨(.int .i64),de k⟩])⟩⟩
def Gn(k:Int):Nat->aM:=λ _ => .none
abbrev BM(k:Int):Prop:=(((decide (k=(6:Int)))=true ->
 (((decide (k=(6:Int)))=true ->
 (2:Int)=(de k))/\((decide (k=(6:Int)))=false ->
 (-1:Int)=(de k))))/\((decide (k=(6:Int)))=false ->
 (((decide (k=(7:Int)))=true ->
 (2:Int)=(de k))/\((decide (k=(7:Int)))=false ->
 (-1:Int)=(de k)))))
abbrev qi(k:Int):Prop:=(((decide (k=(5:Int)))=true ->
 (((decide (k=(5:Int)))=true ->
 (1:Int)=(de k))/\((decide (k=(5:Int)))=false ->
 (BM k))))/\((decide (k=(5:Int)))=false ->
 (((decide (k=(8:Int)))=true ->
 (1:Int)=(de k))/\((decide (k=(8:Int)))=false ->
 (BM k)))))
def Ry(k:Int):ck (aZ []) (az lP) (Gn k) 0 (bx (aZ []) lP λ r=>bB r [⟨(.int .i64),de k⟩]) (aL lP [.val ⟨(.int .i64),k⟩]) =
 ((((decide (k=(1:Int)))=true ->
 (((decide (k=(1:Int)))=true ->
 (0:Int)=(de k))/\((decide (k=(1:Int)))=false ->
 (qi k))))/\((decide (k=(1:Int)))=false ->
 (((decide (k=(2:Int)))=true ->
 (((decide (k=(2:Int)))=true ->
 (0:Int)=(de k))/\((decide (k=(2:Int)))=false ->
 (qi k))))/\((decide (k=(2:Int)))=false ->
 (((decide (k=(3:Int)))=true ->
 (((decide (k=(3:Int)))=true ->
 (0:Int)=(de k))/\((decide (k=(3:Int)))=false ->
 (qi k))))/\((decide (k=(3:Int)))=false ->
 (((decide (k=(4:Int)))=true ->
 (0:Int)=(de k))/\((decide (k=(4:Int)))=false ->
 (qi k)))))))))):=by kernel_rfl
def Q1(hE:aI []):aQ.Good px:=by
 refine⟨aA Dr rfl (by decide),?_⟩;show ∀ (k:Int),True->bC prog xY [.val ⟨(.int .i64),k⟩] (·=[⟨(.int .i64),de k⟩]);intro k _;refine bg (wr:=[]) (cl:=[]) (ro:=[]) hE Dr LH (Gn k) ?_;rewrite [Ry k];refine⟨λ _=>⟨λ _=>?_,λ _=>⟨λ _=>⟨λ _=>?_,λ _=>⟨λ _=>⟨λ _=>?_,λ _=>?_⟩,λ _=>⟨λ _=>?_,λ _=>?_⟩⟩⟩,λ _=>⟨λ _=>?_,λ _=>⟨λ _=>⟨λ _=>?_,λ _=>?_⟩,λ _=>⟨λ _=>?_,λ _=>?_⟩⟩⟩⟩⟩,λ _=>⟨λ _=>⟨λ _=>?_,λ _=>⟨λ _=>⟨λ _=>?_,λ _=>⟨λ _=>⟨λ _=>?_,λ _=>?_⟩,λ _=>⟨λ _=>?_,λ _=>?_⟩⟩⟩,λ _=>⟨λ _=>?_,λ _=>⟨λ _=>⟨λ _=>?_,λ _=>?_⟩,λ _=>⟨λ _=>?_,λ _=>?_⟩⟩⟩⟩⟩,λ _=>⟨λ _=>⟨λ _=>?_,λ _=>⟨λ _=>⟨λ _=>?_,λ _=>⟨λ _=>⟨λ _=>?_,λ _=>?_⟩,λ _=>⟨λ _=>?_,λ _=>?_⟩⟩⟩,λ _=>⟨λ _=>?_,λ _=>⟨λ _=>⟨λ _=>?_,λ _=>?_⟩,λ _=>⟨λ _=>?_,λ _=>?_⟩⟩⟩⟩⟩,λ _=>⟨λ _=>?_,λ _=>⟨λ _=>⟨λ _=>?_,λ _=>⟨λ _=>⟨λ _=>?_,λ _=>?_⟩,λ _=>⟨λ _=>?_,λ _=>?_⟩⟩⟩,λ _=>⟨λ _=>?_,λ _=>⟨λ _=>⟨λ _=>?_,λ _=>?_⟩,λ _=>⟨λ _=>?_,λ _=>?_⟩⟩⟩⟩⟩⟩⟩⟩;all_goals try and_intros
 all_goals first|rfl|trivial|(simp only[decide_eq_true_eq,decide_eq_false_iff_not] at *;simp[de, *];done)|(simp only[decide_eq_true_eq,decide_eq_false_iff_not] at *;unfold de;repeat (first|omega|split))
def Mc:aQ.Good px:=Q1 trivial
def jf(n:Nat):aQ:=⟨mT,[.v (.st .expr)],λ (x:J)=>⟨(some (cA x<n),[⟨.bool,bu x⟩])⟩⟩
def cK:aQ:=⟨mT,[.v (.st .expr)],λ (x:J)=>⟨(none,[⟨.bool,bu x⟩])⟩⟩
def yz(x:J):Nat->aM:=(λ zb=>if Nat.beq zb 1 then .mk (Nat) (λ k=>k<=x.M.length/\bE bu (x.M.take k)=true) (λ k=>x.M.length - k) [] [0,1,3,5,6,7,8,9,10,11,12,13,14] (λ k=>[(17, .aT ⟨(.int .i64),((k:Int):Int)⟩)]) [2,4,15,16,17,18,19,20,21,22,23,24] (λ k=>[]) [] [] (λ k=>λ _ => .none) else .none)
abbrev fW(n:Nat)(x:J):Prop:=(x.M.length<=140737488355328 ->
 (U ((x.M.length:Int)) ->
 ((∃ k1:Nat,((k1<=x.M.length/\bE bu (x.M.take k1)=true)/\((x.M=x.M/\(((x.M.length:Int))=((x.M.length:Int))/\((0:Int)=(k1:Int)/\True)))/\True)))/\(∀ k1:Nat,((k1<=x.M.length/\bE bu (x.M.take k1)=true) ->
 (((decide ((k1:Int)<((x.M.length:Int))))=true ->
 (aC (k1:Int) x.M.length/\(cA (ag (x.M.getD k1 zE))<n/\(((!(bu (ag (x.M.getD k1 zE))))=true ->
 false=(bu x))/\((!(bu (ag (x.M.getD k1 zE))))=false ->
 (U ((k1:Int)+(1:Int))/\(∃ k2:Nat,((k2<=x.M.length/\bE bu (x.M.take k2)=true)/\(x.M.length - k2<x.M.length - k1/\((x.M=x.M/\(((x.M.length:Int))=((x.M.length:Int))/\(((k1:Int)+(1:Int))=(k2:Int)/\True)))/\True))))))))))/\((decide ((k1:Int)<((x.M.length:Int))))=false ->
 true=(bu x))))))))
def Jd(n:Nat)(x:J):ck (aZ [jf n] [] [] [1]) (az ic) (yz x) 0 (bx (aZ [jf n] [] [] [1]) ic λ r=>bB r [⟨.bool,bu x⟩]) (aL ic [.val ⟨(.st .expr),x⟩]) =
 ((U x.au ->
 (((decide (x.au=(1:Int)))=true ->
 (((decide (x.au=(1:Int)))=true ->
 (fW n x))/\((decide (x.au=(1:Int)))=false ->
 false=(bu x))))/\((decide (x.au=(1:Int)))=false ->
 (((decide (x.au=(2:Int)))=true ->
 (((decide (x.au=(2:Int)))=true ->
 (fW n x))/\((decide (x.au=(2:Int)))=false ->
 false=(bu x))))/\((decide (x.au=(2:Int)))=false ->
 (((decide (x.au=(3:Int)))=true ->
 (((decide (x.au=(3:Int)))=true ->
 (fW n x))/\((decide (x.au=(3:Int)))=false ->
 false=(bu x))))/\((decide (x.au=(3:Int)))=false ->
 (((decide (x.au=(5:Int)))=true ->
 (((decide (x.au=(5:Int)))=true ->
 (fW n x))/\((decide (x.au=(5:Int)))=false ->
 false=(bu x))))/\((decide (x.au=(5:Int)))=false ->
 (((decide (x.au=(6:Int)))=true ->
 (((decide (x.au=(6:Int)))=true ->
 (fW n x))/\((decide (x.au=(6:Int)))=false ->
 false=(bu x))))/\((decide (x.au=(6:Int)))=false ->
 (((decide (x.au=(7:Int)))=true ->
 (fW n x))/\((decide (x.au=(7:Int)))=false ->
 false=(bu x))))))))))))))):=by kernel_rfl
def IU(n:Nat)(hE:aI [jf n]):aQ.Good (jf (n+1)):=by
 refine⟨aA l8 rfl (by decide),?_⟩;show ∀ (x:J),(cA x<n+1)->bC prog mT [.val ⟨(.st .expr),x⟩] (·=[⟨.bool,bu x⟩]);intro x hp;refine bg (wr:=[]) (cl:=[]) (ro:=[1]) hE l8 EP (yz x) ?_;rewrite [Jd n x];have f0:=dX x;have f1:=all_zero bu x.M;refine λ _=>⟨λ _=>⟨λ _ _ _=>⟨⟨0,?_,⟨rfl,rfl,?_,af⟩,af⟩,λ k1 _=>have a8P:=dU bu zE x.M k1;have a8Q:=eZ bu zE x.M k1;have a8R:=fR bu x.M k1;have b0w:=cx zE x.M k1;⟨λ _=>⟨?_,?_,λ _=>?_,λ _=>⟨?_,k1+1,?_,?_,⟨rfl,rfl,?_,af⟩,af⟩⟩,λ _=>?_⟩⟩,λ _=>?_⟩,λ _=>⟨λ _=>⟨λ _ _ _=>⟨⟨0,?_,⟨rfl,rfl,?_,af⟩,af⟩,λ k1 _=>have b0x:=dU bu zE x.M k1;have b0y:=eZ bu zE x.M k1;have b0z:=fR bu x.M k1;have b0A:=cx zE x.M k1;⟨λ _=>⟨?_,?_,λ _=>?_,λ _=>⟨?_,k1+1,?_,?_,⟨rfl,rfl,?_,af⟩,af⟩⟩,λ _=>?_⟩⟩,λ _=>?_⟩,λ _=>⟨λ _=>⟨λ _ _ _=>⟨⟨0,?_,⟨rfl,rfl,?_,af⟩,af⟩,λ k1 _=>have a4D:=dU bu zE x.M k1;have a4E:=eZ bu zE x.M k1;have a4F:=fR bu x.M k1;have a7b:=cx zE x.M k1;⟨λ _=>⟨?_,?_,λ _=>?_,λ _=>⟨?_,k1+1,?_,?_,⟨rfl,rfl,?_,af⟩,af⟩⟩,λ _=>?_⟩⟩,λ _=>?_⟩,λ _=>⟨λ _=>⟨λ _ _ _=>⟨⟨0,?_,⟨rfl,rfl,?_,af⟩,af⟩,λ k1 _=>have b0B:=dU bu zE x.M k1;have b0C:=eZ bu zE x.M k1;have b0D:=fR bu x.M k1;have b0E:=cx zE x.M k1;⟨λ _=>⟨?_,?_,λ _=>?_,λ _=>⟨?_,k1+1,?_,?_,⟨rfl,rfl,?_,af⟩,af⟩⟩,λ _=>?_⟩⟩,λ _=>?_⟩,λ _=>⟨λ _=>⟨λ _ _ _=>⟨⟨0,?_,⟨rfl,rfl,?_,af⟩,af⟩,λ k1 _=>have a7c:=dU bu zE x.M k1;have a7d:=eZ bu zE x.M k1;have a7e:=fR bu x.M k1;have a8Y:=cx zE x.M k1;⟨λ _=>⟨?_,?_,λ _=>?_,λ _=>⟨?_,k1+1,?_,?_,⟨rfl,rfl,?_,af⟩,af⟩⟩,λ _=>?_⟩⟩,λ _=>?_⟩,λ _=>⟨λ _ _ _=>⟨⟨0,?_,⟨rfl,rfl,?_,af⟩,af⟩,λ k1 _=>have a7c:=dU bu zE x.M k1;have a7d:=eZ bu zE x.M k1;have a7e:=fR bu x.M k1;have a8Y:=cx zE x.M k1;⟨λ _=>⟨?_,?_,λ _=>?_,λ _=>⟨?_,k1+1,?_,?_,⟨rfl,rfl,?_,af⟩,af⟩⟩,λ _=>?_⟩⟩,λ _=>?_⟩⟩⟩⟩⟩⟩;all_goals try and_intros
 all_goals try (first|with_reducible rfl|with_reducible assumption)
 all_goals try simp only[J.eta,ae.eta,aH.eta,aU,bM,ct] at *
 all_goals try rw[Qm x]
 all_goals first|rfl|trivial|(simp only[b0N,b0M,aC,U] at *;omega)|(simp_all [LW];done)|(simp_all [LW,aC,U];omega)
def RR :∀ n,aI [jf n]
 | 0=>⟨⟨aA l8 rfl (by decide),λ _ h=>absurd h (b1H _)⟩,af⟩
 | n+1=>by
  have ih:=RR  n;exact⟨IU n ⟨ih.1,af⟩,af⟩
def jX :aQ.Good cK :=
 ⟨aA l8 rfl (by decide),λ x hp=>(RR  (cA x+1)).1.2 x (b1D _)⟩
def iE(n:Nat):aQ:=⟨jh,[.r (.st .expr)],λ (x:J)=>⟨(some (cA x<n),[⟨.bool,bu x⟩])⟩⟩
def fe:aQ:=⟨jh,[.r (.st .expr)],λ (x:J)=>⟨(none,[⟨.bool,bu x⟩])⟩⟩
def xn(x:J):Nat->aM:=(λ zb=>if Nat.beq zb 0 then .mk (Nat) (λ k=>k<=x.M.length/\bE bu (x.M.take k)=true) (λ k=>x.M.length - k) [] [1,4,5,6,7,8,9,10,11,12,13,14,15,16] (λ k=>[(3, .aT ⟨(.int .i64),((k:Int):Int)⟩)]) [0,2,3,17,18,19,20,21,22,23,24,25,26,27,28,29,30,31,32,33] (λ k=>[]) [] [] (λ k=>λ _ => .none) else .none)
abbrev uF(n:Nat)(x:J):Prop:=((∃ k1:Nat,((k1<=x.M.length/\bE bu (x.M.take k1)=true)/\((x=x/\((0:Int)=(k1:Int)/\True))/\True)))/\(∀ k1:Nat,((k1<=x.M.length/\bE bu (x.M.take k1)=true) ->
 (x.M.length<=140737488355328 ->
 (U ((x.M.length:Int)) ->
 (((decide ((k1:Int)<((x.M.length:Int))))=true ->
 (x.M.length<=140737488355328 ->
 (aC (k1:Int) x.M.length/\(cA (x.M.getD k1 zE)<n/\(((!(bu (x.M.getD k1 zE)))=true ->
 false=(bu x))/\((!(bu (x.M.getD k1 zE)))=false ->
 (U ((k1:Int)+(1:Int))/\(∃ k2:Nat,((k2<=x.M.length/\bE bu (x.M.take k2)=true)/\(x.M.length - k2<x.M.length - k1/\((x=x/\(((k1:Int)+(1:Int))=(k2:Int)/\True))/\True)))))))))))/\((decide ((k1:Int)<((x.M.length:Int))))=false ->
 true=(bu x))))))))
def Hm(n:Nat)(x:J):ck (aZ [iE n,cQ]) (az gF) (xn x) 0 (bx (aZ [iE n,cQ]) gF λ r=>bB r [⟨.bool,bu x⟩]) (aL gF [.ref ⟨(.st .expr),x⟩]) =
 ((U x.au ->
 ((((!(decide ((1:Int)<=x.au/\x.au<=(7:Int))))=false) ->
 (U x.au ->
 (((decide (x.au=(4:Int)))=true ->
 false=(bu x))/\((decide (x.au=(4:Int)))=false ->
 (uF n x)))))/\(((!(decide ((1:Int)<=x.au/\x.au<=(7:Int))))=(!false)) ->
 ((true=true ->
 false=(bu x))/\(true=false ->
 (uF n x))))))):=by kernel_rfl
def Hc(n:Nat)(hE:aI [iE n,cQ]):aQ.Good (iE (n+1)):=by
 refine⟨aA lA rfl (by decide),?_⟩;show ∀ (x:J),(cA x<n+1)->bC prog jh [.ref ⟨(.st .expr),x⟩] (·=[⟨.bool,bu x⟩]);intro x hp;refine bg (wr:=[]) (cl:=[]) (ro:=[]) hE lA DD (xn x) ?_;rewrite [Hm n x];have f0:=dX x;have f1:=all_zero bu x.M;refine λ _=>⟨λ _ _=>⟨λ _=>?_,λ _=>⟨⟨0,?_,⟨rfl,?_,af⟩,af⟩,λ k1 _=>have a8L:=dU bu zE x.M k1;have a8M:=eZ bu zE x.M k1;have a8N:=fR bu x.M k1;have a8O:=cx zE x.M k1;λ _ _=>⟨λ _ _=>⟨?_,?_,λ _=>?_,λ _=>⟨?_,k1+1,?_,?_,⟨rfl,?_,af⟩,af⟩⟩,λ _=>?_⟩⟩⟩,λ _=>⟨λ _=>?_,λ _=>⟨⟨0,?_,⟨rfl,?_,af⟩,af⟩,λ k1 _=>have a2s:=dU bu zE x.M k1;have a2t:=eZ bu zE x.M k1;have a8K:=fR bu x.M k1;have b0v:=cx zE x.M k1;λ _ _=>⟨λ _ _=>⟨?_,?_,λ _=>?_,λ _=>⟨?_,k1+1,?_,?_,⟨rfl,?_,af⟩,af⟩⟩,λ _=>?_⟩⟩⟩⟩;all_goals try and_intros
 all_goals try rw[Qm x]
 all_goals first|rfl|trivial|(simp only[b0N,b0M,aC,U] at *;omega)|(simp_all [LW];done)|(simp_all [LW,aC,U];omega)
def RT :∀ n,aI [iE n]
 | 0=>⟨⟨aA lA rfl (by decide),λ _ h=>absurd h (b1H _)⟩,af⟩
 | n+1=>by
  have ih:=RT  n;exact⟨Hc n ⟨ih.1,kJ,af⟩,af⟩
def nC :aQ.Good fe :=
 ⟨aA lA rfl (by decide),λ x hp=>(RT  (cA x+1)).1.2 x (b1D _)⟩
def tj(t a:Int)(x:J):Bool:=decide (de x.au=(x.M.length:Int)) &&
 (if x.au=3 then decide (0<=x.aO/\x.aO<=t) else if x.au=4 then decide (0<=x.aO/\x.aO<=a) else decide (x.aO=0)) &&
 (!decide (x.au=5)||bu (x.M.getD 0 ⟨0,0,[]⟩))
mutual
def br(t a:Int):J->Bool
 | ⟨k,n,ks⟩=>tj t a ⟨k,n,ks⟩&&rH t a ks
def rH(t a:Int):List J->Bool
 | []=>true
 | k::ks=>br t a k&&rH t a ks
end
def Wo(t a:Int):∀ xs,rH t a xs=bE (br t a) xs
 | []=>rfl
 | x::xs=>by rw[rH,bE,Wo t a xs]
def l5(t a:Int)(x:J):br t a x=(tj t a x&&bE (br t a) x.M):=by
 cases x;simp[br,Wo]
def aV(n:Int):Int:=IntKind.wrap .i64 (n - 1)
def Fz(n:Int)(h : -9223372036854775807<=n/\n<=9223372036854775807):aV n=n - 1:=by
 simp[aV,IntKind.wrap,IntKind.signed,IntKind.bits];omega
def nV(n:Nat):aQ:=⟨tc,[.r (.st .expr), .v (.int .i64)],λ (x:J) (left:Int)=>⟨(some (cA x<n/\0<=left/\left<=1048576),[⟨(.int .i64),bQ (aN x) left⟩])⟩⟩
def sU:aQ:=⟨tc,[.r (.st .expr), .v (.int .i64)],λ (x:J) (left:Int)=>⟨(some (0<=left/\left<=1048576),[⟨(.int .i64),bQ (aN x) left⟩])⟩⟩
def Gp(x:J)(left:Int):Nat->aM:=(λ zb=>if Nat.beq zb 0 then .mk (Nat) (λ k=>k<=x.M.length) (λ k=>x.M.length - k) [] [2,3,6,7] (λ k=>[(5, .aT ⟨(.int .i64),((k:Int):Int)⟩),(1, .aT ⟨(.int .i64),(bQ (1+aj aN (x.M.take k)) left:Int)⟩)]) [0,1,4,5,8,9,10,11,12,13,14,15,16,17,18,19,20,21,22,23,24,25,26,27,28,29] (λ k=>[]) [] [] (λ k=>λ _ => .none) else .none)
abbrev BN(n:Nat)(x:J)(left:Int)(k1:Nat):Prop:=(x.M.length<=140737488355328 ->
 (aC (k1:Int) x.M.length/\((cA (x.M.getD k1 zE)<n/\0<=(bQ (1+aj aN (x.M.take k1)) left)/\(bQ (1+aj aN (x.M.take k1)) left)<=1048576)/\(U (bQ (aN (x.M.getD k1 zE)) (bQ (1+aj aN (x.M.take k1)) left)) ->
 (U ((k1:Int)+(1:Int))/\(∃ k2:Nat,(k2<=x.M.length/\(x.M.length - k2<x.M.length - k1/\((x=x/\((bQ (aN (x.M.getD k1 zE)) (bQ (1+aj aN (x.M.take k1)) left))=(bQ (1+aj aN (x.M.take k2)) left)/\((0:Int)=(0:Int)/\(((k1:Int)+(1:Int))=(k2:Int)/\True))))/\True)))))))))
def Rz(n:Nat)(x:J)(left:Int):ck (aZ [nV n]) (az lQ) (Gp x left) 0 (bx (aZ [nV n]) lQ λ r=>bB r [⟨(.int .i64),bQ (aN x) left⟩]) (aL lQ [.ref ⟨(.st .expr),x⟩, .val ⟨(.int .i64),left⟩]) =
 ((U (left - (1:Int))/\((∃ k1:Nat,(k1<=x.M.length/\((x=x/\((left - (1:Int))=(bQ (1+aj aN (x.M.take k1)) left)/\((0:Int)=(0:Int)/\((0:Int)=(k1:Int)/\True))))/\True)))/\(∀ k1:Nat,(k1<=x.M.length ->
 (x.M.length<=140737488355328 ->
 (U ((x.M.length:Int)) ->
 (((decide ((k1:Int)<((x.M.length:Int))))=true ->
 (((decide ((0:Int)<=(bQ (1+aj aN (x.M.take k1)) left)))=true ->
 (BN n x left k1))/\((decide ((0:Int)<=(bQ (1+aj aN (x.M.take k1)) left)))=false ->
 (bQ (1+aj aN (x.M.take k1)) left)=(bQ (aN x) left))))/\((decide ((k1:Int)<((x.M.length:Int))))=(!true) ->
 ((false=true ->
 (BN n x left k1))/\(false=false ->
 (bQ (1+aj aN (x.M.take k1)) left)=(bQ (aN x) left)))))))))))):=by kernel_rfl
def Q2(n:Nat)(hE:aI [nV n]):aQ.Good (nV (n+1)):=by
 refine⟨aA re rfl (by decide),?_⟩;show ∀ (x:J) (left:Int),(cA x<n+1/\0<=left/\left<=1048576)->bC prog tc [.ref ⟨(.st .expr),x⟩, .val ⟨(.int .i64),left⟩] (·=[⟨(.int .i64),bQ (aN x) left⟩]);intro x left hp;refine bg (wr:=[]) (cl:=[]) (ro:=[]) hE re LI (Gp x left) ?_;rewrite [Rz n x left];have f0:=dX x;have f1:=pT aN x.M;have f2:=eY (1+aj aN (x.M.take 0)) left;refine⟨?_,⟨0,?_,⟨rfl,?_,rfl,?_,af⟩,af⟩,λ k1 _=>have KO:=jB aN zE x.M k1;have yj:=cJ aN x.M k1;have Dy:=cJ aN x.M (k1+1);have NK:=ou aN x.M k1;have Xk:=cx zE x.M k1;have ZM:=eY (1+aj aN (x.M.take k1)) left;have a2p:=eY (1+aj aN (x.M.take (k1+1))) left;have a2q:=eY (aN (x.M.getD k1 zE)) (bQ (1+aj aN (x.M.take k1)) left);have a2r:=eY (1+aj aN x.M) left;λ _ _=>⟨λ _=>⟨λ _ _=>⟨?_,?_,λ _=>⟨?_,k1+1,?_,?_,⟨rfl,?_,rfl,?_,af⟩,af⟩⟩,λ _=>?_⟩,λ _=>⟨λ _ _=>⟨?_,?_,λ _=>⟨?_,k1+1,?_,?_,⟨rfl,?_,rfl,?_,af⟩,af⟩⟩,λ _=>?_⟩⟩⟩;all_goals try and_intros
 all_goals try rw[AE x]
 all_goals first|rfl|trivial|omega|(simp only[b0N,b0M,aC,U,cb,cM,ca,bF] at *;omega)|(simp[aC,U] at *;omega)|grind
def RU :∀ n,aI [nV n]
 | 0=>⟨⟨aA re rfl (by decide),λ _ _ h=>absurd h.1 (b1H _)⟩,af⟩
 | n+1=>by
  have ih:=RU  n;exact⟨Q2 n ⟨ih.1,af⟩,af⟩
def Md :aQ.Good sU :=
 ⟨aA re rfl (by decide),λ x left hp=>(RU  (cA x+1)).1.2 x left (⟨b1D _,hp⟩)⟩
def mr(n:Nat):aQ:=⟨rD,[.r (.st .expr)],λ (x:J)=>⟨(some (cA x<n/\bR x<=1048576),[⟨(.int .i64),(bR x:Int)⟩])⟩⟩
def rz:aQ:=⟨rD,[.r (.st .expr)],λ (x:J)=>⟨(some (bR x<=1048576),[⟨(.int .i64),(bR x:Int)⟩])⟩⟩
def Ei(x:J):Nat->aM:=(λ zb=>if Nat.beq zb 0 then .mk (Nat) (λ k=>k<=x.M.length) (λ k=>x.M.length - k) [] [1] (λ k=>[(4, .aT ⟨(.int .i64),((k:Int):Int)⟩),(3, .aT ⟨(.int .i64),((kf bR (x.M.take k):Int):Int)⟩)]) [0,2,3,4,5,6,7,8,9,10,11,12,13,14,15,16,17,18,19,20,21,22,23,24] (λ k=>[]) [] [] (λ k=>λ _ => .none) else .none)
def PY(n:Nat)(x:J):ck (aZ [mr n,jd]) (az kF) (Ei x) 0 (bx (aZ [mr n,jd]) kF λ r=>bB r [⟨(.int .i64),(bR x:Int)⟩]) (aL kF [.ref ⟨(.st .expr),x⟩]) =
 (((∃ k1:Nat,(k1<=x.M.length/\((x=x/\((0:Int)=(0:Int)/\((0:Int)=(kf bR (x.M.take k1):Int)/\((0:Int)=(k1:Int)/\True))))/\True)))/\(∀ k1:Nat,(k1<=x.M.length ->
 (x.M.length<=140737488355328 ->
 (U ((x.M.length:Int)) ->
 (((decide ((k1:Int)<((x.M.length:Int))))=true ->
 (x.M.length<=140737488355328 ->
 (aC (k1:Int) x.M.length/\((cA (x.M.getD k1 zE)<n/\bR (x.M.getD k1 zE)<=1048576)/\(U ((bR (x.M.getD k1 zE):Int)) ->
 (U (max (kf bR (x.M.take k1):Int) ((bR (x.M.getD k1 zE):Int))) ->
 (U ((k1:Int)+(1:Int))/\(∃ k2:Nat,(k2<=x.M.length/\(x.M.length - k2<x.M.length - k1/\((x=x/\((0:Int)=(0:Int)/\((max (kf bR (x.M.take k1):Int) ((bR (x.M.getD k1 zE):Int)))=(kf bR (x.M.take k2):Int)/\(((k1:Int)+(1:Int))=(k2:Int)/\True))))/\True)))))))))))/\((decide ((k1:Int)<((x.M.length:Int))))=false ->
 (U ((kf bR (x.M.take k1):Int)+(1:Int))/\((kf bR (x.M.take k1):Int)+(1:Int))=(bR x:Int)))))))))):=by kernel_rfl
def Pe(n:Nat)(hE:aI [mr n,jd]):aQ.Good (mr (n+1)):=by
 refine⟨aA qg rfl (by decide),?_⟩;show ∀ (x:J),(cA x<n+1/\bR x<=1048576)->bC prog rD [.ref ⟨(.st .expr),x⟩] (·=[⟨(.int .i64),(bR x:Int)⟩]);intro x hp;refine bg (wr:=[]) (cl:=[]) (ro:=[]) hE qg JW (Ei x) ?_;rewrite [PY n x];rw[kQ x] at hp;have f0:=dX x;have f1:=VA bR x.M;refine⟨⟨0,?_,⟨rfl,rfl,?_,?_,af⟩,af⟩,λ k1 _=>have KO:=vS bR zE x.M k1;have yj:=mO bR x.M k1;have Dy:=mO bR x.M (k1+1);have NK:=Es bR x.M k1;have Xk:=cx zE x.M k1;have ZM:=vR bR zE x.M k1;λ _ _=>⟨λ _ _=>⟨?_,?_,λ _ _=>⟨?_,k1+1,?_,?_,⟨rfl,rfl,?_,?_,af⟩,af⟩⟩,λ _=>⟨?_,?_⟩⟩⟩;all_goals try and_intros
 all_goals try rw[kQ x]
 all_goals first|rfl|trivial|omega|(simp only[b0N,b0M,aC,U,cb,cM,ca,bF] at *;omega)|(simp[aC,U] at *;omega)|grind
def NB :∀ n,aI [mr n]
 | 0=>⟨⟨aA qg rfl (by decide),λ _ h=>absurd h.1 (b1H _)⟩,af⟩
 | n+1=>by
  have ih:=NB  n;exact⟨Pe n ⟨ih.1,BG,af⟩,af⟩
def Kb :aQ.Good rz :=
 ⟨aA qg rfl (by decide),λ x hp=>(NB  (cA x+1)).1.2 x (⟨b1D _,hp⟩)⟩
def nY(n:Nat):aQ:=⟨tf,[.v (.st .sig), .r (.st .expr)],λ (gg:aX) (x:J)=>⟨(some (cA x<n),[⟨.bool,br (aV gg.ar) (aV gg.bq) x⟩])⟩⟩
def sY:aQ:=⟨tf,[.v (.st .sig), .r (.st .expr)],λ (gg:aX) (x:J)=>⟨(none,[⟨.bool,br (aV gg.ar) (aV gg.bq) x⟩])⟩⟩
def Gs(gg:aX)(x:J):Nat->aM:=(λ zb=>if Nat.beq zb 1 then .mk (Nat) (λ k=>k<=x.M.length/\bE (br (aV gg.ar) (aV gg.bq)) (x.M.take k)=true) (λ k=>x.M.length - k) [] [0,3,6,7,8,9,10,11,12,13,14,15,16,17,18,19,20,21,22,23,24,25,26,27,28,29,30,31,32,33,34,35,36,37,38,39,40,41,42,43,44,45,46,47,48,49,50,51,52,53,54,55,56,57,58,59,60,61] (λ k=>[(5, .aT ⟨(.int .i64),((k:Int):Int)⟩)]) [1,2,4,5,62,63,64,65,66,67,68,69,70,71,72,73,74,75,76,77,78,79] (λ k=>[]) [] [] (λ k=>λ _ => .none) else .none)
abbrev uH(n:Nat)(gg:aX)(x:J):Prop:=((∃ k1:Nat,((k1<=x.M.length/\bE (br (aV gg.ar) (aV gg.bq)) (x.M.take k1)=true)/\((x=x/\(gg=gg/\((0:Int)=(k1:Int)/\True)))/\True)))/\(∀ k1:Nat,((k1<=x.M.length/\bE (br (aV gg.ar) (aV gg.bq)) (x.M.take k1)=true) ->
 (x.M.length<=140737488355328 ->
 (U ((x.M.length:Int)) ->
 (((decide ((k1:Int)<((x.M.length:Int))))=true ->
 (aC (k1:Int) x.M.length/\(x.M.length<=140737488355328 ->
 (cA (x.M.getD k1 zE)<n/\(((!(br (aV gg.ar) (aV gg.bq) (x.M.getD k1 zE)))=true ->
 false=(br (aV gg.ar) (aV gg.bq) x))/\((!(br (aV gg.ar) (aV gg.bq) (x.M.getD k1 zE)))=false ->
 (U ((k1:Int)+(1:Int))/\(∃ k2:Nat,((k2<=x.M.length/\bE (br (aV gg.ar) (aV gg.bq)) (x.M.take k2)=true)/\(x.M.length - k2<x.M.length - k1/\((x=x/\(gg=gg/\(((k1:Int)+(1:Int))=(k2:Int)/\True)))/\True)))))))))))/\((decide ((k1:Int)<((x.M.length:Int))))=false ->
 true=(br (aV gg.ar) (aV gg.bq) x))))))))
def RD(n:Nat)(gg:aX)(x:J):ck (aZ [nY n,px,cQ,fe] [29,39] [] [2]) (az lT) (Gs gg x) 0 (bx (aZ [nY n,px,cQ,fe] [29,39] [] [2]) lT λ r=>bB r [⟨.bool,br (aV gg.ar) (aV gg.bq) x⟩]) (aL lT [.val ⟨(.st .sig),gg⟩, .ref ⟨(.st .expr),x⟩]) =
 ((x.M.length<=140737488355328 ->
 (U ((x.M.length:Int)) ->
 (U x.au ->
 (U (de x.au) ->
 (((!(decide (((x.M.length:Int))=(de x.au))))=true ->
 false=(br (aV gg.ar) (aV gg.bq) x))/\((!(decide (((x.M.length:Int))=(de x.au))))=false ->
 (U x.au ->
 (((decide (x.au=(3:Int)))=true ->
 (U x.aO ->
 (U gg.ar ->
 ((decide ((0:Int)<=x.aO/\x.aO<=(IntKind.wrap .i64 (gg.ar - (1:Int)))))=(br (aV gg.ar) (aV gg.bq) x)))))/\((decide (x.au=(3:Int)))=false ->
 (((decide (x.au=(4:Int)))=true ->
 (U x.aO ->
 (U gg.bq ->
 ((decide ((0:Int)<=x.aO/\x.aO<=(IntKind.wrap .i64 (gg.bq - (1:Int)))))=(br (aV gg.ar) (aV gg.bq) x)))))/\((decide (x.au=(4:Int)))=false ->
 (U x.aO ->
 (((!(decide (x.aO=(0:Int))))=false ->
 (U x.au ->
 (((decide (x.au=(5:Int)))=true ->
 (x.M.length<=140737488355328 ->
 (aC (0:Int) x.M.length/\(((!(bu (x.M.getD 0 zE)))=true ->
 false=(br (aV gg.ar) (aV gg.bq) x))/\((!(bu (x.M.getD 0 zE)))=false ->
 (uH n gg x))))))/\((decide (x.au=(5:Int)))=(!true) ->
 ((false=true ->
 false=(br (aV gg.ar) (aV gg.bq) x))/\(false=false ->
 (uH n gg x)))))))/\((!(decide (x.aO=(0:Int))))=(!false) ->
 ((true=true ->
 false=(br (aV gg.ar) (aV gg.bq) x))/\(true=false ->
 (uH n gg x)))))))))))))))))):=by kernel_rfl
def Q5(n:Nat)(hE:aI [nY n,px,cQ,fe]):aQ.Good (nY (n+1)):=by
 refine⟨aA ri rfl (by decide),?_⟩;show ∀ (gg:aX) (x:J),(cA x<n+1)->bC prog tf [.val ⟨(.st .sig),gg⟩, .ref ⟨(.st .expr),x⟩] (·=[⟨.bool,br (aV gg.ar) (aV gg.bq) x⟩]);intro gg x hp;refine bg (wr:=[29,39]) (cl:=[]) (ro:=[2]) hE ri LL (Gs gg x) ?_;rewrite [RD n gg x];have f0:=dX x;have f1:=all_zero (br (aV gg.ar) (aV gg.bq)) x.M;refine λ _ _ _ _=>⟨λ _=>?_,λ _ _=>⟨λ _ _ _=>?_,λ _=>⟨λ _ _ _=>?_,λ _ _=>⟨λ _ _=>⟨λ _ _=>⟨?_,λ _=>?_,λ _=>⟨⟨0,?_,⟨rfl,rfl,?_,af⟩,af⟩,λ k1 _=>have b0n:=dU (br (aV gg.ar) (aV gg.bq)) zE x.M k1;have b0o:=eZ (br (aV gg.ar) (aV gg.bq)) zE x.M k1;have b0p:=fR (br (aV gg.ar) (aV gg.bq)) x.M k1;have b0q:=cx zE x.M k1;λ _ _=>⟨λ _=>⟨?_,λ _=>⟨?_,λ _=>?_,λ _=>⟨?_,k1+1,?_,?_,⟨rfl,rfl,?_,af⟩,af⟩⟩⟩,λ _=>?_⟩⟩⟩,λ _=>⟨λ _=>?_,λ _=>⟨⟨0,?_,⟨rfl,rfl,?_,af⟩,af⟩,λ k1 _=>have b0j:=dU (br (aV gg.ar) (aV gg.bq)) zE x.M k1;have b0k:=eZ (br (aV gg.ar) (aV gg.bq)) zE x.M k1;have b0l:=fR (br (aV gg.ar) (aV gg.bq)) x.M k1;have b0m:=cx zE x.M k1;λ _ _=>⟨λ _=>⟨?_,λ _=>⟨?_,λ _=>?_,λ _=>⟨?_,k1+1,?_,?_,⟨rfl,rfl,?_,af⟩,af⟩⟩⟩,λ _=>?_⟩⟩⟩⟩,λ _=>⟨λ _=>?_,λ _=>⟨⟨0,?_,⟨rfl,rfl,?_,af⟩,af⟩,λ k1 _=>have a1b:=dU (br (aV gg.ar) (aV gg.bq)) zE x.M k1;have a1c:=eZ (br (aV gg.ar) (aV gg.bq)) zE x.M k1;have a1d:=fR (br (aV gg.ar) (aV gg.bq)) x.M k1;have a4C:=cx zE x.M k1;λ _ _=>⟨λ _=>⟨?_,λ _=>⟨?_,λ _=>?_,λ _=>⟨?_,k1+1,?_,?_,⟨rfl,rfl,?_,af⟩,af⟩⟩⟩,λ _=>?_⟩⟩⟩⟩⟩⟩⟩;all_goals try and_intros
 all_goals try rw[l5 _ _ x]
 all_goals first|rfl|trivial|(simp only[decide_eq_true_eq,decide_eq_false_iff_not,aC,U] at *;omega)|(simp_all [tj,aV];done)|(simp_all [tj,aV,aC,U];omega)|grind [tj,aV,de,aC,U]
def RX :∀ n,aI [nY n]
 | 0=>⟨⟨aA ri rfl (by decide),λ _ _ h=>absurd h (b1H _)⟩,af⟩
 | n+1=>by
  have ih:=RX  n;exact⟨Q5 n ⟨ih.1,Mc,kJ,nC,af⟩,af⟩
def Mg :aQ.Good sY :=
 ⟨aA ri rfl (by decide),λ gg x hp=>(RX  (cA x+1)).1.2 gg x (b1D _)⟩
end
end Go.Proofs.YtmjfpcajohhbeaaGreatDoor

set_option maxRecDepth 4000
set_option maxHeartbeats 4000000
namespace Go.Proofs.YtmjfpcajohhbeaaGreatDoor
noncomputable section
def bS(gg:aX):Bool:=decide (0<=gg.ar/\gg.ar<=3)&&decide (0<=gg.bq/\gg.bq<=4)
def AK(gg:aX)(x:J)(bG depth:Int):Bool:=br (aV gg.ar) (aV gg.bq) x&&decide ((aN x:Int)<=bG)&&decide ((bR x:Int)<=depth)
def FB(gg:aX)(x:J)(bG depth:Int):Int:=bif AK gg x bG depth then bG - aN x else 0
def dV:aQ:=⟨vT,[.v (.st .sig)],λ (gg:aX)=>⟨(none,[⟨.bool,bS gg⟩])⟩⟩
def Ea(gg:aX):Nat->aM:=λ _ => .none
def PQ(gg:aX):ck (aZ [cu] [] [] [1]) (az kp) (Ea gg) 0 (bx (aZ [cu] [] [] [1]) kp λ r=>bB r [⟨.bool,bS gg⟩]) (aL kp [.val ⟨(.st .sig),gg⟩]) =
 ((U gg.ar ->
 ((((decide ((0:Int)<=gg.ar/\gg.ar<=(3:Int)))=true) ->
 (U gg.bq ->
 ((decide ((0:Int)<=gg.bq/\gg.bq<=(4:Int)))=(bS gg))))/\(((decide ((0:Int)<=gg.ar/\gg.ar<=(3:Int)))=(!true)) ->
 false=(bS gg))))):=by kernel_rfl
def O6(hE:aI [cu]):aQ.Good dV:=by
 refine⟨aA Bk rfl (by decide),?_⟩;show ∀ (gg:aX),True->bC prog vT [.val ⟨(.st .sig),gg⟩] (·=[⟨.bool,bS gg⟩]);intro gg _;refine bg (wr:=[]) (cl:=[]) (ro:=[1]) hE Bk JK (Ea gg) ?_;rewrite [PQ gg];refine λ _=>⟨λ _ _=>?_,λ _=>?_⟩;all_goals try and_intros
 all_goals first|rfl|trivial|(simp_all [bS];done)|(simp_all [bS];omega)
def rR:aQ.Good dV:=O6 ⟨gS,af⟩
def ff:aQ:=⟨Ay,[.v (.st .sig)],λ (gg:aX)=>⟨(none,[⟨.bool,bS gg⟩])⟩⟩
def Iy(gg:aX):Nat->aM:=λ _ => .none
def TB(gg:aX):ck (aZ [cQ] [] [] [1]) (az nw) (Iy gg) 0 (bx (aZ [cQ] [] [] [1]) nw λ r=>bB r [⟨.bool,bS gg⟩]) (aL nw [.val ⟨(.st .sig),gg⟩]) =
 ((U gg.ar ->
 ((((decide ((0:Int)<=gg.ar/\gg.ar<=(3:Int)))=true) ->
 (U gg.bq ->
 ((decide ((0:Int)<=gg.bq/\gg.bq<=(4:Int)))=(bS gg))))/\(((decide ((0:Int)<=gg.ar/\gg.ar<=(3:Int)))=(!true)) ->
 false=(bS gg))))):=by kernel_rfl
def Tk(hE:aI [cQ]):aQ.Good ff:=by
 refine⟨aA F4 rfl (by decide),?_⟩;show ∀ (gg:aX),True->bC prog Ay [.val ⟨(.st .sig),gg⟩] (·=[⟨.bool,bS gg⟩]);intro gg _;refine bg (wr:=[]) (cl:=[]) (ro:=[1]) hE F4 NZ (Iy gg) ?_;rewrite [TB gg];refine λ _=>⟨λ _ _=>?_,λ _=>?_⟩;all_goals try and_intros
 all_goals first|rfl|trivial|(simp_all [bS];done)|(simp_all [bS];omega)
def uA:aQ.Good ff:=Tk ⟨kJ,af⟩
end
end Go.Proofs.YtmjfpcajohhbeaaGreatDoor

set_option maxRecDepth 4000
set_option maxHeartbeats 4000000
namespace Go.Proofs.YtmjfpcajohhbeaaGreatDoor
noncomputable section
def IK(t a:Int)(x:J):Bool:=if x.au=3 then decide (0<=x.aO/\x.aO<=t) else if x.au=4 then decide (0<=x.aO/\x.aO<=a) else decide (x.aO=0)
def zc(t a:Int)(x:J):tj t a x=(decide (de x.au=(x.M.length:Int))&&IK t a x&&(!decide (x.au=5)||bu (x.M.getD 0 ⟨0,0,[]⟩))):=rfl
def AL(gg:aX)(x:J)(bG depth:Int) :
  (br (aV gg.ar) (aV gg.bq) x=true/\(aN x:Int)<=bG/\(bR x:Int)<=depth/\AK gg x bG depth=true/\FB gg x bG depth=bG - aN x) \/
  ((br (aV gg.ar) (aV gg.bq) x=false\/bG<(aN x:Int)\/depth<(bR x:Int))/\AK gg x bG depth=false/\FB gg x bG depth=0):=by
 unfold FB AK;cases br (aV gg.ar) (aV gg.bq) x
 .right;simp
 .rcases b4H bG (aN x) with h|h
  .right;simp[h,Int.not_le.2 h]
  .rcases b4H depth (bR x) with h'|h'
   .right;simp[h',Int.not_le.2 h']
   .left;simp[h,h']
def pB(n:Nat):aQ:=⟨uX,[.v (.st .sig), .v (.st .expr), .v (.int .i64), .v (.int .i64)],λ (gg:aX) (x:J) (bG:Int) (depth:Int)=>⟨(some (cA x<n/\0<=bG/\bG<=1048576/\0<=depth/\depth<=1048576),[⟨(.int .i64),FB gg x bG depth⟩,⟨.bool,AK gg x bG depth⟩])⟩⟩
def uJ:aQ:=⟨uX,[.v (.st .sig), .v (.st .expr), .v (.int .i64), .v (.int .i64)],λ (gg:aX) (x:J) (bG:Int) (depth:Int)=>⟨(some (0<=bG/\bG<=1048576/\0<=depth/\depth<=1048576),[⟨(.int .i64),FB gg x bG depth⟩,⟨.bool,AK gg x bG depth⟩])⟩⟩
def Ir(gg:aX)(x:J)(bG:Int)(depth:Int):Nat->aM:=(λ zb=>if Nat.beq zb 100012 then .mk (Unit) (λ u=>de x.au=(x.M.length:Int)/\1<=bG/\1<=depth/\IK (aV gg.ar) (aV gg.bq) x=true) (λ u=>0) [] [0,1,6,7,10,14,15,16,17,18,19,20,21,22,23,24,25,26,27,28,29,30,31,32,33,34,35,36,37,38,39,40,41,42,43,44,45,46,47,48,49,50,51] (λ u=>[]) [2,3,4,5,8,9,11,12,13,52,53,54,55,56,57,58,59,60,61,62,63,64,65,66,67,68,69,70,71,72,73,74,75,76,77,78,79,80,81,82,83,84,85] (λ u=>[]) [] [] (λ u=>(λ zb=>if Nat.beq zb 100014 then .mk (Unit) (λ u=>tj (aV gg.ar) (aV gg.bq) x=true/\1<=bG/\1<=depth) (λ u=>0) [] [0,1,6,7,10,14,15,16,17,18,19,20,21,22,23,24,25,26,27,28,29,30,31,32,33,34,35,36,37,38,39,40,41,42,43,44,45,46,47,48,49,50,51,52,53,54,55,56,57,58,59,60,61,62] (λ u=>[]) [2,3,4,5,8,9,11,12,13,63,64,65,66,67,68,69,70,71,72,73,74,75,76,77,78,79,80,81,82,83,84,85] (λ u=>[]) [] [] (λ u=>(λ zb=>if Nat.beq zb 1 then .mk (Nat) (λ k=>k<=x.M.length/\bE (br (aV gg.ar) (aV gg.bq)) (x.M.take k)=true/\1+(aj aN (x.M.take k):Int)<=bG/\1+(kf bR (x.M.take k):Int)<=depth) (λ k=>x.M.length - k) [] [0,1,5,6,7,10,14,15,16,17,18,19,20,21,22,23,24,25,26,27,28,29,30,31,32,33,34,35,36,37,38,39,40,41,42,43,44,45,46,47,48,49,50,51,52,53,54,55,56,57,58,59,60,61,62,63,64,65] (λ k=>[(68, .aT ⟨(.int .i64),((k:Int):Int)⟩),(2, .aT ⟨(.int .i64),(bG - (1+(aj aN (x.M.take k):Int)):Int)⟩)]) [2,3,4,8,9,11,12,13,66,67,68,69,70,71,72,73,74,75,76,77,78,79,80,81,82,83,84,85] (λ k=>[]) [] [] (λ k=>λ _ => .none) else .none)) else .none)) else .none)
abbrev vP(gg:aX)(x:J)(bG:Int)(depth:Int):Prop:=(∃ u1:Unit,((de x.au=(x.M.length:Int)/\1<=bG/\1<=depth/\IK (aV gg.ar) (aV gg.bq) x=true)/\((bG=bG/\(depth=depth/\(gg=gg/\(x=x/\True))))/\True)))
abbrev D5(gg:aX)(x:J)(bG:Int)(depth:Int):Prop:=(∃ u2:Unit,((tj (aV gg.ar) (aV gg.bq) x=true/\1<=bG/\1<=depth)/\((bG=bG/\(depth=depth/\(gg=gg/\(x=x/\True))))/\True)))
abbrev D6(n:Nat)(gg:aX)(x:J)(bG:Int)(depth:Int):Prop:=((U x.au ->
 (((decide (x.au=(3:Int)))=true ->
 (U x.aO ->
 (U gg.ar ->
 ((((!(decide ((0:Int)<=x.aO/\x.aO<=(IntKind.wrap .i64 (gg.ar - (1:Int))))))=true) ->
 ((0:Int)=(FB gg x bG depth)/\false=(AK gg x bG depth)))/\(((!(decide ((0:Int)<=x.aO/\x.aO<=(IntKind.wrap .i64 (gg.ar - (1:Int))))))=false) ->
 (vP gg x bG depth))))))/\((decide (x.au=(3:Int)))=false ->
 (((decide (x.au=(4:Int)))=true ->
 (U x.aO ->
 (U gg.bq ->
 ((((!(decide ((0:Int)<=x.aO/\x.aO<=(IntKind.wrap .i64 (gg.bq - (1:Int))))))=true) ->
 ((0:Int)=(FB gg x bG depth)/\false=(AK gg x bG depth)))/\(((!(decide ((0:Int)<=x.aO/\x.aO<=(IntKind.wrap .i64 (gg.bq - (1:Int))))))=false) ->
 (vP gg x bG depth))))))/\((decide (x.au=(4:Int)))=false ->
 (U x.aO ->
 (((!(decide (x.aO=(0:Int))))=true ->
 ((0:Int)=(FB gg x bG depth)/\false=(AK gg x bG depth)))/\((!(decide (x.aO=(0:Int))))=false ->
 (vP gg x bG depth)))))))))/\(∀ u1:Unit,((de x.au=(x.M.length:Int)/\1<=bG/\1<=depth/\IK (aV gg.ar) (aV gg.bq) x=true) ->
 ((U x.au ->
 (((decide (x.au=(5:Int)))=true ->
 (x.M.length<=140737488355328 ->
 (aC (0:Int) x.M.length/\(((!(bu (x.M.getD 0 zE)))=true ->
 ((0:Int)=(FB gg x bG depth)/\false=(AK gg x bG depth)))/\((!(bu (x.M.getD 0 zE)))=false ->
 (D5 gg x bG depth))))))/\((decide (x.au=(5:Int)))=(!true) ->
 ((false=true ->
 ((0:Int)=(FB gg x bG depth)/\false=(AK gg x bG depth)))/\(false=false ->
 (D5 gg x bG depth))))))/\(∀ u2:Unit,((tj (aV gg.ar) (aV gg.bq) x=true/\1<=bG/\1<=depth) ->
 (U (bG - (1:Int))/\(x.M.length<=140737488355328 ->
 (U ((x.M.length:Int)) ->
 ((∃ k3:Nat,((k3<=x.M.length/\bE (br (aV gg.ar) (aV gg.bq)) (x.M.take k3)=true/\1+(aj aN (x.M.take k3):Int)<=bG/\1+(kf bR (x.M.take k3):Int)<=depth)/\(((bG - (1:Int))=(bG - (1+(aj aN (x.M.take k3):Int)))/\(depth=depth/\(gg=gg/\(x.M=x.M/\(((x.M.length:Int))=((x.M.length:Int))/\((0:Int)=(k3:Int)/\True))))))/\True)))/\(∀ k3:Nat,((k3<=x.M.length/\bE (br (aV gg.ar) (aV gg.bq)) (x.M.take k3)=true/\1+(aj aN (x.M.take k3):Int)<=bG/\1+(kf bR (x.M.take k3):Int)<=depth) ->
 (((decide ((k3:Int)<((x.M.length:Int))))=true ->
 (aC (k3:Int) x.M.length/\(U (depth - (1:Int))/\((cA (ag (x.M.getD k3 zE))<n/\0<=(bG - (1+(aj aN (x.M.take k3):Int)))/\(bG - (1+(aj aN (x.M.take k3):Int)))<=1048576/\0<=(depth - (1:Int))/\(depth - (1:Int))<=1048576)/\(U (FB gg (ag (x.M.getD k3 zE)) (bG - (1+(aj aN (x.M.take k3):Int))) (depth - (1:Int))) ->
 (((!(AK gg (ag (x.M.getD k3 zE)) (bG - (1+(aj aN (x.M.take k3):Int))) (depth - (1:Int))))=true ->
 ((0:Int)=(FB gg x bG depth)/\false=(AK gg x bG depth)))/\((!(AK gg (ag (x.M.getD k3 zE)) (bG - (1+(aj aN (x.M.take k3):Int))) (depth - (1:Int))))=false ->
 (U ((k3:Int)+(1:Int))/\(∃ k4:Nat,((k4<=x.M.length/\bE (br (aV gg.ar) (aV gg.bq)) (x.M.take k4)=true/\1+(aj aN (x.M.take k4):Int)<=bG/\1+(kf bR (x.M.take k4):Int)<=depth)/\(x.M.length - k4<x.M.length - k3/\(((FB gg (ag (x.M.getD k3 zE)) (bG - (1+(aj aN (x.M.take k3):Int))) (depth - (1:Int)))=(bG - (1+(aj aN (x.M.take k4):Int)))/\(depth=depth/\(gg=gg/\(x.M=x.M/\(((x.M.length:Int))=((x.M.length:Int))/\(((k3:Int)+(1:Int))=(k4:Int)/\True))))))/\True))))))))))))/\((decide ((k3:Int)<((x.M.length:Int))))=false ->
 ((bG - (1+(aj aN (x.M.take k3):Int)))=(FB gg x bG depth)/\true=(AK gg x bG depth))))))))))))))))
abbrev D7(n:Nat)(gg:aX)(x:J)(bG:Int)(depth:Int):Prop:=(U x.au ->
 (U (de x.au) ->
 (x.M.length<=140737488355328 ->
 (U ((x.M.length:Int)) ->
 (((!(decide ((de x.au)=((x.M.length:Int)))))=true ->
 ((0:Int)=(FB gg x bG depth)/\false=(AK gg x bG depth)))/\((!(decide ((de x.au)=((x.M.length:Int)))))=false ->
 (D6 n gg x bG depth)))))))
abbrev D8(n:Nat)(gg:aX)(x:J)(bG:Int)(depth:Int):Prop:=((true=true ->
 ((0:Int)=(FB gg x bG depth)/\false=(AK gg x bG depth)))/\(true=false ->
 (D6 n gg x bG depth)))
def Tt(n:Nat)(gg:aX)(x:J)(bG:Int)(depth:Int):ck (aZ [pB n,qH,cu,cK] [40,49] [] [4,5]) (az nm) (Ir gg x bG depth) 0 (bx (aZ [pB n,qH,cu,cK] [40,49] [] [4,5]) nm λ r=>bB r [⟨(.int .i64),FB gg x bG depth⟩,⟨.bool,AK gg x bG depth⟩]) (aL nm [.val ⟨(.st .sig),gg⟩, .val ⟨(.st .expr),x⟩, .val ⟨(.int .i64),bG⟩, .val ⟨(.int .i64),depth⟩]) =
 ((((decide (bG=(0:Int)))=false ->
 (((decide (depth=(0:Int)))=false ->
 (D7 n gg x bG depth))/\((decide (depth=(0:Int)))=(!false) ->
 (D8 n gg x bG depth))))/\((decide (bG=(0:Int)))=(!false) ->
 ((true=false ->
 (D7 n gg x bG depth))/\(true=(!false) ->
 (D8 n gg x bG depth)))))):=by kernel_rfl
def Td(n:Nat)(hE:aI [pB n,qH,cu,cK]):aQ.Good (pB (n+1)):=by
 refine⟨aA sK rfl (by decide),?_⟩;show ∀ (gg:aX) (x:J) (bG:Int) (depth:Int),(cA x<n+1/\0<=bG/\bG<=1048576/\0<=depth/\depth<=1048576)->bC prog uX [.val ⟨(.st .sig),gg⟩, .val ⟨(.st .expr),x⟩, .val ⟨(.int .i64),bG⟩, .val ⟨(.int .i64),depth⟩] (·=[⟨(.int .i64),FB gg x bG depth⟩,⟨.bool,AK gg x bG depth⟩]);intro gg x bG depth hp;refine bg (wr:=[40,49]) (cl:=[]) (ro:=[4,5]) hE sK NS (Ir gg x bG depth) ?_;rewrite [Tt n gg x bG depth];have fs:=AL gg x bG depth;rw[l5 _ _ x,AE x,kQ x] at fs;have f0:=dX x;have f1:=pT aN x.M;have f2:=VA bR x.M;have f3:=all_zero (br (aV gg.ar) (aV gg.bq)) x.M;refine⟨λ _=>⟨λ _ _ _ _ _=>⟨λ _=>⟨?_,?_⟩,λ _=>⟨λ _=>⟨λ _ _ _=>⟨λ _=>⟨?_,?_⟩,λ _=>⟨(),?_,⟨rfl,rfl,rfl,rfl,af⟩,af⟩⟩,λ _=>⟨λ _ _ _=>⟨λ _=>⟨?_,?_⟩,λ _=>⟨(),?_,⟨rfl,rfl,rfl,rfl,af⟩,af⟩⟩,λ _ _=>⟨λ _=>⟨?_,?_⟩,λ _=>⟨(),?_,⟨rfl,rfl,rfl,rfl,af⟩,af⟩⟩⟩⟩,λ u1 _=>⟨λ _=>⟨λ _ _=>⟨?_,λ _=>⟨?_,?_⟩,λ _=>⟨(),?_,⟨rfl,rfl,rfl,rfl,af⟩,af⟩⟩,λ _=>⟨λ _=>⟨?_,?_⟩,λ _=>⟨(),?_,⟨rfl,rfl,rfl,rfl,af⟩,af⟩⟩⟩,λ u2 _=>⟨?_,λ _ _=>⟨⟨0,?_,⟨?_,rfl,rfl,rfl,rfl,?_,af⟩,af⟩,λ k3 _=>have a1b:=dU (br (aV gg.ar) (aV gg.bq)) zE x.M k3;have a1c:=eZ (br (aV gg.ar) (aV gg.bq)) zE x.M k3;have a1d:=fR (br (aV gg.ar) (aV gg.bq)) x.M k3;have a4C:=cx zE x.M k3;have a7O:=jB aN zE x.M k3;have a7P:=cJ aN x.M (k3+1);have a7Q:=ou aN x.M k3;have a7R:=vS bR zE x.M k3;have a7S:=mO bR x.M (k3+1);have a7T:=Es bR x.M k3;have a6l:=AL gg (x.M.getD k3 zE) (bG - (1+(aj aN (x.M.take k3):Int))) (depth - 1);⟨λ _=>⟨?_,?_,?_,λ _=>⟨λ _=>⟨?_,?_⟩,λ _=>⟨?_,k3+1,?_,?_,⟨?_,rfl,rfl,rfl,rfl,?_,af⟩,af⟩⟩⟩,λ _=>⟨?_,?_⟩⟩⟩⟩⟩⟩⟩,λ _=>⟨λ _=>⟨?_,?_⟩,λ _=>⟨λ _=>⟨λ _ _ _=>⟨λ _=>⟨?_,?_⟩,λ _=>⟨(),?_,⟨rfl,rfl,rfl,rfl,af⟩,af⟩⟩,λ _=>⟨λ _ _ _=>⟨λ _=>⟨?_,?_⟩,λ _=>⟨(),?_,⟨rfl,rfl,rfl,rfl,af⟩,af⟩⟩,λ _ _=>⟨λ _=>⟨?_,?_⟩,λ _=>⟨(),?_,⟨rfl,rfl,rfl,rfl,af⟩,af⟩⟩⟩⟩,λ u1 _=>⟨λ _=>⟨λ _ _=>⟨?_,λ _=>⟨?_,?_⟩,λ _=>⟨(),?_,⟨rfl,rfl,rfl,rfl,af⟩,af⟩⟩,λ _=>⟨λ _=>⟨?_,?_⟩,λ _=>⟨(),?_,⟨rfl,rfl,rfl,rfl,af⟩,af⟩⟩⟩,λ u2 _=>⟨?_,λ _ _=>⟨⟨0,?_,⟨?_,rfl,rfl,rfl,rfl,?_,af⟩,af⟩,λ k3 _=>have a4D:=dU (br (aV gg.ar) (aV gg.bq)) zE x.M k3;have a4E:=eZ (br (aV gg.ar) (aV gg.bq)) zE x.M k3;have a4F:=fR (br (aV gg.ar) (aV gg.bq)) x.M k3;have a7b:=cx zE x.M k3;have a8S:=jB aN zE x.M k3;have a8T:=cJ aN x.M (k3+1);have a8U:=ou aN x.M k3;have a8V:=vS bR zE x.M k3;have a8W:=mO bR x.M (k3+1);have a8X:=Es bR x.M k3;have a7U:=AL gg (x.M.getD k3 zE) (bG - (1+(aj aN (x.M.take k3):Int))) (depth - 1);⟨λ _=>⟨?_,?_,?_,λ _=>⟨λ _=>⟨?_,?_⟩,λ _=>⟨?_,k3+1,?_,?_,⟨?_,rfl,rfl,rfl,rfl,?_,af⟩,af⟩⟩⟩,λ _=>⟨?_,?_⟩⟩⟩⟩⟩⟩⟩⟩,λ _=>⟨λ _ _ _ _ _=>⟨λ _=>⟨?_,?_⟩,λ _=>⟨λ _=>⟨λ _ _ _=>⟨λ _=>⟨?_,?_⟩,λ _=>⟨(),?_,⟨rfl,rfl,rfl,rfl,af⟩,af⟩⟩,λ _=>⟨λ _ _ _=>⟨λ _=>⟨?_,?_⟩,λ _=>⟨(),?_,⟨rfl,rfl,rfl,rfl,af⟩,af⟩⟩,λ _ _=>⟨λ _=>⟨?_,?_⟩,λ _=>⟨(),?_,⟨rfl,rfl,rfl,rfl,af⟩,af⟩⟩⟩⟩,λ u1 _=>⟨λ _=>⟨λ _ _=>⟨?_,λ _=>⟨?_,?_⟩,λ _=>⟨(),?_,⟨rfl,rfl,rfl,rfl,af⟩,af⟩⟩,λ _=>⟨λ _=>⟨?_,?_⟩,λ _=>⟨(),?_,⟨rfl,rfl,rfl,rfl,af⟩,af⟩⟩⟩,λ u2 _=>⟨?_,λ _ _=>⟨⟨0,?_,⟨?_,rfl,rfl,rfl,rfl,?_,af⟩,af⟩,λ k3 _=>have a1b:=dU (br (aV gg.ar) (aV gg.bq)) zE x.M k3;have a1c:=eZ (br (aV gg.ar) (aV gg.bq)) zE x.M k3;have a1d:=fR (br (aV gg.ar) (aV gg.bq)) x.M k3;have a4C:=cx zE x.M k3;have a7O:=jB aN zE x.M k3;have a7P:=cJ aN x.M (k3+1);have a7Q:=ou aN x.M k3;have a7R:=vS bR zE x.M k3;have a7S:=mO bR x.M (k3+1);have a7T:=Es bR x.M k3;have a6l:=AL gg (x.M.getD k3 zE) (bG - (1+(aj aN (x.M.take k3):Int))) (depth - 1);⟨λ _=>⟨?_,?_,?_,λ _=>⟨λ _=>⟨?_,?_⟩,λ _=>⟨?_,k3+1,?_,?_,⟨?_,rfl,rfl,rfl,rfl,?_,af⟩,af⟩⟩⟩,λ _=>⟨?_,?_⟩⟩⟩⟩⟩⟩⟩,λ _=>⟨λ _=>⟨?_,?_⟩,λ _=>⟨λ _=>⟨λ _ _ _=>⟨λ _=>⟨?_,?_⟩,λ _=>⟨(),?_,⟨rfl,rfl,rfl,rfl,af⟩,af⟩⟩,λ _=>⟨λ _ _ _=>⟨λ _=>⟨?_,?_⟩,λ _=>⟨(),?_,⟨rfl,rfl,rfl,rfl,af⟩,af⟩⟩,λ _ _=>⟨λ _=>⟨?_,?_⟩,λ _=>⟨(),?_,⟨rfl,rfl,rfl,rfl,af⟩,af⟩⟩⟩⟩,λ u1 _=>⟨λ _=>⟨λ _ _=>⟨?_,λ _=>⟨?_,?_⟩,λ _=>⟨(),?_,⟨rfl,rfl,rfl,rfl,af⟩,af⟩⟩,λ _=>⟨λ _=>⟨?_,?_⟩,λ _=>⟨(),?_,⟨rfl,rfl,rfl,rfl,af⟩,af⟩⟩⟩,λ u2 _=>⟨?_,λ _ _=>⟨⟨0,?_,⟨?_,rfl,rfl,rfl,rfl,?_,af⟩,af⟩,λ k3 _=>have a4D:=dU (br (aV gg.ar) (aV gg.bq)) zE x.M k3;have a4E:=eZ (br (aV gg.ar) (aV gg.bq)) zE x.M k3;have a4F:=fR (br (aV gg.ar) (aV gg.bq)) x.M k3;have a7b:=cx zE x.M k3;have a8S:=jB aN zE x.M k3;have a8T:=cJ aN x.M (k3+1);have a8U:=ou aN x.M k3;have a8V:=vS bR zE x.M k3;have a8W:=mO bR x.M (k3+1);have a8X:=Es bR x.M k3;have a7U:=AL gg (x.M.getD k3 zE) (bG - (1+(aj aN (x.M.take k3):Int))) (depth - 1);⟨λ _=>⟨?_,?_,?_,λ _=>⟨λ _=>⟨?_,?_⟩,λ _=>⟨?_,k3+1,?_,?_,⟨?_,rfl,rfl,rfl,rfl,?_,af⟩,af⟩⟩⟩,λ _=>⟨?_,?_⟩⟩⟩⟩⟩⟩⟩⟩⟩;all_goals try and_intros
 all_goals try (first|with_reducible rfl|with_reducible assumption)
 all_goals try simp only[J.eta,ae.eta,aH.eta,aU,bM,ct] at *
 all_goals ((try simp only[aV] at *);generalize IntKind.wrap .i64 (gg.ar - 1)=T at *;generalize IntKind.wrap .i64 (gg.bq - 1)=A at *;first|rfl|trivial|(simp only[decide_eq_true_eq,decide_eq_false_iff_not,aC,U] at *;omega)|(rcases fs with ⟨t1,t2,t3,t4,t5⟩|⟨t1,t4,t5⟩<;>(try rw[t4])<;>(try rw[t5])<;>clear t4 t5<;>simp only[decide_eq_true_eq,decide_eq_false_iff_not,zc,IK,Bool.and_eq_true,Bool.and_eq_false_iff,Bool.not_eq_true',Bool.not_eq_false',U] at *<;>first|rfl|omega|grind|grind [de]))
def KM :∀ n,aI [pB n]
 | 0=>⟨⟨aA sK rfl (by decide),λ _ _ _ _ h=>absurd h.1 (b1H _)⟩,af⟩
 | n+1=>by
  have ih:=KM  n;exact⟨Td n ⟨ih.1,Oo,gS,jX,af⟩,af⟩
def Oq :aQ.Good uJ :=
 ⟨aA sK rfl (by decide),λ gg x bG depth hp=>(KM  (cA x+1)).1.2 gg x bG depth (⟨b1D _,hp⟩)⟩
end
end Go.Proofs.YtmjfpcajohhbeaaGreatDoor

namespace Go.Proofs.YtmjfpcajohhbeaaGreatDoor
noncomputable section
end
end Go.Proofs.YtmjfpcajohhbeaaGreatDoor

set_option maxRecDepth 4000
set_option maxHeartbeats 4000000
namespace Go.Proofs.YtmjfpcajohhbeaaGreatDoor
noncomputable section
def Wf(gg:aX):bS gg=true↔(0<=gg.ar/\gg.ar<=3)/\(0<=gg.bq/\gg.bq<=4):=by
 simp[bS]
def cC(gg:aX)(x:J):Bool:=AK gg x 200 40
def oz(gg:aX)(x:J):Bool:=bS gg&&cC gg x
def zV(gg:aX)(x:J):cC gg x=true↔br (aV gg.ar) (aV gg.bq) x=true/\aN x<=200/\bR x<=40:=by
 simp only[cC,AK,b0R,b0N];constructor
 .rintro⟨⟨a,b⟩,c⟩;exact⟨a,by omega,by omega⟩
 .rintro⟨a,b,c⟩;exact⟨⟨a,by omega⟩,by omega⟩
def a0b(t a t' a':Int)(h1:t<=t')(h2:a<=a')(x:J)(h:tj t a x=true):tj t' a' x=true:=by
 rw[zc] at h ⊢;simp only[Bool.and_eq_true] at h ⊢;refine⟨⟨h.1.1,?_⟩,h.2⟩;have:=h.1.2;unfold IK at this ⊢;split
 .rename_i e;rw[b1q e] at this;simp only[b0N] at this ⊢;omega
 .rename_i e;rw[b0Y e] at this;split
  .rename_i e';rw[b1q e'] at this;simp only[b0N] at this ⊢;omega
  .rename_i e';rw[b0Y e'] at this;exact this
mutual
def Jb(t a t' a':Int)(h1:t<=t')(h2:a<=a'):∀ x:J,br t a x=true->br t' a' x=true
 | ⟨k,n,ks⟩=>λ h=>by
  simp only[br,b0R] at h ⊢;exact⟨a0b t a t' a' h1 h2 _ h.1,PI t a t' a' h1 h2 ks h.2⟩
def PI(t a t' a':Int)(h1:t<=t')(h2:a<=a'):∀ xs:List J,rH t a xs=true->rH t' a' xs=true
 | []=>λ _=>rfl
 | x::xs=>λ h=>by
  simp only[rH,b0R] at h ⊢;exact⟨Jb t a t' a' h1 h2 x h.1,PI t a t' a' h1 h2 xs h.2⟩
end
def Xe(p:Nat->Bool):Nat->Bool
 | 0=>true
 | n+1=>Xe p n&&p n
def dc:aQ:=⟨Ap,[.v (.st .sig), .v (.st .expr)],λ (gg:aX) (x:J)=>⟨(none,[⟨.bool,cC gg x⟩])⟩⟩
def Im(gg:aX)(x:J):Nat->aM:=λ _ => .none
def To(gg:aX)(x:J):ck (aZ [uJ] [] [] [2,3]) (az ng) (Im gg x) 0 (bx (aZ [uJ] [] [] [2,3]) ng λ r=>bB r [⟨.bool,cC gg x⟩]) (aL ng [.val ⟨(.st .sig),gg⟩, .val ⟨(.st .expr),x⟩]) =
 (((0<=(200:Int)/\(200:Int)<=1048576/\0<=(40:Int)/\(40:Int)<=1048576)/\(U (FB gg x (200:Int) (40:Int)) ->
 (AK gg x (200:Int) (40:Int))=(cC gg x)))):=by kernel_rfl
def S9(hE:aI [uJ]):aQ.Good dc:=by
 refine⟨aA FX rfl (by decide),?_⟩;show ∀ (gg:aX) (x:J),True->bC prog Ap [.val ⟨(.st .sig),gg⟩, .val ⟨(.st .expr),x⟩] (·=[⟨.bool,cC gg x⟩]);intro gg x _;refine bg (wr:=[]) (cl:=[]) (ro:=[2,3]) hE FX NO (Im gg x) ?_;rewrite [To gg x];refine⟨?_,λ _=>?_⟩;all_goals try and_intros
 all_goals first|rfl|trivial|omega|(simp only[b0N,b0M,aC,U,cb,cM,ca,bF] at *;omega)|(simp[aC,U] at *;omega)|grind
def mg:aQ.Good dc:=S9 ⟨Oq,af⟩
def mj:aQ:=⟨uT,[.v (.st .sig), .v (.st .expr)],λ (gg:aX) (x:J)=>⟨(none,[⟨.bool,oz gg x⟩])⟩⟩
def B1(gg:aX)(x:J):Nat->aM:=λ _ => .none
def M9(gg:aX)(x:J):ck (aZ [dc,dV] [] [] [2,3]) (az jo) (B1 gg x) 0 (bx (aZ [dc,dV] [] [] [2,3]) jo λ r=>bB r [⟨.bool,oz gg x⟩]) (aL jo [.val ⟨(.st .sig),gg⟩, .val ⟨(.st .expr),x⟩]) =
 ((((bS gg)=true ->
 (cC gg x)=(oz gg x))/\((bS gg)=(!true) ->
 false=(oz gg x)))):=by kernel_rfl
def MI(hE:aI [dc,dV]):aQ.Good mj:=by
 refine⟨aA zl rfl (by decide),?_⟩;show ∀ (gg:aX) (x:J),True->bC prog uT [.val ⟨(.st .sig),gg⟩, .val ⟨(.st .expr),x⟩] (·=[⟨.bool,oz gg x⟩]);intro gg x _;refine bg (wr:=[]) (cl:=[]) (ro:=[2,3]) hE zl HE (B1 gg x) ?_;rewrite [M9 gg x];refine⟨λ _=>?_,λ _=>?_⟩;all_goals try and_intros
 all_goals first|rfl|trivial|(simp_all [oz];done)
def H3:aQ.Good mj:=MI ⟨mg,rR,af⟩
def dZ:aQ:=⟨wD,[.v (.st .sig), .r (.st .expr)],λ (gg:aX) (x:J)=>⟨(none,[⟨.bool,oz gg x⟩])⟩⟩
def Lb(gg:aX)(x:J):Nat->aM:=λ _ => .none
abbrev Ga(gg:aX)(x:J):Prop:=(bR x<=1048576/\(U ((bR x:Int)) ->
 (((decide (((bR x:Int))<=(40:Int)))=true ->
 (br (aV gg.ar) (aV gg.bq) x)=(oz gg x))/\((decide (((bR x:Int))<=(40:Int)))=(!true) ->
 false=(oz gg x)))))
def Wv(gg:aX)(x:J):ck (aZ [ff,sU,rz,sY] [] [] [2]) (az pP) (Lb gg x) 0 (bx (aZ [ff,sU,rz,sY] [] [] [2]) pP λ r=>bB r [⟨.bool,oz gg x⟩]) (aL pP [.val ⟨(.st .sig),gg⟩, .ref ⟨(.st .expr),x⟩]) =
 ((((bS gg)=true ->
 ((0<=(200:Int)/\(200:Int)<=1048576)/\(U (bQ (aN x) (200:Int)) ->
 (((decide ((0:Int)<=(bQ (aN x) (200:Int))))=true ->
 (Ga gg x))/\((decide ((0:Int)<=(bQ (aN x) (200:Int))))=(!true) ->
 ((false=true ->
 (br (aV gg.ar) (aV gg.bq) x)=(oz gg x))/\(false=(!true) ->
 false=(oz gg x))))))))/\((bS gg)=(!true) ->
 ((false=true ->
 (Ga gg x))/\(false=(!true) ->
 ((false=true ->
 (br (aV gg.ar) (aV gg.bq) x)=(oz gg x))/\(false=(!true) ->
 false=(oz gg x)))))))):=by kernel_rfl
def VW(hE:aI [ff,sU,rz,sY]):aQ.Good dZ:=by
 refine⟨aA Hy rfl (by decide),?_⟩;show ∀ (gg:aX) (x:J),True->bC prog wD [.val ⟨(.st .sig),gg⟩, .ref ⟨(.st .expr),x⟩] (·=[⟨.bool,oz gg x⟩]);intro gg x _;refine bg (wr:=[]) (cl:=[]) (ro:=[2]) hE Hy Qi (Lb gg x) ?_;rewrite [Wv gg x];have f1:=eY (aN x) 200;have f2:=N9 x;have f3:oz gg x=(bS gg&&(br (aV gg.ar) (aV gg.bq) x&&decide ((aN x:Int)<=200)&&decide ((bR x:Int)<=40))):=rfl;refine⟨λ _=>⟨?_,λ _=>⟨λ _=>⟨?_,λ _=>⟨λ _=>?_,λ _=>?_⟩⟩,λ _=>⟨λ _=>?_,λ _=>?_⟩⟩⟩,λ _=>⟨λ _=>⟨?_,λ _=>⟨λ _=>?_,λ _=>?_⟩⟩,λ _=>⟨λ _=>?_,λ _=>?_⟩⟩⟩;all_goals try and_intros
 all_goals try rw[f3]
 all_goals first|rfl|trivial|omega|(simp only[b0N,b0M,b1i,b1B] at *;omega)|grind
def nF:aQ.Good dZ:=VW ⟨uA,Md,Kb,Mg,af⟩
def fc:aQ:=⟨tx,[.v (.st .sig), .v (.slice (.st .expr))],λ (gg:aX) (xs:List J)=>⟨(none,[⟨.bool,bE (cC gg) xs&&bS gg⟩])⟩⟩
def Ag(gg:aX)(xs:List J):Nat->aM:=(λ zb=>if Nat.beq zb 0 then .mk (Nat) (λ k=>k<=xs.length/\bE (cC gg) (xs.take k)=true) (λ k=>xs.length - k) [] [0,1,3,5] (λ k=>[(9, .aT ⟨(.int .i64),((k:Int):Int)⟩)]) [2,4,6,7,8,9,10,11,12,13,14,15,16,17,18,19] (λ k=>[]) [] [] (λ k=>λ _ => .none) else .none)
def KD(gg:aX)(xs:List J):ck (aZ [dc,dV] [] [] [2]) (az iQ) (Ag gg xs) 0 (bx (aZ [dc,dV] [] [] [2]) iQ λ r=>bB r [⟨.bool,bE (cC gg) xs&&bS gg⟩]) (aL iQ [.val ⟨(.st .sig),gg⟩, .val ⟨(.slice (.st .expr)),xs⟩]) =
 ((U ((xs.length:Int)) ->
 ((∃ k1:Nat,((k1<=xs.length/\bE (cC gg) (xs.take k1)=true)/\((gg=gg/\(xs=xs/\(((xs.length:Int))=((xs.length:Int))/\((0:Int)=(k1:Int)/\True))))/\True)))/\(∀ k1:Nat,((k1<=xs.length/\bE (cC gg) (xs.take k1)=true) ->
 (((decide ((k1:Int)<((xs.length:Int))))=true ->
 (aC (k1:Int) xs.length/\(((!(cC gg (ag (xs.getD k1 zE))))=true ->
 false=(bE (cC gg) xs&&bS gg))/\((!(cC gg (ag (xs.getD k1 zE))))=false ->
 (U ((k1:Int)+(1:Int))/\(∃ k2:Nat,((k2<=xs.length/\bE (cC gg) (xs.take k2)=true)/\(xs.length - k2<xs.length - k1/\((gg=gg/\(xs=xs/\(((xs.length:Int))=((xs.length:Int))/\(((k1:Int)+(1:Int))=(k2:Int)/\True))))/\True)))))))))/\((decide ((k1:Int)<((xs.length:Int))))=false ->
 (bS gg)=(bE (cC gg) xs&&bS gg)))))))):=by kernel_rfl
def Kt(hE:aI [dc,dV]):aQ.Good fc:=by
 refine⟨aA yg rfl (by decide),?_⟩;show ∀ (gg:aX) (xs:List J),True->bC prog tx [.val ⟨(.st .sig),gg⟩, .val ⟨(.slice (.st .expr)),xs⟩] (·=[⟨.bool,bE (cC gg) xs&&bS gg⟩]);intro gg xs _;refine bg (wr:=[]) (cl:=[]) (ro:=[2]) hE yg GM (Ag gg xs) ?_;rewrite [KD gg xs];have f1:=all_zero (cC gg) xs;refine λ _=>⟨⟨0,?_,⟨rfl,rfl,rfl,?_,af⟩,af⟩,λ k1 _=>have HA:=dU (cC gg) zE xs k1;have HB:=eZ (cC gg) zE xs k1;have HC:=fR (cC gg) xs k1;⟨λ _=>⟨?_,λ _=>?_,λ _=>⟨?_,k1+1,?_,?_,⟨rfl,rfl,rfl,?_,af⟩,af⟩⟩,λ _=>?_⟩⟩;all_goals try and_intros
 all_goals try (first|with_reducible rfl|with_reducible assumption)
 all_goals try simp only[J.eta,ae.eta,aH.eta,aU,bM,ct] at *
 all_goals first|rfl|trivial|(simp only[b0N,b0M,aC,U] at *;omega)|(simp_all;done)|(simp_all [aC,U];omega)
def vv:aQ.Good fc:=Kt ⟨mg,rR,af⟩
end
end Go.Proofs.YtmjfpcajohhbeaaGreatDoor

namespace Go.Proofs.YtmjfpcajohhbeaaGreatDoor
noncomputable section
mutual
def dC(ts as_:List J):J->J
 | ⟨k,n,ks⟩=>if k=3 then ts.getD n.toNat zE else if k=4 then as_.getD n.toNat zE else ⟨k,n,oF ts as_ ks⟩
def oF(ts as_:List J):List J->List J
 | []=>[]
 | x::xs=>dC ts as_ x::oF ts as_ xs
end
mutual
def cT:J->Int×Int
 | ⟨k,n,ks⟩=>if k=3 then (n+1,0) else if k=4 then (0,n+1) else bW ks
def bW:List J->Int×Int
 | []=>(0,0)
 | x::xs=>(max (cT x).1 (bW xs).1,max (cT x).2 (bW xs).2)
end
def XB(ts as_:List J):∀ xs,oF ts as_ xs=xs.map (dC ts as_)
 | []=>by rw[oF];rfl
 | x::xs=>by rw[oF,XB ts as_ xs];rfl
def YF(ts as_:List J)(x:J):dC ts as_ x=if x.au=3 then ts.getD x.aO.toNat zE else if x.au=4 then as_.getD x.aO.toNat zE else ⟨x.au,x.aO,x.M.map (dC ts as_)⟩:=by
 cases x with
 | mk k n ks=>rw[dC,XB]
def EC(x:J):cT x=if x.au=3 then (x.aO+1,0) else if x.au=4 then (0,x.aO+1) else bW x.M:=by
 cases x with
 | mk k n ks=>rw[cT]
structure jE(ts as_:List J)(x:J):Prop where
 t:(cT x).1<=(ts.length:Int)
 a:(cT x).2<=(as_.length:Int)
def Oj(ts as_:List J)(xs:List J):Prop:=(bW xs).1<=(ts.length:Int)/\(bW xs).2<=(as_.length:Int)
def YE(ts as_:List J)(x:J)(xs:List J):Oj ts as_ (x::xs)↔jE ts as_ x/\Oj ts as_ xs:=by
 have e:jE ts as_ x↔(cT x).1<=(ts.length:Int)/\(cT x).2<=(as_.length:Int):=⟨λ h=>⟨h.t,h.a⟩,λ h=>⟨h.1,h.2⟩⟩;rw[e];unfold Oj;rw[bW];dsimp only;omega
def a1n{ts as_:List J}{x:J}(h:jE ts as_ x)(h3:¬ x.au=3)(h4:¬ x.au=4):Oj ts as_ x.M:=by
 have h1:=h.t;have h2:=h.a;rw[EC,b0Y h3,b0Y h4] at h1 h2;exact⟨h1,h2⟩
def XA{ts as_:List J}:∀ {xs:List J},Oj ts as_ xs->∀ x∈xs,jE ts as_ x
 | [],_,_,h=>by cases h
 | y::ys,h,x,hx=>by
  rw[YE] at h;rcases b1e.1 hx with rfl|hx
  .exact h.1
  .exact XA h.2 x hx
def a2A{ts as_:List J}{x:J}(h:jE ts as_ x)(h3:x.au=3):x.aO<(ts.length:Int):=by
 have:=h.t;rw[EC,if_pos h3] at this;dsimp only at this;omega
def a2z{ts as_:List J}{x:J}(h:jE ts as_ x)(h4:x.au=4):x.aO<(as_.length:Int):=by
 have:=h.a;rw[EC,if_neg (by omega),if_pos h4] at this;dsimp only at this;omega
mutual
def fg(ts as_:List J):J->Int->J×Int
 | ⟨k,n,ks⟩,l=>if l - 1<0 then (zE,l - 1) else
   if k=3\/k=4 then (let e:=(if k=4 then as_ else ts).getD n.toNat zE;(e,l - 1 - ((aN e:Int) - 1))) else
   (⟨k,n,(dR ts as_ ks (l - 1)).1⟩,(dR ts as_ ks (l - 1)).2)
def dR(ts as_:List J):List J->Int->List J×Int
 | [],l=>([],l)
 | x::xs,l=>((fg ts as_ x l).1::(dR ts as_ xs (fg ts as_ x l).2).1,(dR ts as_ xs (fg ts as_ x l).2).2)
end
def Ci(x:J):1<=aN x:=by cases x;rw[aN];omega
mutual
def a0B(ts as_:List J):∀ (x:J) (l:Int),(fg ts as_ x l).2<=l - 1/\(0<=(fg ts as_ x l).2->(fg ts as_ x l).1=dC ts as_ x/\(fg ts as_ x l).2=l - (aN (dC ts as_ x):Int))/\((fg ts as_ x l).2<0->l<(aN (dC ts as_ x):Int))
 | ⟨k,n,ks⟩,l=>by
  rw[fg,dC];have hp:=Ci;by_cases h0:l - 1<0
  .rw[if_pos h0];have:=hp (if k=3 then ts.getD n.toNat zE else if k=4 then as_.getD n.toNat zE else ⟨k,n,oF ts as_ ks⟩);refine⟨Int.le_refl _,λ h=>by dsimp only at h;omega,λ _=>by omega⟩
  .rw[b0Y h0];by_cases h3:k=3
   .subst h3;have:=hp (ts.getD n.toNat zE);rw[if_pos (Or.inl rfl:(3:Int)=3\/(3:Int)=4),if_pos rfl,if_neg (show ¬ (3:Int)=4 by decide)];dsimp only;exact⟨by omega,λ h=>⟨rfl,by omega⟩,λ h=>by omega⟩
   .by_cases h4:k=4
    .subst h4;have:=hp (as_.getD n.toNat zE);rw[if_pos (Or.inr rfl:(4:Int)=3\/(4:Int)=4),if_neg h3,if_pos rfl,if_pos rfl];dsimp only;exact⟨by omega,λ h=>⟨rfl,by omega⟩,λ h=>by omega⟩
    .rw[b0Y (by omega),b0Y h3,b0Y h4,aN];obtain⟨s1,s2,s3⟩:=JB ts as_ ks (l - 1);refine⟨s1,λ h=>?_,λ h=>?_⟩
     .obtain⟨g1,g2⟩:=s2 h;rw[g1];exact⟨rfl,by rw[g2];omega⟩
     .have:=s3 (by omega) h;omega
def JB(ts as_:List J):∀ (xs:List J) (l:Int),(dR ts as_ xs l).2<=l/\(0<=(dR ts as_ xs l).2->(dR ts as_ xs l).1=oF ts as_ xs/\(dR ts as_ xs l).2=l - (dG (oF ts as_ xs):Int))/\(0<=l->(dR ts as_ xs l).2<0->l<(dG (oF ts as_ xs):Int))
 | [],l=>by
  rw[dR,oF,dG];exact⟨Int.le_refl _,λ _=>⟨rfl,by dsimp only;omega⟩,λ h h'=>by dsimp only at h';omega⟩
 | x::xs,l=>by
  rw[dR,oF,dG];obtain⟨a1,a2,a3⟩:=a0B ts as_ x l;obtain⟨b1,b2,b3⟩:=JB ts as_ xs (fg ts as_ x l).2;dsimp only;refine⟨by omega,λ h=>?_,λ h h'=>?_⟩
  .obtain⟨c1,c2⟩:=b2 h;obtain⟨d1,d2⟩:=a2 (by omega);rw[c1,d1];exact⟨rfl,by omega⟩
  .rcases b4H (fg ts as_ x l).2 0 with g|g
   .have:=a3 g;omega
   .have:=b3 g h';obtain⟨d1,d2⟩:=a2 g;omega
end
def TW(gg:aX)(ts as_:List J)(x:J):(decide (0<=(fg ts as_ x 200).2)&&cC gg (fg ts as_ x 200).1)=cC gg (dC ts as_ x)/\(0<=(fg ts as_ x 200).2->(fg ts as_ x 200).1=dC ts as_ x):=by
 obtain⟨s1,s2,s3⟩:=a0B ts as_ x 200;refine⟨?_,λ h=>(s2 h).1⟩;by_cases h:0<=(fg ts as_ x 200).2
 .rw[b1A h,(s2 h).1,b2n]
 .have:=s3 (by omega);have e:cC gg (dC ts as_ x)=false:=by
   unfold cC AK;rw[show decide ((aN (dC ts as_ x):Int)<=200)=false from decide_eq_false (by omega)];simp
  rw[b1a h,e];rfl
def iL(y:J):J->List Int->J
 | _,[]=>y
 | x,k::ks=>⟨x.au,x.aO,x.M.set k.toNat (iL y (x.M.getD k.toNat zE) ks)⟩
structure Dg(x:J)(ks:List Int)(k:Nat):Prop where
 le:k<=ks.length
 ok:fP x (ks.take k)=true
def Dg.zero(x:J)(ks:List Int):Dg x ks 0:=⟨b2b _,rfl⟩
def Dg.bad{x:J}{ks:List Int}{k:Nat}(h:Dg x ks k)(hk:k<ks.length)(hb:¬ (0<=ks.getD k 0/\ks.getD k 0<=((dD x (ks.take k)).M.length:Int) - 1)):fP x ks=false :=
 a2O x ks (k+1) (by rw[(AD x ks k hk).1,show QG (dD x (ks.take k)) (ks.getD k 0)=false from b1a hb,b2E])
def Dg.next{x:J}{ks:List Int}{k:Nat}(h:Dg x ks k)(hk:k<ks.length)(hb:0<=ks.getD k 0/\ks.getD k 0<=((dD x (ks.take k)).M.length:Int) - 1):Dg x ks (k+1) :=
 ⟨hk,by rw[(AD x ks k hk).1,show QG (dD x (ks.take k)) (ks.getD k 0)=true from b1A hb,h.ok];rfl⟩
def Dg.done{x:J}{ks:List Int}{k:Nat}(h:Dg x ks k)(hk:ks.length<=k):fP x ks=true:=by rw[<-(Zd x ks k hk).1];exact h.ok
end
end Go.Proofs.YtmjfpcajohhbeaaGreatDoor

set_option maxRecDepth 4000
set_option maxHeartbeats 4000000
namespace Go.Proofs.YtmjfpcajohhbeaaGreatDoor
noncomputable section
def sA:aQ:=⟨Fm,[.v (.int .i64), .v (.int .i64)],λ (k:Int) (m:Int)=>⟨(none,[⟨(.st .expr),J.mk k m []⟩])⟩⟩
def Ld(k:Int)(m:Int):Nat->aM:=λ _ => .none
def Wz(k:Int)(m:Int):ck (cg [] [] [] [] []) (az rn) (Ld k m) 0 (dN (cg [] [] [] [] []) rn λ r=>bB r [⟨(.st .expr),J.mk k m []⟩]) (fE rn [.val ⟨(.int .i64),k⟩, .val ⟨(.int .i64),m⟩]) =
 ((J.mk k m [])=(J.mk k m [])):=by kernel_rfl
def VY(hE:aI [])(hO:dL [])(hM:ed [])(hS:dP []):aQ.df sA:=by
 refine⟨aA KN rfl (by decide),?_⟩;show ∀ (k:Int) (m:Int),True->fH prog Fm [.val ⟨(.int .i64),k⟩, .val ⟨(.int .i64),m⟩] [⟨(.st .expr),J.mk k m []⟩];intro k m _;refine cV (own:=[]) (wr:=[]) (cl:=[]) (ro:=[]) hE hO hM hS KN SN (Ld k m) ?_;rewrite [Wz k m];refine rfl;all_goals try and_intros
 all_goals first|rfl|trivial|omega|(simp only[b0N,b0M,aC,U,cb,cM,ca,bF] at *;omega)|(simp[aC,U] at *;omega)|grind
def QP:aQ.df sA:=VY trivial trivial trivial trivial
def ke:aQ:=⟨uY,[.v (.int .i64), .o (.slice (.st .expr))],λ (k:Int) (ks:List J)=>⟨(none,[⟨(.st .expr),J.mk k 0 ks⟩])⟩⟩
def Le(k:Int)(ks:List J):Nat->aM:=λ _ => .none
def WA(k:Int)(ks:List J):ck (cg [] [] [] [] []) (az jV) (Le k ks) 0 (dN (cg [] [] [] [] []) jV λ r=>bB r [⟨(.st .expr),J.mk k 0 ks⟩]) (fE jV [.val ⟨(.int .i64),k⟩, .own ⟨(.slice (.st .expr)),ks⟩]) =
 ((J.mk k (0:Int) ks)=(J.mk k 0 ks)):=by kernel_rfl
def VZ(hE:aI [])(hO:dL [])(hM:ed [])(hS:dP []):aQ.df ke:=by
 refine⟨aA wy rfl (by decide),?_⟩;show ∀ (k:Int) (ks:List J),True->fH prog uY [.val ⟨(.int .i64),k⟩, .own ⟨(.slice (.st .expr)),ks⟩] [⟨(.st .expr),J.mk k 0 ks⟩];intro k ks _;refine cV (own:=[]) (wr:=[]) (cl:=[]) (ro:=[]) hE hO hM hS wy F7 (Le k ks) ?_;rewrite [WA k ks];refine ?_;all_goals try and_intros
 all_goals first|rfl|trivial|omega|(simp only[b0N,b0M,aC,U,cb,cM,ca,bF] at *;omega)|(simp[aC,U] at *;omega)|grind
def Ev:aQ.df ke:=VZ trivial trivial trivial trivial
def lg(n:Nat):aQ:=⟨rB,[.v (.st .expr)],λ (e:J)=>⟨(some (cA e<n/\aw e<=1048576),[⟨(.st .expr),e⟩])⟩⟩
def gW:aQ:=⟨rB,[.v (.st .expr)],λ (e:J)=>⟨(some (aw e<=1048576),[⟨(.st .expr),e⟩])⟩⟩
def B6(e:J):Nat->aM:=(λ zb=>if Nat.beq zb 0 then .mk (Nat) (λ i=>i<=e.M.length) (λ i=>e.M.length - i) [] [0,1,4,6,7,8,9,10,11] (λ i=>[(14, .aT ⟨(.int .i64),((i:Int):Int)⟩)]) [2,5,12,13,14,15,16,17,18,19,20,21,22,23,24,25,26] (λ i=>[(3, .box [.aT ⟨(.int .i64),(e.au:Int)⟩, .aT ⟨(.int .i64),(e.aO:Int)⟩, .aD 2400]),(2400, .aD (.st .expr) (e.M.take i:List J))]) [] [] (λ i=>λ _ => .none) else .none)
def Ng(n:Nat)(e:J):ck (cg [] [lg n] [] [21,22,23] [] [] [1]) (az kq) (B6 e) 0 (dN (cg [] [lg n] [] [21,22,23] [] [] [1]) kq λ r=>bB r [⟨(.st .expr),e⟩]) (fE kq [.val ⟨(.st .expr),e⟩]) =
 ((U e.au ->
 (U e.aO ->
 (e.M.length<=140737488355328 ->
 (U ((e.M.length:Int)) ->
 ((∃ i1:Nat,(i1<=e.M.length/\((True/\(True/\(e.M=e.M/\(((e.M.length:Int))=((e.M.length:Int))/\((0:Int)=(i1:Int)/\True)))))/\((e.au=e.au/\(e.aO=e.aO/\(True/\True)))/\((e.M.take i1)=[]/\(((0:Int)=(0:Int)/\((0:Int)=(0:Int)/\(True/\True)))/\True))))))/\(∀ i1:Nat,(i1<=e.M.length ->
 (((decide ((i1:Int)<((e.M.length:Int))))=true ->
 (aC (i1:Int) e.M.length/\(((3:Nat)=3/\(2:Nat)=2)/\((2400:Nat)=2400/\(((e.M.getD i1 zE).au=(e.M.getD i1 zE).au/\((e.M.getD i1 zE).aO=(e.M.getD i1 zE).aO/\((e.M.getD i1 zE).M=(e.M.getD i1 zE).M/\True)))/\((cA (ag (e.M.getD i1 zE))<n/\aw (ag (e.M.getD i1 zE))<=1048576)/\(((3:Nat)=3/\(2:Nat)=2)/\((2400:Nat)=2400/\(((3:Nat)=3/\(2:Nat)=2)/\((2400:Nat)=2400/\(bF ((e.M.take i1).length+([(ag (e.M.getD i1 zE))]).length) 40/\(U ((i1:Int)+(1:Int))/\(∃ i2:Nat,(i2<=e.M.length/\(e.M.length - i2<e.M.length - i1/\((True/\(True/\(e.M=e.M/\(((e.M.length:Int))=((e.M.length:Int))/\(((i1:Int)+(1:Int))=(i2:Int)/\True)))))/\((e.au=e.au/\(e.aO=e.aO/\(True/\True)))/\(((e.M.take i1)++([(ag (e.M.getD i1 zE))]))=(e.M.take i2)/\(((0:Int)=(0:Int)/\((0:Int)=(0:Int)/\(True/\True)))/\True)))))))))))))))))))/\((decide ((i1:Int)<((e.M.length:Int))))=false ->
 (J.mk e.au e.aO (e.M.take i1))=e)))))))))):=by kernel_rfl
def MO(n:Nat)(hE:aI [])(hO:dL [lg n])(hM:ed [])(hS:dP []):aQ.df (lg (n+1)):=by
 refine⟨aA qc rfl (by decide),?_⟩;show ∀ (e:J),(cA e<n+1/\aw e<=1048576)->fH prog rB [.val ⟨(.st .expr),e⟩] [⟨(.st .expr),e⟩];intro e hp;refine cV (own:=[21,22,23]) (wr:=[]) (cl:=[]) (ro:=[1]) hE hO hM hS qc JL (B6 e) ?_;rewrite [Ng n e];rw[qU] at hp;have f0:=dX e;have f1:=λ i (h:i<e.M.length)=>pS aw zE e.M i h;have f2:=λ i (h:i<e.M.length)=>cx zE e.M i h;have f3:=λ i (h:i<e.M.length)=>fM zE e.M i h;have f4:e.M.take 0=[]:=by simp
 have f5:∀ i,e.M.length<=i->e.M.take i=e.M:=λ i h=>b1v h;have f6:∀ i,(e.M.take i).length<=e.M.length:=λ i=>by simp;omega
 have f7:∀ ks,ks=e.M->J.mk e.au e.aO ks=e:=λ ks h=>by subst h;cases e;rfl
 refine λ _ _ _ _=>⟨⟨0,?_,⟨af,af,rfl,rfl,?_,af⟩,⟨rfl,rfl,af,af⟩,?_,⟨rfl,rfl,af,af⟩,af⟩,λ i1 _=>⟨λ _=>⟨?_,⟨?_,?_⟩,?_,⟨rfl,rfl,rfl,?_⟩,?_,⟨?_,?_⟩,?_,⟨?_,?_⟩,?_,?_,?_,i1+1,?_,?_,⟨af,af,rfl,rfl,?_,af⟩,⟨rfl,rfl,af,af⟩,?_,⟨rfl,rfl,af,af⟩,af⟩,λ _=>?_⟩⟩;all_goals try and_intros
 all_goals try (first|with_reducible rfl|with_reducible assumption)
 all_goals try simp only[J.eta,ae.eta,aH.eta,aU,bM,ct] at *
 all_goals first|rfl|trivial|omega|(simp only[b0N,b0M,aC,U,bF,b0Z,b1n] at *;first|omega|(have:=f6 i1;omega)|exact f7 _ (f5 _ (by omega))|grind)|grind
def RY:∀ n,dL [lg n]
 | 0=>⟨⟨aA qc rfl (by decide),λ _ h=>absurd h.1 (b1H _)⟩,af⟩
 | n+1=>by
  have ih:=RY n;exact⟨MO n trivial ⟨ih.1,af⟩ trivial trivial,af⟩
def xx:aQ.df gW :=
 ⟨aA qc rfl (by decide),λ e hp=>(RY (cA e+1)).1.2 e (⟨b1D _,hp⟩)⟩
end
end Go.Proofs.YtmjfpcajohhbeaaGreatDoor

set_option maxRecDepth 4000
set_option maxHeartbeats 4000000
namespace Go.Proofs.YtmjfpcajohhbeaaGreatDoor
noncomputable section
def n8(n:Nat):aQ:=⟨qP,[.r (.st .expr)],λ (e:J)=>⟨(some (cA e<n/\aw e<=1048576),[⟨(.st .expr),e⟩])⟩⟩
def s5:aQ:=⟨qP,[.r (.st .expr)],λ (e:J)=>⟨(some (aw e<=1048576),[⟨(.st .expr),e⟩])⟩⟩
def GA(e:J):Nat->aM:=(λ zb=>if Nat.beq zb 0 then .mk (Nat) (λ i=>i<=e.M.length) (λ i=>e.M.length - i) [] [1,5,6,7,8,9,10,11,12,13] (λ i=>[(4, .aT ⟨(.int .i64),((i:Int):Int)⟩)]) [0,2,4,14,15,16,17,18,19,20,21,22,23,24,25,26,27,28,29,30,31,32,33,34,35] (λ i=>[(3, .box [.aT ⟨(.int .i64),(e.au:Int)⟩, .aT ⟨(.int .i64),(e.aO:Int)⟩, .aD 3400]),(3400, .aD (.st .expr) (e.M.take i:List J))]) [] [] (λ i=>λ _ => .none) else .none)
def RN(n:Nat)(e:J):ck (cg [] [n8 n] [] [31,32,33] []) (az nv) (GA e) 0 (dN (cg [] [n8 n] [] [31,32,33] []) nv λ r=>bB r [⟨(.st .expr),e⟩]) (fE nv [.ref ⟨(.st .expr),e⟩]) =
 ((U e.au ->
 (U e.aO ->
 ((∃ i1:Nat,(i1<=e.M.length/\((e=e/\(True/\(True/\((0:Int)=(i1:Int)/\True))))/\((e.au=e.au/\(e.aO=e.aO/\(True/\True)))/\((e.M.take i1)=[]/\(((0:Int)=(0:Int)/\((0:Int)=(0:Int)/\(True/\True)))/\True))))))/\(∀ i1:Nat,(i1<=e.M.length ->
 (e.M.length<=140737488355328 ->
 (U ((e.M.length:Int)) ->
 (((decide ((i1:Int)<((e.M.length:Int))))=true ->
 (e.M.length<=140737488355328 ->
 (U (i1:Int) ->
 (aC (i1:Int) e.M.length/\(((3:Nat)=3/\(2:Nat)=2)/\((3400:Nat)=3400/\(e=e/\(e=e/\(e.M=e.M/\(e.M=e.M/\((i1:Int)=(i1:Int)/\(aC (i1:Int) e.M.length/\((e.M.getD i1 zE)=(e.M.getD i1 zE)/\((cA (e.M.getD i1 zE)<n/\aw (e.M.getD i1 zE)<=1048576)/\(((3:Nat)=3/\(2:Nat)=2)/\((3400:Nat)=3400/\(((3:Nat)=3/\(2:Nat)=2)/\((3400:Nat)=3400/\(bF ((e.M.take i1).length+([(ag (e.M.getD i1 zE))]).length) 40/\(U ((i1:Int)+(1:Int))/\(∃ i2:Nat,(i2<=e.M.length/\(e.M.length - i2<e.M.length - i1/\((e=e/\(True/\(True/\(((i1:Int)+(1:Int))=(i2:Int)/\True))))/\((e.au=e.au/\(e.aO=e.aO/\(True/\True)))/\(((e.M.take i1)++([(ag (e.M.getD i1 zE))]))=(e.M.take i2)/\(((0:Int)=(0:Int)/\((0:Int)=(0:Int)/\(True/\True)))/\True)))))))))))))))))))))))))))/\((decide ((i1:Int)<((e.M.length:Int))))=false ->
 (J.mk e.au e.aO (e.M.take i1))=e)))))))))):=by kernel_rfl
def Rf(n:Nat)(hE:aI [])(hO:dL [n8 n])(hM:ed [])(hS:dP []):aQ.df (n8 (n+1)):=by
 refine⟨aA sN rfl (by decide),?_⟩;show ∀ (e:J),(cA e<n+1/\aw e<=1048576)->fH prog qP [.ref ⟨(.st .expr),e⟩] [⟨(.st .expr),e⟩];intro e hp;refine cV (own:=[31,32,33]) (wr:=[]) (cl:=[]) (ro:=[]) hE hO hM hS sN NY (GA e) ?_;rewrite [RN n e];rw[qU] at hp;have f0:=dX e;have f1:=λ i (h:i<e.M.length)=>pS aw zE e.M i h;have f2:=λ i (h:i<e.M.length)=>cx zE e.M i h;have f3:=λ i (h:i<e.M.length)=>fM zE e.M i h;have f4:e.M.take 0=[]:=by simp
 have f5:∀ i,e.M.length<=i->e.M.take i=e.M:=λ i h=>b1v h;have f6:∀ i,(e.M.take i).length<=e.M.length:=λ i=>by simp;omega
 have f7:∀ ks,ks=e.M->J.mk e.au e.aO ks=e:=λ ks h=>by subst h;cases e;rfl
 refine λ _ _=>⟨⟨0,?_,⟨rfl,af,af,?_,af⟩,⟨rfl,rfl,af,af⟩,?_,⟨rfl,rfl,af,af⟩,af⟩,λ i1 _ _ _=>⟨λ _ _ _=>⟨?_,⟨?_,?_⟩,?_,rfl,rfl,rfl,rfl,rfl,?_,rfl,?_,⟨?_,?_⟩,?_,⟨?_,?_⟩,?_,?_,?_,i1+1,?_,?_,⟨rfl,af,af,?_,af⟩,⟨rfl,rfl,af,af⟩,?_,⟨rfl,rfl,af,af⟩,af⟩,λ _=>?_⟩⟩;all_goals try and_intros
 all_goals try (first|with_reducible rfl|with_reducible assumption)
 all_goals try simp only[J.eta,ae.eta,aH.eta,aU,bM,ct] at *
 all_goals first|rfl|trivial|omega|(simp only[b0N,b0M,aC,U,bF,b0Z,b1n] at *;first|omega|(have:=f6 i1;omega)|exact f7 _ (f5 _ (by omega))|grind)|grind
def T8:∀ n,dL [n8 n]
 | 0=>⟨⟨aA sN rfl (by decide),λ _ h=>absurd h.1 (b1H _)⟩,af⟩
 | n+1=>by
  have ih:=T8 n;exact⟨Rf n trivial ⟨ih.1,af⟩ trivial trivial,af⟩
def AG:aQ.df s5 :=
 ⟨aA sN rfl (by decide),λ e hp=>(T8 (cA e+1)).1.2 e (⟨b1D _,hp⟩)⟩
mutual
def JE:∀ x:J,aw x+1=aN x
 | ⟨_,_,ks⟩=>by
  have:=Wi ks;simp only[aw,aN];omega
def Wi:∀ xs:List J,xs.length+zg xs=dG xs
 | []=>rfl
 | x::xs=>by
  have h1:=JE x;have h2:=Wi xs;simp only[zg,dG,b0Z];omega
end
def Fg(gg:aX)(x:J)(h:cC gg x=true):aw x<=1048576:=by
 rw[zV] at h;have:=JE x;omega
end
end Go.Proofs.YtmjfpcajohhbeaaGreatDoor

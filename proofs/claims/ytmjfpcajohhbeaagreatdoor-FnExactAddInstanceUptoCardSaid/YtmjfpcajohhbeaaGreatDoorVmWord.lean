/- VmOpen, VmRow, VmLib, VmSz, VmTo, VmEq, VmOwnFam, VmOwnFam2, VmOwnFam4, VmHeld, VmHeldpf, VmExpr, VmExpr2, VmShaped, VmTruth, VmValid, VmPfe, VmBld, VmBld2, VmShelf, VmShelf2, VmBw, VmSplit, VmWord. -/
import Derived.Test.YtmjfpcajohhbeaaGreatDoorVmUse
import Derived.Test.YtmjfpcajohhbeaaGreatDoorRows
import Derived.WalkKit
import Derived.ProofKit
import Derived.OpenShut
import Derived.JoinedCond
import Derived.Carry
import Derived.ChangeSame
import Derived.Shelf.Vars
import Derived.Shelf.Strings.Builder1
import Derived.Shelf.Strconv.Itoa0
import Derived.Shelf.Strconv.Itoa1
import Derived.Shelf.LaysM
import Derived.Shelf.Strconv.Itoa2
import Derived.Shelf.Strconv.Itoa3
import Derived.Shelf.Strings.Search1
import Derived.Shelf.Strings.Search2
import Derived.Shelf.Strings.Cut
import Derived.Shelf.Strings.Shaped
import Derived.Shelf.Strings.Prefix
import Derived.Test.YtmjfpcajohhbeaaGreatDoorProg
import Derived.Lib.Builder
import Derived.Lib.AppendStr
import Derived.Lib.UnsafeStr
import Derived.Lib.Walk
import Derived.Lib.Strings
import Derived.Lib.Slices
import Derived.Lib.MakeNoZero
import Derived.Laws.Externs
import Derived.Laws.IdiomCopy
import Derived.BigCall
import Derived.OwnWalk
set_option linter.all false
namespace Go.Proofs.YtmjfpcajohhbeaaGreatDoor
open Go.ChangeShapes Go.WideShapes Go.ChangeAt Go.RowKit
def b5C:=@List.replicate_succ
def b4y:=@Nat.not_lt_zero
def b4v:=@Nat.lt_succ_self
def b4f:=@Bool.not_eq_false'
def b7v:=@decide_not
def b6I:=@List.set_set
def b7D:=@Int.lt_or_le
def b7l:=@Go.Oper.upon_value
def b7d:=@Go.RowKit.Below.refl
def b6n:=@Go.Lib.cell_of_heap
def b6f:=@Bool.and_eq_false_iff
theorem dq.append{w:World}{S:Nat->Prop}:∀ (ds es:List D) {l m:List Value},dq w S ds l->dq w S es m->dq w S (ds++es) (l++m)
 | [],_,_,_,h,k=>by rw[show _=[] from h];simpa using k
 | d::ds,es,_,m,h,k=>by
  obtain⟨c,r,rfl,h2,h3⟩:=h;exact⟨c,r++m,by simp,h2,dq.append ds es h3 k⟩
theorem a6k{w:World}{S:Nat->Prop}(t:Ty)(y:t.den){cs:List Value}(h:Rd w S (t.aQ y) cs):dq w S ((TV.cells ⟨t,y⟩).map TV.aQ) cs:=by
 have one:∀ d:D,d.leaf=true->Rd w S d cs->dq w S [d] cs:=by
  intro d hd h;obtain⟨v,rfl,_⟩:=Rd.xX hd h;exact⟨v,[],rfl,h,rfl⟩
 cases t with
 | st s =>
  have h':Rd w S (s.aQ y) cs:=h;rw[aS.cA] at h';exact h'
 | int k=>exact one _ rfl h
 | bool=>exact one _ rfl h
 | str=>exact one _ rfl h
 | slice t=>exact one _ rfl h
 | mv t=>exact one _ (SG _ _ _) h
 | ptr=>exact one _ rfl h
theorem WE{w:World}{S:Nat->Prop}:∀ (ts:List Ty) (cs:List Value),cs.length=(ts.map Ty.size).sum ->
  (∀ i t,ts[i]?=some t->∃ y:t.den,Rd w S (t.aQ y) ((cs.drop ((ts.take i).map Ty.size).sum).take t.size)) ->
  ∃ fl:List TV,fl.map TV.τ=ts/\dq w S ((fl.flatMap TV.cells).map TV.aQ) cs
 | [],cs,h,_=>⟨[],rfl,by
   have:cs=[]:=by simpa using h
   subst this;exact rfl⟩
 | t::ts,cs,h,k=>by
  obtain⟨y,hy⟩:=k 0 t rfl;simp only[b4I,b5u,List.sum_nil,b5O] at hy;simp only[b4A,List.sum_cons] at h;obtain⟨fl,h1,h2⟩:=WE ts (cs.drop t.size) (by simp;omega) (λ i u hu=>by
   obtain⟨z,hz⟩:=k (i+1) u hu;simp only[b6J,b4A,List.sum_cons] at hz;rw[<-b5p] at hz;exact⟨z,hz⟩)
  refine⟨⟨t,y⟩::fl,by simp[h1],?_⟩;simp only[List.flatMap_cons,b5B];have:=dq.append _ _ (a6k t y hy) h2;rwa [b4S] at this
theorem a5t{w:World}{S:Nat->Prop}(t:Ty)(b:Nat):∀ (n o:Nat),(∀ i,i<n->∃ (x:t.den) (cs:List Value),cs.length=t.size/\Rd w S (t.aQ x) cs/\ct w b (o+i * t.size) cs) ->
  ∃ xs:List t.den,xs.length=n/\du w S (xs.map t.aQ) b o
 | 0,o,_=>⟨[],rfl,U⟩
 | n+1,o,h=>by
  obtain⟨x,cs,h1,h2,h3⟩:=h 0 (by omega);obtain⟨xs,h4,h5⟩:=a5t t b n (o+t.size) (λ i hi=>by
   obtain⟨y,c,g1,g2,g3⟩:=h (i+1) (by omega);exact⟨y,c,g1,g2,by rw[show o+t.size+i * t.size=o+(i+1) * t.size by rw[b4X];omega];exact g3⟩)
  refine⟨x::xs,by simp[h4],⟨cs,by rw[Ty.cP];exact h1,h2,by simpa using h3⟩,?_⟩;rw[Ty.cP];exact h5
section
variable {H:Type} {enc:TypeId×Value->H} {w:World} {spare:Nat->Bool} {held:Bool}
theorem a1m(d:DataW H):1<=Rows.uptoBulk d:=by
 cases d with
 | lit l=>cases l<;>simp[Rows.uptoBulk]
 | nil=>simp[Rows.uptoBulk]
 | ptr d=>simp[Rows.uptoBulk]
 | slice elems spare=>simp[Rows.uptoBulk]
 | agg parts=>simp[Rows.uptoBulk]
 | iface t d=>simp[Rows.uptoBulk]
 | map entries=>simp[Rows.uptoBulk]
 | held h=>simp[Rows.uptoBulk]
theorem Yi{d:DataW H}{l:List (DataW H)}(h:d∈l):Rows.uptoBulk d<=Rows.uptoBulkAll l:=by
 induction l with
 | nil=>cases h
 | cons x r ih =>
  simp only[Rows.uptoBulkAll];cases b3Z.1 h with
  | inl e=>subst e;omega
  | inr e=>have:=ih e;omega
theorem U6(l:List (DataW H)):l.length<=Rows.uptoBulkAll l:=by
 induction l with
 | nil=>simp[Rows.uptoBulkAll]
 | cons x r ih=>have:=a1m x;simp only[Rows.uptoBulkAll,b3P];omega
theorem qd:bH prog (M3 []):=RT trivial
theorem FO{T b e:Nat}{τ:Ty}(h:af GM T=some (τ,b,e)):prog.cellsOf T=τ.size:=by
 obtain⟨i,z,h1,h2,_⟩:=(qd.info (T:=T) (τ:=τ) (b:=b) (e:=e) h).ex;simp[Program.cellsOf,h1,h2]
theorem a2Q:∀ (fuel:Nat) (τ:Ty) (T b e:Nat) (cs:List Value) (x:DataW H×List MemPlace),af GM T=some (τ,b,e)->DataW.trod enc prog w 0 spare held fuel T cs=some x ->
  Rows.uptoBulk x.1<=1048576->∃ y:τ.den,Rd w (·<w.heap.size) (τ.aQ y) cs:=by
 intro fuel;induction fuel with
 | zero =>
  intro τ T b e cs x ht h hk;have h':(none:Option (DataW H×List MemPlace))=some x:=h;cases h'
 | succ fuel ih =>
 intro τ T b e cs x ht h hk;cases τ with
 | int k =>
  obtain⟨n,rfl,rfl,hw⟩:=DataW.trod_int (qd.int ht) h;refine⟨n,rfl,?_⟩;simpa [Lit.wf] using hw
 | bool =>
  obtain⟨n,rfl,rfl⟩:=DataW.trod_bool (qd.bool ht) h;exact⟨n,rfl⟩
 | str =>
  obtain⟨n,rfl,rfl,hw⟩:=DataW.trod_string (qd.str ht) h;refine⟨n.data.toList,n,rfl,rfl,?_⟩;simp[Rows.uptoBulk] at hk;have:n.size=n.data.size:=rfl;omega
 | mv t=>exact (qd.a7Z ht).elim
 | ptr =>
  obtain⟨t,hu⟩:=qd.ptr ht;rcases DataW.trod_pointer hu h with ⟨rfl,_⟩|⟨a,_,_,_,_,rfl,_⟩
  .exact⟨(),_,rfl⟩
  .exact⟨(),_,rfl⟩
 | slice t =>
  obtain⟨hu,⟨b',e',he⟩,_⟩:=qd.slice ht;have hc:=FO he;rcases DataW.trod_slice hu h with ⟨rfl,rfl⟩|⟨a,len,cap,elems,rest,n,hn,rfl,rfl,hb,hl,hm,hlen,hel,_⟩
  .exact⟨[],none,0,rfl,b4r _,b4O _,b4O _, .inl rfl⟩
  .obtain rfl:n=fuel:=by omega
   rw[hc] at hel;have a3M:∀ (i:Nat) (z:DataW H×List MemPlace),elems[i]?=some z->Rows.uptoBulk z.1<=1048576:=by
    intro i z hz;have h1:=Yi (d:=z.1) (l:=elems.map (·.1)) (b3N.2 ⟨z,b5h hz,rfl⟩);simp only[Rows.uptoBulk] at hk;omega
   have I4:∀ i,i<len->∃ (y:t.den) (c:List Value),c.length=t.size/\Rd w (·<w.heap.size) (t.aQ y) c/\(∀ j v,c[j]?=some v->w.cell? ((a.add (i * t.size)).add j)=some v):=by
    intro i hi;have hz:elems[i]?=some (elems[i]'(by omega)):=b4j (by omega);have:=hel i hi;rw[hz,b5a] at this;obtain⟨c,R0,hc2⟩:=this;obtain⟨y,hy⟩:=ih t e b' e' c _ he hc2 (a3M i _ hz);obtain⟨_,h5,h6⟩:=World.cells?_some R0;refine⟨y,c,h5,hy,λ j v hj=>?_⟩;rw[h6 j (by rw[<-h5];exact (b4B.1 hj).1),hj]
   have hlb:len<=1048576:=by
    have h1:=U6 (elems.map (·.1));simp only[Rows.uptoBulk,b3Y] at hk h1;omega
   rcases Nat.eq_zero_or_pos len with h0|h0
   .subst h0;exact⟨[],some a,cap,rfl,b4O _,hm,b4O _, .inl rfl⟩
   .have hp:=Ty.size_pos t;have hsp:a.spot=none:=by
     obtain⟨y,c,g1,g2,g3⟩:=I4 0 h0;have hj:c[0]?=some (c[0]'(by omega)):=List.getElem?_eq_getElem (by omega);have:=World.cell?_spot (g3 0 _ hj);simpa [Addr.add] using this
    obtain⟨ab,ao,asp⟩:=a;simp only at hsp;subst hsp;have a9R:∀ i j,((⟨ab,ao,none⟩:Addr).add i).add j=⟨ab,ao+i+j,none⟩:=by
     intro i j;unfold Addr.add;split<;>split<;>simp_all<;>omega
    obtain⟨xs,h1,h2⟩:=a5t (w:=w) (S:=(·<w.heap.size)) t ab len ao (λ i hi=>by
     obtain⟨y,c,g1,g2,g3⟩:=I4 i hi;exact⟨y,c,g1,g2,λ j v hj=>by rw[<-a9R];exact g3 j v hj⟩)
    have bN:ab<w.heap.size:=by
     obtain⟨y,c,g1,g2,g3⟩:=I4 0 h0;have hj:c[0]?=some (c[0]'(by omega)):=List.getElem?_eq_getElem (by omega);have:=g3 0 _ hj;rw[a9R] at this;unfold World.cell? at this;split at this
     .rename_i hh;exact (b4P.1 hh).1
     .cases this
    have hlm:(xs.map t.aQ).length=len:=by simp[h1]
    refine⟨xs,some ⟨ab,ao,none⟩,cap,by rw[hlm],by rw[hlm];exact hl,hm,by rw[hlm];omega, .inr ⟨ab,ao,rfl,bN,h2⟩⟩
 | st s =>
  obtain⟨fs,hu,cM,hf⟩:=qd.st ht;obtain⟨xs,n,hn,rfl,F6,xp,hx⟩:=DataW.trod_struct hu h;obtain rfl:n=fuel:=by omega
  have kr:cs.length=(s.fU.map Ty.size).sum:=by
   rw[F6,FO ht];cases s<;>rfl
  obtain⟨fl,h1,h2⟩:=WE (w:=w) (S:=(·<w.heap.size)) s.fU cs kr (λ i t hi=>by
   have bN:i<fs.size:=by rw[cM];exact (b4B.1 hi).1
   obtain⟨t',b',e',g1,g2,g3⟩:=hf i (fs[i]'bN) (b4R bN);rw[hi] at g1;cases g1;have hy:=hx i (fs[i]'bN) (b4R bN);have hz:xs[i]?=some (xs[i]'(by omega)):=b4j (by omega);rw[hz,FO g2,g3] at hy;refine ih t _ b' e' _ _ g2 hy ?_;have h3:=Yi (d:=(xs[i]'(by omega)).1) (l:=xs.map (·.1)) (b3N.2 ⟨_,b4Z _,rfl⟩);simp only[Rows.uptoBulk] at hk;omega)
  obtain⟨y,hy⟩:=aS.a3C s fl h1;refine⟨y,?_⟩;show Rd w _ (s.aQ y) cs;rw[aS.cA,aS.LU,hy];exact h2
end
end Go.Proofs.YtmjfpcajohhbeaaGreatDoor

set_option maxRecDepth 100000
namespace Go.Proofs.YtmjfpcajohhbeaaGreatDoor
open Go.ChangeShapes Go.WideShapes Go.ChangeAt Go.RowKit
theorem a4q:laidOutB prog=true:=by kernel_rfl
theorem a6h:ownKnob prog.godebug=none:=by kernel_rfl
section
variable {H:Type} {enc:TypeId×Value->H}
theorem Mm{W W':World}{sp:Nat->Bool}(hb:Below W.heap.size W W'):∀ (ts:List TypeId) {vs:List Value} {ds:List (DataW H)} {ps:List MemPlace},(∀ t∈ts,prog.readableRec t=true/\t<prog.types.size) ->
  DataW.TrodAll enc prog W 0 (λ _=>true) true ts vs ds ps->(∀ p∈ps,p.block<W.heap.size)->(∀ p∈ps,sp p.block=true)->DataW.TrodAll enc prog W' 0 sp true ts vs ds ps
 | [],[],[],ps,_,h,_,_=>h
 | t::ts,v::vs,d::ds,ps,ht,h,bN,hsp=>by
  obtain⟨p,q,h1,h2,rfl⟩:=h;refine⟨p,q,?_,?_,rfl⟩
  .exact WideElems.Trod_stays a4q (ht t (by simp)).1 (ht t (by simp)).2 h1 (λ x hx=>hb.same (bN x (by simp[hx]))) (λ x hx=>hsp x (by simp[hx]))
  .exact Mm hb ts (λ t h=>ht t (by simp[h])) h2 (λ x hx=>bN x (by simp[hx])) (λ x hx=>hsp x (by simp[hx]))
 | [],_::_,_,_,_,h,_,_=>h.elim
 | [],[],_::_,_,_,h,_,_=>h.elim
 | _::_,[],_,_,_,h,_,_=>h.elim
 | _::_,_::_,[],_,_,h,_,_=>h.elim
theorem a2M{f:Func}{s:ChangeSpec}{apart fresh handsOn again:Bool}{W W':World}{args:Array Value}{v:Value}{ds gs:List (DataW H)}{before pa pv:List MemPlace}
  (hW:DataW.Whole enc prog f.params.toList s.vars apart W args.toList ds gs before)
  (Z1:∀ (b:Nat) (sp:Nat->Bool) (hd:Bool),DataW.TrodAll enc prog W' b sp hd f.resultTypes.toList (v.resultList f.resultTypes.size) (s.fn H (ds++gs)).results [])
  (dF:∀ sp:Nat->Bool,(∀ p∈before,sp p.block=true)->DataW.TrodAll enc prog W' 0 sp true f.params.toList args.toList (s.fn H (ds++gs)).args pa)
  (Xf:∀ sp:Nat->Bool,(∀ p∈before,sp p.block=true)->DataW.TrodVars enc prog W' sp s.vars (s.fn H (ds++gs)).vars pv)
  (hps:before=pa++pv) (hb:Below W.heap.size W W')
  (hok:∀ (j:Nat) (t:TypeId) (r:Value),f.resultTypes[j]?=some t->(v.resultList f.resultTypes.size)[j]?=some r->Value.okWide prog W' .any 0 t r) :
  s.post enc prog f apart fresh handsOn again W args v W':=by
 have bN:∀ p∈before,p.block<W.heap.size:=λ p hp=>hW.lt p hp;have hold:∀ p∈before,(λ b=>decide (b<W.heap.size)) p.block=true:=λ p hp=>by simpa using bN p hp
 refine⟨ds,gs,before,[],pa,pv,hW,Z1 _ _ _,dF _ hold,Xf _ hold,World.keptBut_mono (λ p hp=>⟨hp,?_⟩) (hb.frame (·∈before)),λ _=>?_⟩
 .rw[hps,b3H] at hp;exact Or.inr hp
 .obtain⟨_,_,_,_,_,hz,hn⟩:=hW;refine⟨hok,_,_,([]++pa)++pv,⟨[]++pa,pv,trodAll_append (dF _ (λ _ _=>rfl)) (Z1 _ _ _),Xf _ (λ _ _=>rfl),rfl,?_,?_⟩,?_⟩
  .intro b off hp;have eY:MemPlace.cell b off∈before:=by rw[hps];simpa using hp
   rw[hb.frozen (bN _ eY)];exact hz b off eY
  .intro ha;have:=hn ha;rw[hps] at this;simpa using this
  .intro p hp _;rw[hps];simpa using hp
def a2X(τ:Ty)(v:Value):Prop:=match τ with
 | .st _=>∃ cs,v = .agg cs
 | _=>v.cells = #[v]
theorem a9m{w:World}{S:Nat->Prop}(τ:Ty)(y:τ.den){v:Value}(hv:a2X τ v)(h:Rd w S (τ.aQ y) v.cells.toList):eK w S ⟨τ,y⟩ v:=by
 cases τ with
 | st s =>
  obtain⟨cs,rfl⟩:=hv;exact⟨cs.toList,by simp,h⟩
 | int k=>simp only[show v.cells = #[v] from hv] at h;exact h
 | bool=>simp only[show v.cells = #[v] from hv] at h;exact h
 | str=>simp only[show v.cells = #[v] from hv] at h;exact h
 | slice t=>simp only[show v.cells = #[v] from hv] at h;exact h
 | mv t=>simp only[show v.cells = #[v] from hv] at h;exact h
 | ptr=>simp only[show v.cells = #[v] from hv] at h;exact h
theorem a1E{w:World}:∀ (ts:List TypeId) (τs:List Ty) {vs:List Value} {ds:List (DataW H)} {ps:List MemPlace},aV (λ T τ=>∃ b e,af GM T=some (τ,b,e)) ts τs ->
  DataW.TrodAll enc prog w 0 (λ _=>true) true ts vs ds ps->(∀ d∈ds,Rows.uptoBulk d<=1048576)->(∀ (j:Nat) t v,ts[j]?=some t->vs[j]?=some v->Value.okWide prog w .any 0 t v\/∃ b,Value.okWide prog w .any b t v) ->
  ∃ Rp:List TV,Rp.map TV.τ=τs/\ds.length=τs.length/\aV (BU prog w (·<w.heap.size)) (Rp.map .val) vs
 | [],[],[],[],_,_,_,_,_=>⟨[],rfl,rfl,U⟩
 | T::ts,τ::τs,v::vs,d::ds,ps,ht,h,hk,hv=>by
  obtain⟨p,q,⟨n,h1⟩,h2,rfl⟩:=h;obtain⟨⟨b,e,hT⟩,UD⟩:=ht;obtain⟨y,hy⟩:=a2Q n τ T b e _ _ hT h1 (hk d (by simp));obtain⟨Rp,g1,g2,g3⟩:=a1E ts τs UD h2 (λ d hd=>hk d (by simp[hd])) (λ j t v hj I3=>hv (j+1) t v hj I3);refine⟨⟨τ,y⟩::Rp,by simp[g1],by simp[g2],⟨?_,g3⟩⟩;refine a9m τ y ?_ hy;have Qe:=hv 0 T v rfl rfl;have key:∀ b,Value.okWide prog w .any b T v->a2X τ v:=by
   intro b' hb;cases τ with
   | st s =>
    obtain⟨fs,hu,_⟩:=qd.st hT;simp only[Value.okWide,hu] at hb;obtain⟨cs,rfl,_⟩:=hb;exact⟨cs,rfl⟩
   | int k =>
    have hu:=qd.int hT;simp only[Value.okWide,hu,Cell.okWide,Cell.ok] at hb;cases v<;>first|rfl|cases hb
   | bool =>
    have hu:=qd.bool hT;simp only[Value.okWide,hu,Cell.okWide,Cell.ok] at hb;cases v<;>first|rfl|cases hb
   | str =>
    have hu:=qd.str hT;simp only[Value.okWide,hu,Cell.okWide,Cell.ok] at hb;cases v<;>first|rfl|cases hb
   | mv t=>exact (qd.a7Z hT).elim
   | ptr =>
    obtain⟨t,hu⟩:=qd.ptr hT;simp only[Value.okWide,hu,Cell.okWide,Cell.ok] at hb;cases v<;>first|rfl|cases hb
   | slice t =>
    have hu:=(qd.slice hT).1;simp only[Value.okWide,hu,Cell.okWide,Cell.ok] at hb;cases v<;>first|rfl|cases hb
  rcases Qe with h|⟨b',h⟩
  .exact key _ h
  .exact key _ h
 | [],_::_,_,_,_,h,_,_,_=>h.elim
 | _::_,[],_,_,_,h,_,_,_=>h.elim
 | [],[],_::_,_,_,_,h,_,_=>h.elim
 | [],[],[],_::_,_,_,h,_,_=>h.elim
 | _::_,_::_,[],_,_,_,h,_,_=>h.elim
 | _::_,_::_,_::_,[],_,_,h,_,_=>h.elim
noncomputable def a9P(g:Nat):Bool:=g<prog.globals.size&&match ((begin prog (λ _ _=>0) default).world.heap[g]?).bind Obj.row? with
 | some (zero,t)=>zero.size == 1&&prog.buildable t&&(match prog.cellTypes prog.depth t with|some [u]=>u == t|_=>false)&&(match prog.underlying t with|some (.int .i64)=>true|_=>false)
 | none=>false
theorem a5R:a3H.all a9P=true:=by kernel_rfl
theorem WR{W:World}(h:W.ShapedOpen prog):yU W (·<W.heap.size):=⟨λ _ h=>h,λ g hg=>by
 have hk:=List.all_eq_true.1 a5R g hg;unfold a9P at hk;rw[Bool.and_eq_true] at hk;obtain⟨h1,h2⟩:=hk;split at h2
 .rename_i zero t h0;simp only[b3J] at h2;obtain⟨⟨⟨k1,k2⟩,k3⟩,k4⟩:=h2;have k3':prog.cellTypes prog.depth t=some [t]:=by
   split at k3
   .rename_i u hu;rw[hu,eq_of_beq k3]
   .cases k3
  have k4':prog.underlying t=some (.int .i64):=by
   split at k4
   .rename_i hu;exact hu
   .cases k4
  obtain⟨m,hm⟩:=cell_of_shapedOpen_int h (of_decide_eq_true h1) h0 (eq_of_beq k1) k2 k3' k4';refine⟨?_,m,hm⟩;unfold World.cell? at hm;rcases Nat.lt_or_ge g W.heap.size with q|q
  .exact q
  .rw[show W.heap[g]?=none from b5d q] at hm;cases hm
 .cases h2⟩
theorem a7P{n:FuncId}{fn:Func}{s:ChangeSpec}{τs:List Ty}{handsOn again:Bool}(hts:aV (λ T τ=>∃ b e,af GM T=some (τ,b,e)) fn.params.toList τs)
  (a0W:∀ t∈fn.params.toList,prog.readableRec t=true/\t<prog.types.size) (hr:fn.resultTypes = #[a0w]) (Xf:s.vars=[])
  (hs:∀ ds:List (DataW H),ds.length=τs.length->s.fn H ds={ results:=[.lit (.bool true)],args:=ds })
  (b2q:∀ Rp:List TV,Rp.map TV.τ=τs->bd prog n (Rp.map .val) (·=[⟨.bool,true⟩]))
  {W:World} {base:Nat} {args:Array Value} {ds gs:List (DataW H)} {before:List MemPlace}
  (a2q:∀ (j:Nat) t v,fn.params[j]?=some t->args[j]?=some v->Value.okWide prog W .any base t v)
  (hW:DataW.Whole enc prog fn.params.toList s.vars false W args.toList ds gs before) (hk:Rows.uptoSmall H (ds++gs)=true) (HM:yU W (·<W.heap.size)) :
  Calls prog n args W λ e W'=>∃ v,e = .returned v/\s.post enc prog fn false true handsOn again W args v W':=by
 have hW':=hW;obtain⟨p,q,hA,hV,hpq,hfz,cU⟩:=hW;rw[Xf] at hV;obtain⟨rfl,rfl⟩:=trodVars_none hV;have a3M:∀ d∈ds,Rows.uptoBulk d<=1048576:=by
  intro d hd;have h1:=Yi hd;simp only[Rows.uptoSmall,b4W,b3E] at hk;omega
 obtain⟨Rp,h1,h2,h3⟩:=a1E fn.params.toList τs hts hA a3M (λ j t v hj I3 => .inr ⟨base,a2q j t v (by simpa using hj) (by simpa using I3)⟩);have iW:=b2q Rp h1 W (·<W.heap.size) args.toList HM h3;rw[show args.toList.toArray=args by simp] at iW;refine iW.mono λ e W'=>?_;rintro⟨x,S',res,rfl,rfl,fY,hS1,hS2,Z1⟩;have hx:x = .bool true:=by
  have hx:eK W' S' ⟨.bool,true⟩ x:=Z1;have hx:[x]=[Value.bool true]:=hx;simpa using hx
 subst hx;have hb:Below W.heap.size W W':=⟨fY.os,fY.tape,fY.output,fY.size,λ k hk=>fY.block k hk (λ h=>h)⟩;refine⟨_,rfl,a2M (pa:=p) (pv:=[]) hW' ?_ ?_ ?_ hpq hb ?_⟩
 .intro b sp hd;rw[hs _ (by simpa using h2),hr];exact trodAll_mk1 ⟨1,by
   have hu:prog.underlying a0w=some .bool:=by kernel_rfl
   simp only[DataW.trod,Value.cells];rw[hu]⟩
 .intro sp hsp;rw[hs _ (by simpa using h2),List.append_nil];have bN:∀ x∈before,x.block<W.heap.size:=λ x hx=>hW'.lt x hx;rw[hpq] at bN hsp;exact Mm hb _ a0W hA (λ x hx=>bN x (by simp[hx])) (λ x hx=>hsp x (by simp[hx]))
 .intro sp hsp;rw[hs _ (by simpa using h2),Xf];rfl
 .refine ok_one hr rfl ?_;have hu:prog.underlying a0w=some .bool:=by kernel_rfl
  simp[Value.okWide,hu,Cell.okWide,Cell.ok]
end
end Go.Proofs.YtmjfpcajohhbeaaGreatDoor

namespace Go.Proofs.YtmjfpcajohhbeaaGreatDoor
def aF{α:Type}(f:α->Nat):List α->Nat
 | []=>0
 | x::xs=>f x+aF f xs
section
variable {α:Type} (f:α->Nat)
theorem ft(d:α):∀ (xs:List α) (k:Nat),k<xs.length->aF f (xs.take (k+1))=aF f (xs.take k)+f (xs.getD k d)
 | [],k,h=>by simp at h
 | x::xs,0,h=>by simp[aF]
 | x::xs,k+1,h=>by
  have:=ft d xs k (by simpa using h);simp[aF] at this ⊢;omega
theorem b9:∀ (xs:List α) (k:Nat),aF f (xs.take k)<=aF f xs
 | [],k=>by simp
 | x::xs,0=>by simp[aF]
 | x::xs,k+1=>by
  have:=b9 xs k;simp[aF];omega
theorem gZ(xs:List α)(k:Nat):xs.length<=k->aF f (xs.take k)=aF f xs:=λ h=>by rw[b4a h]
theorem ij(xs:List α):aF f (xs.take 0)=0:=by simp[aF]
theorem eJ(d:α):∀ (xs:List α) (k:Nat),k<xs.length->f (xs.getD k d)<=aF f xs
 | [],k,h=>by simp at h
 | x::xs,0,h=>by simp[aF]
 | x::xs,k+1,h=>by
  have:=eJ d xs k (by simpa using h);simp[aF] at this ⊢;omega
end
def dX(t:Nat)(left:Int):Int:=if (t:Int)<=left then left - t else -1
theorem dK(t:Nat)(left:Int):((t:Int)<=left/\dX t left=left - t)\/(left<(t:Int)/\dX t left = -1):=by
 unfold dX;split
 .exact .inl ⟨by assumption,rfl⟩
 .exact .inr ⟨by omega,rfl⟩
noncomputable def bC{α:Type}(a b:α):Bool := @decide (a=b) (Classical.propDecidable _)
theorem nv{α:Type}{a b:α}(h:a=b):true=bC a b:=by simp[bC,h]
theorem fC{α:Type}{a b:α}(h:a≠b):false=bC a b:=by simp[bC,h]
@[simp] theorem iA{α:Type}{a b:α}:bC a b=true↔a=b:=by simp[bC]
@[simp] theorem a5L{α:Type}{a b:α}:bC a b=false↔a≠b:=by simp[bC]
@[simp] theorem b1u{α:Type}{a:α}:bC a a=true:=by simp[bC]
section
variable {α:Type}
theorem cr(d:α):∀ (xs:List α) (k:Nat),k<xs.length->xs.take (k+1)=xs.take k++[xs.getD k d]
 | [],k,h=>by simp at h
 | x::xs,0,h=>by simp
 | x::xs,k+1,h=>by
  have:=cr d xs k (by simpa using h);simp at this ⊢;exact this
theorem gh(d:α)(xs ys:List α)(k:Nat)(h1:k<xs.length)(h2:k<ys.length)(h:xs.take k=ys.take k)(e:xs.getD k d=ys.getD k d):xs.take (k+1)=ys.take (k+1):=by
 rw[cr d xs k h1,cr d ys k h2,h,e]
theorem dy(xs ys:List α)(k:Nat)(h1:xs.length<=k)(h2:ys.length<=k)(h:xs.take k=ys.take k):xs=ys:=by
 rwa [b4a h1,b4a h2] at h
def fill(xs:List α)(k:Nat)(z:α):List α:=xs.take k++List.replicate (xs.length - k) z
theorem mu(xs:List α)(z:α):List.replicate xs.length z=fill xs 0 z:=by simp[fill]
theorem fj(xs:List α)(z:α)(k:Nat)(h:xs.length<=k):fill xs k z=xs:=by
 simp[fill,b4a h,Nat.sub_eq_zero_of_le h]
theorem iJ(xs:List α)(z:α)(k:Nat):k<=xs.length->(fill xs k z).length=xs.length:=by
 intro h;simp[fill];omega
theorem fk(xs:List α)(z d:α)(k:Nat)(h:k<xs.length):(fill xs k z).set k (xs.getD k d)=fill xs (k+1) z:=by
 unfold fill;rw[cr d xs k h,List.set_append_right _ _ (by simp;omega)];have e:xs.length - k=(xs.length - (k+1))+1:=by omega
 have e2:(List.take k xs).length=k:=by simp;omega
 rw[e2,Nat.sub_self,e,b5C,b6P];simp
end
def iK{α:Type}(f:α->Nat):List α->Nat
 | []=>0
 | x::xs=>max (f x) (iK f xs)
section
variable {α:Type} (f:α->Nat)
theorem ud(d:α):∀ (xs:List α) (k:Nat),k<xs.length->iK f (xs.take (k+1))=max (iK f (xs.take k)) (f (xs.getD k d))
 | [],k,h=>by simp at h
 | x::xs,0,h=>by simp[iK]
 | x::xs,k+1,h=>by
  have:=ud d xs k (by simpa using h);simp[iK] at this ⊢;omega
theorem jc:∀ (xs:List α) (k:Nat),iK f (xs.take k)<=iK f xs
 | [],k=>by simp
 | x::xs,0=>by simp[iK]
 | x::xs,k+1=>by
  have:=jc xs k;simp[iK];omega
theorem E9(xs:List α)(k:Nat):xs.length<=k->iK f (xs.take k)=iK f xs:=λ h=>by rw[b4a h]
theorem XN(xs:List α):iK f (xs.take 0)=0:=by simp[iK]
theorem uc(d:α):∀ (xs:List α) (k:Nat),k<xs.length->f (xs.getD k d)<=iK f xs
 | [],k,h=>by simp at h
 | x::xs,0,h=>by simp[iK];omega
 | x::xs,k+1,h=>by
  have:=uc d xs k (by simpa using h);simp[iK] at this ⊢;omega
end
def bg{α:Type}(f:α->Bool):List α->Bool
 | []=>true
 | x::xs=>f x&&bg f xs
section
variable {α:Type} (f:α->Bool)
theorem OT:∀ (xs ys:List α),bg f (xs++ys)=(bg f xs&&bg f ys)
 | [],ys=>by simp[bg]
 | x::xs,ys=>by simp[bg,OT xs ys,b6O]
theorem dk(d:α)(xs:List α)(k:Nat)(h:k<xs.length):bg f (xs.take (k+1))=(bg f (xs.take k)&&f (xs.getD k d)):=by
 rw[cr d xs k h,OT];simp[bg]
theorem dL(d:α):∀ (xs:List α) (k:Nat),k<xs.length->f (xs.getD k d)=false->bg f xs=false
 | [],k,h,_=>by simp at h
 | x::xs,0,h,e=>by simp at e;simp[bg,e]
 | x::xs,k+1,h,e=>by
  have:=dL d xs k (by simpa using h) (by simpa using e);simp[bg,this]
theorem dU(xs:List α)(k:Nat):xs.length<=k->bg f (xs.take k)=bg f xs:=λ h=>by rw[b4a h]
theorem all_zero(xs:List α):bg f (xs.take 0)=true:=by simp[bg]
theorem Zr(d:α):∀ (xs:List α) (k:Nat),k<xs.length->bg f xs=true->f (xs.getD k d)=true
 | [],k,h,_=>by simp at h
 | x::xs,0,h,e=>by simp[bg] at e;simp[e.1]
 | x::xs,k+1,h,e=>by
  simp only[bg,Bool.and_eq_true] at e;have:=Zr d xs k (by simpa using h) e.2;simpa using this
end
end Go.Proofs.YtmjfpcajohhbeaaGreatDoor

set_option maxRecDepth 4000
set_option maxHeartbeats 4000000
namespace Go.Proofs.YtmjfpcajohhbeaaGreatDoor
noncomputable section
mutual
def av:J->Nat
 | ⟨_,_,M⟩=>M.length+zu M
def zu:List J->Nat
 | []=>0
 | k::ks=>av k+zu ks
end
def GI:∀ xs,zu xs=aF av xs
 | []=>rfl
 | x::xs=>by rw[zu,aF,GI xs]
def j8(x:J):av x=(x.M.length+aF av x.M):=by
 cases x;simp[av,GI];try omega
def xT(n:Nat):aH:=⟨si,[.v (.st .expr), .v (.int .i64)],λ (x:J) (left:Int)=>⟨(some (cf x<n/\0<=left/\left<=1048576),[⟨(.int .i64),dX (av x) left⟩])⟩⟩
def Je:aH:=⟨si,[.v (.st .expr), .v (.int .i64)],λ (x:J) (left:Int)=>⟨(some (0<=left/\left<=1048576),[⟨(.int .i64),dX (av x) left⟩])⟩⟩
def tN(n:Nat):aH:=⟨pd,[.v (.slice (.st .expr)), .v (.int .i64)],λ (xs:List J) (left:Int)=>⟨(some (cf xs<n/\0<=left/\left<=1048576),[⟨(.int .i64),dX (xs.length+aF av xs) left⟩])⟩⟩
def xF:aH:=⟨pd,[.v (.slice (.st .expr)), .v (.int .i64)],λ (xs:List J) (left:Int)=>⟨(some (0<=left/\left<=1048576),[⟨(.int .i64),dX (xs.length+aF av xs) left⟩])⟩⟩
def Xy(x:J)(left:Int):Nat->aE:=λ _ => .none
def Vr(n:Nat)(hE:aC [tN n]):aH.Good (xT (n+1)):=by
 refine⟨au oW rfl (by decide),?_⟩;show ∀ (x:J) (left:Int),(cf x<n+1/\0<=left/\left<=1048576)->bd prog si [.val ⟨(.st .expr),x⟩, .val ⟨(.int .i64),left⟩] (·=[⟨(.int .i64),dX (av x) left⟩]);intro x left hp;refine aU (wr:=[]) (cl:=[]) (ro:=[2]) hE oW Pc (Xy x left) (let v0:=dX (x.M.length+aF av x.M) left;((x.M.length<=140737488355328->((cf x.M<n/\0<=left/\left<=1048576)/\(O v0->(((decide (v0<(0:Int)))=true->(-1:Int)=(dX (av x) left))/\((decide (v0<(0:Int)))=false->v0=(dX (av x) left)))))))) (by kernel_rfl) ?_;have f0:=dK (x.M.length+aF av x.M) (left);have fz:=dK ((x.M.length+aF av x.M)) left;have f0k:=dn x;refine λ _=>⟨?_,λ _=>⟨λ _=>?_,λ _=>?_⟩⟩;all_goals try and_intros
 all_goals try rw[j8]
 all_goals first|rfl|trivial|omega|(simp only[b3E,b3D,ak,O,bQ,cw,bI,aY] at *;omega)|(simp[ak,O] at *;omega)|grind
def UO(xs:List J)(left:Int):Nat->aE:=(λ zb=>if Nat.beq zb 0 then .mk (Nat) (λ k=>k<=xs.length/\(xs.length+aF av (xs.take k):Int)<=left) (λ k=>xs.length - k) [] [6,7,8,9,10,11] (λ k=>[(5, .aI ⟨(.int .i64),((k:Int):Int)⟩),(1, .aI ⟨(.int .i64),(left - (xs.length+aF av (xs.take k):Int):Int)⟩)]) [] (λ k=>[]) [] [] (λ k=>λ _ => .none) else .none)
def SV(n:Nat)(hE:aC [xT n]):aH.Good (tN (n+1)):=by
 refine⟨au nh rfl (by decide),?_⟩;show ∀ (xs:List J) (left:Int),(cf xs<n+1/\0<=left/\left<=1048576)->bd prog pd [.val ⟨(.slice (.st .expr)),xs⟩, .val ⟨(.int .i64),left⟩] (·=[⟨(.int .i64),dX (xs.length+aF av xs) left⟩]);intro xs left hp;refine aU (wr:=[]) (cl:=[]) (ro:=[]) hE nh ME (UO xs left) (let v0:=(xs.length:Int);let v1:=dX (xs.length+aF av xs) left;let v2:=decide ((left - v0)<(0:Int));((O v0->(O (left - v0)/\((v2=true->(-1:Int)=v1)/\(v2=false->((∃ k1:Nat,let v3:=(xs.length+aF av (xs.take k1):Int);((k1<=xs.length/\v3<=left)/\((xs=xs/\((left - v0)=(left - v3)/\((0:Int)=(k1:Int)/\True)))/\True)))/\(∀ k1:Nat,let v5:=(xs.length+aF av (xs.take k1):Int);let v3:=left - v5;let v4:=dX (av (xs.getD k1 zE)) v3;((k1<=xs.length/\v5<=left)->(O v0->(((decide ((k1:Int)<v0))=true->(ak (k1:Int) xs.length/\((cf (xs.getD k1 zE)<n/\0<=v3/\v3<=1048576)/\(O v4->(((decide (v4<(0:Int)))=true->(-1:Int)=v1)/\((decide (v4<(0:Int)))=false->(O ((k1:Int)+(1:Int))/\(∃ k2:Nat,let v6:=(xs.length+aF av (xs.take k2):Int);((k2<=xs.length/\v6<=left)/\(xs.length - k2<xs.length - k1/\((xs=xs/\(v4=(left - v6)/\(((k1:Int)+(1:Int))=(k2:Int)/\True)))/\True)))))))))))/\((decide ((k1:Int)<v0))=false->v3=v1)))))))))))) (by kernel_rfl) ?_;have f0:=dK (xs.length+aF av xs) left;have f1:=ij av xs;refine λ _=>⟨?_,λ _=>?_,λ _=>⟨⟨0,?_,⟨rfl,?_,?_,U⟩,U⟩,λ k1 _=>have a9z:=ft av zE xs k1;have a9A:=b9 av xs k1;have a9B:=b9 av xs (k1+1);have a9C:=gZ av xs k1;have a9D:=cb zE xs k1;have b3l:=dK (av (xs.getD k1 zE)) (left - (xs.length+aF av (xs.take k1):Int));λ _=>⟨λ _=>⟨?_,?_,λ _=>⟨λ _=>?_,λ _=>⟨?_,k1+1,?_,?_,⟨rfl,?_,?_,U⟩,U⟩⟩⟩,λ _=>?_⟩⟩⟩;all_goals try and_intros
 all_goals first|rfl|trivial|omega|(simp only[b3E,b3D,ak,O,bQ,cw,bI,aY] at *;omega)|(simp[ak,O] at *;omega)|grind
def Ft :∀ n,aC [xT n,tN n]
 | 0=>⟨⟨au oW rfl (by decide),λ _ _ h=>absurd h.1 (b4y _)⟩,⟨au nh rfl (by decide),λ _ _ h=>absurd h.1 (b4y _)⟩,U⟩
 | n+1=>by
  have ih:=Ft  n;exact⟨Vr n ⟨ih.2.1,U⟩,SV n ⟨ih.1,U⟩,U⟩
def PR :aH.Good Je :=
 ⟨au oW rfl (by decide),λ x left hp=>(Ft  (cf x+1)).1.2 x left (⟨b4v _,hp⟩)⟩
def Au :aH.Good xF :=
 ⟨au nh rfl (by decide),λ xs left hp=>(Ft  (cf xs+1)).2.1.2 xs left (⟨b4v _,hp⟩)⟩
def tF:aH:=⟨ur,[.v (.slice (.int .i64)), .v (.int .i64)],λ (xs:List Int) (left:Int)=>⟨(some (0<=left/\left<=1048576),[⟨(.int .i64),dX xs.length left⟩])⟩⟩
def Sn(xs:List Int)(left:Int):Nat->aE:=λ _ => .none
def QO(hE:aC []):aH.Good tF:=by
 refine⟨au B8 rfl (by decide),?_⟩;show ∀ (xs:List Int) (left:Int),(0<=left/\left<=1048576)->bd prog ur [.val ⟨(.slice (.int .i64)),xs⟩, .val ⟨(.int .i64),left⟩] (·=[⟨(.int .i64),dX xs.length left⟩]);intro xs left hp;refine aU (wr:=[]) (cl:=[]) (ro:=[]) hE B8 KN (Sn xs left) (let v0:=left - ((xs.length:Int));((O ((xs.length:Int))->(O v0/\(((decide (v0<(0:Int)))=true->(-1:Int)=(dX xs.length left))/\((decide (v0<(0:Int)))=false->v0=(dX xs.length left))))))) (by kernel_rfl) ?_;have f0:=dK xs.length left;refine λ _=>⟨?_,λ _=>?_,λ _=>?_⟩;all_goals try and_intros
 all_goals first|rfl|trivial|omega|(simp only[b3E,b3D,ak,O,bQ,cw,bI,aY] at *;omega)|(simp[ak,O] at *;omega)|grind
def K3:aH.Good tF:=QO trivial
def aZ(x:ae):Nat:=(x.path.length)+(x.az.length+aF av x.az)+(x.bf.length+aF av x.bf)
def fG(x:ae):aZ x=(x.path.length)+(x.az.length+aF av x.az)+(x.bf.length+aF av x.bf):=rfl
def oh:aH:=⟨oB,[.v (.st .proofStep), .v (.int .i64)],λ (x:ae) (left:Int)=>⟨(some (0<=left/\left<=1048576),[⟨(.int .i64),dX (aZ x) left⟩])⟩⟩
def Ll(x:ae)(left:Int):Nat->aE:=λ _ => .none
def JK(hE:aC [tF,xF]):aH.Good oh:=by
 refine⟨au vH rfl (by decide),?_⟩;show ∀ (x:ae) (left:Int),(0<=left/\left<=1048576)->bd prog oB [.val ⟨(.st .proofStep),x⟩, .val ⟨(.int .i64),left⟩] (·=[⟨(.int .i64),dX (aZ x) left⟩]);intro x left hp;refine aU (wr:=[]) (cl:=[]) (ro:=[2]) hE vH FH (Ll x left) (let v2:=dX x.path.length left;let v0:=dX (x.az.length+aF av x.az) v2;let v1:=dX (x.bf.length+aF av x.bf) v0;let v3:=dX (aZ x) left;let v4:=(0:Int);((x.path.length<=140737488355328->((0<=left/\left<=1048576)/\(O v2->(((decide (v2<v4))=true->(-1:Int)=v3)/\((decide (v2<v4))=false->(x.az.length<=140737488355328->((0<=v2/\v2<=1048576)/\(O v0->(((decide (v0<v4))=true->(-1:Int)=v3)/\((decide (v0<v4))=false->(x.bf.length<=140737488355328->((0<=v0/\v0<=1048576)/\(O v1->(((decide (v1<v4))=true->(-1:Int)=v3)/\((decide (v1<v4))=false->v1=v3))))))))))))))))) (by kernel_rfl) ?_;have f0:=dK (x.path.length) (left);have f1:=dK (x.az.length+aF av x.az) (dX (x.path.length) left);have f2:=dK (x.bf.length+aF av x.bf) (dX (x.az.length+aF av x.az) (dX (x.path.length) left));have fz:=dK ((x.path.length)+(x.az.length+aF av x.az)+(x.bf.length+aF av x.bf)) left;refine λ _=>⟨?_,λ _=>⟨λ _=>?_,λ _ _=>⟨?_,λ _=>⟨λ _=>?_,λ _ _=>⟨?_,λ _=>⟨λ _=>?_,λ _=>?_⟩⟩⟩⟩⟩⟩;all_goals try and_intros
 all_goals try rw[fG]
 all_goals first|rfl|trivial|omega|(simp only[b3E,b3D,ak,O,bQ,cw,bI,aY] at *;omega)|(simp[ak,O] at *;omega)|grind
def F0:aH.Good oh:=JK ⟨K3,Au,U⟩
def mG:aH:=⟨mS,[.v (.slice (.st .proofStep)), .v (.int .i64)],λ (xs:List ae) (left:Int)=>⟨(some (0<=left/\left<=1048576),[⟨(.int .i64),dX (xs.length+aF aZ xs) left⟩])⟩⟩
def Ji(xs:List ae)(left:Int):Nat->aE:=(λ zb=>if Nat.beq zb 0 then .mk (Nat) (λ k=>k<=xs.length/\(xs.length+aF aZ (xs.take k):Int)<=left) (λ k=>xs.length - k) [] [6,7,8,9,10,11] (λ k=>[(5, .aI ⟨(.int .i64),((k:Int):Int)⟩),(1, .aI ⟨(.int .i64),(left - (xs.length+aF aZ (xs.take k):Int):Int)⟩)]) [] (λ k=>[]) [] [] (λ k=>λ _ => .none) else .none)
def H4(hE:aC [oh]):aH.Good mG:=by
 refine⟨au sI rfl (by decide),?_⟩;show ∀ (xs:List ae) (left:Int),(0<=left/\left<=1048576)->bd prog mS [.val ⟨(.slice (.st .proofStep)),xs⟩, .val ⟨(.int .i64),left⟩] (·=[⟨(.int .i64),dX (xs.length+aF aZ xs) left⟩]);intro xs left hp;refine aU (wr:=[]) (cl:=[]) (ro:=[]) hE sI Ep (Ji xs left) (let v0:=(xs.length:Int);let v1:=ae.mk (0:Int) false [] [] [];let v2:=dX (xs.length+aF aZ xs) left;let v3:=decide ((left - v0)<(0:Int));((O v0->(O (left - v0)/\((v3=true->(-1:Int)=v2)/\(v3=false->((∃ k1:Nat,let v4:=(xs.length+aF aZ (xs.take k1):Int);((k1<=xs.length/\v4<=left)/\((xs=xs/\((left - v0)=(left - v4)/\((0:Int)=(k1:Int)/\True)))/\True)))/\(∀ k1:Nat,let v6:=(xs.length+aF aZ (xs.take k1):Int);let v4:=left - v6;let v5:=dX (aZ (xs.getD k1 v1)) v4;((k1<=xs.length/\v6<=left)->(O v0->(((decide ((k1:Int)<v0))=true->(ak (k1:Int) xs.length/\((0<=v4/\v4<=1048576)/\(O v5->(((decide (v5<(0:Int)))=true->(-1:Int)=v2)/\((decide (v5<(0:Int)))=false->(O ((k1:Int)+(1:Int))/\(∃ k2:Nat,let v7:=(xs.length+aF aZ (xs.take k2):Int);((k2<=xs.length/\v7<=left)/\(xs.length - k2<xs.length - k1/\((xs=xs/\(v5=(left - v7)/\(((k1:Int)+(1:Int))=(k2:Int)/\True)))/\True)))))))))))/\((decide ((k1:Int)<v0))=false->v4=v2)))))))))))) (by kernel_rfl) ?_;have f0:=dK (xs.length+aF aZ xs) left;have f1:=ij aZ xs;refine λ _=>⟨?_,λ _=>?_,λ _=>⟨⟨0,?_,⟨rfl,?_,?_,U⟩,U⟩,λ k1 _=>have a9z:=ft aZ (ae.mk (0:Int) false [] [] []) xs k1;have a9A:=b9 aZ xs k1;have a9B:=b9 aZ xs (k1+1);have a9C:=gZ aZ xs k1;have a9D:=dK (aZ (xs.getD k1 (ae.mk (0:Int) false [] [] []))) (left - (xs.length+aF aZ (xs.take k1):Int));λ _=>⟨λ _=>⟨?_,?_,λ _=>⟨λ _=>?_,λ _=>⟨?_,k1+1,?_,?_,⟨rfl,?_,?_,U⟩,U⟩⟩⟩,λ _=>?_⟩⟩⟩;all_goals try and_intros
 all_goals first|rfl|trivial|omega|(simp only[b3E,b3D,ak,O,bQ,cw,bI,aY] at *;omega)|(simp[ak,O] at *;omega)|grind
def EF:aH.Good mG:=H4 ⟨F0,U⟩
def bL(x:ag):Nat:=(av x.left)+(av x.right)+(x.steps.length+aF aZ x.steps)
def kR(x:ag):bL x=(av x.left)+(av x.right)+(x.steps.length+aF aZ x.steps):=rfl
def xD:aH:=⟨yc,[.v (.st .claim), .v (.int .i64)],λ (x:ag) (left:Int)=>⟨(some (0<=left/\left<=1048576),[⟨(.int .i64),dX (bL x) left⟩])⟩⟩
def UN(x:ag)(left:Int):Nat->aE:=λ _ => .none
def SU(hE:aC [Je,mG]):aH.Good xD:=by
 refine⟨au Ea rfl (by decide),?_⟩;show ∀ (x:ag) (left:Int),(0<=left/\left<=1048576)->bd prog yc [.val ⟨(.st .claim),x⟩, .val ⟨(.int .i64),left⟩] (·=[⟨(.int .i64),dX (bL x) left⟩]);intro x left hp;refine aU (wr:=[]) (cl:=[]) (ro:=[2]) hE Ea MD (UN x left) (let v2:=dX (av x.left) left;let v0:=dX (av x.right) v2;let v1:=dX (x.steps.length+aF aZ x.steps) v0;let v3:=dX (bL x) left;let v4:=(0:Int);(((0<=left/\left<=1048576)/\(O v2->(((decide (v2<v4))=true->(-1:Int)=v3)/\((decide (v2<v4))=false->((0<=v2/\v2<=1048576)/\(O v0->(((decide (v0<v4))=true->(-1:Int)=v3)/\((decide (v0<v4))=false->(x.steps.length<=140737488355328->((0<=v0/\v0<=1048576)/\(O v1->(((decide (v1<v4))=true->(-1:Int)=v3)/\((decide (v1<v4))=false->v1=v3))))))))))))))) (by kernel_rfl) ?_;have f0:=dK (av x.left) (left);have f1:=dK (av x.right) (dX (av x.left) left);have f2:=dK (x.steps.length+aF aZ x.steps) (dX (av x.right) (dX (av x.left) left));have fz:=dK ((av x.left)+(av x.right)+(x.steps.length+aF aZ x.steps)) left;refine⟨?_,λ _=>⟨λ _=>?_,λ _=>⟨?_,λ _=>⟨λ _=>?_,λ _ _=>⟨?_,λ _=>⟨λ _=>?_,λ _=>?_⟩⟩⟩⟩⟩⟩;all_goals try and_intros
 all_goals try rw[kR]
 all_goals first|rfl|trivial|omega|(simp only[b3E,b3D,ak,O,bQ,cw,bI,aY] at *;omega)|(simp[ak,O] at *;omega)|grind
def Nf:aH.Good xD:=SU ⟨PR,EF,U⟩
def tE:aH:=⟨uq,[.v (.slice (.st .claim)), .v (.int .i64)],λ (xs:List ag) (left:Int)=>⟨(some (0<=left/\left<=1048576),[⟨(.int .i64),dX (xs.length+aF bL xs) left⟩])⟩⟩
def Sm(xs:List ag)(left:Int):Nat->aE:=(λ zb=>if Nat.beq zb 0 then .mk (Nat) (λ k=>k<=xs.length/\(xs.length+aF bL (xs.take k):Int)<=left) (λ k=>xs.length - k) [] [6,7,8,9,10,11] (λ k=>[(5, .aI ⟨(.int .i64),((k:Int):Int)⟩),(1, .aI ⟨(.int .i64),(left - (xs.length+aF bL (xs.take k):Int):Int)⟩)]) [] (λ k=>[]) [] [] (λ k=>λ _ => .none) else .none)
def QN(hE:aC [xD]):aH.Good tE:=by
 refine⟨au B7 rfl (by decide),?_⟩;show ∀ (xs:List ag) (left:Int),(0<=left/\left<=1048576)->bd prog uq [.val ⟨(.slice (.st .claim)),xs⟩, .val ⟨(.int .i64),left⟩] (·=[⟨(.int .i64),dX (xs.length+aF bL xs) left⟩]);intro xs left hp;refine aU (wr:=[]) (cl:=[]) (ro:=[]) hE B7 KM (Sm xs left) (let v1:=(xs.length:Int);let v2:=dX (xs.length+aF bL xs) left;let v3:=(0:Int);let v0:=ag.mk zE zE v3 v3 [];((O v1->(O (left - v1)/\(((decide ((left - v1)<v3))=true->(-1:Int)=v2)/\((decide ((left - v1)<v3))=false->((∃ k1:Nat,let v4:=(xs.length+aF bL (xs.take k1):Int);((k1<=xs.length/\v4<=left)/\((xs=xs/\((left - v1)=(left - v4)/\(v3=(k1:Int)/\True)))/\True)))/\(∀ k1:Nat,let v6:=(xs.length+aF bL (xs.take k1):Int);let v4:=left - v6;let v5:=dX (bL (xs.getD k1 v0)) v4;((k1<=xs.length/\v6<=left)->(O v1->(((decide ((k1:Int)<v1))=true->(ak (k1:Int) xs.length/\((0<=v4/\v4<=1048576)/\(O v5->(((decide (v5<v3))=true->(-1:Int)=v2)/\((decide (v5<v3))=false->(O ((k1:Int)+(1:Int))/\(∃ k2:Nat,let v7:=(xs.length+aF bL (xs.take k2):Int);((k2<=xs.length/\v7<=left)/\(xs.length - k2<xs.length - k1/\((xs=xs/\(v5=(left - v7)/\(((k1:Int)+(1:Int))=(k2:Int)/\True)))/\True)))))))))))/\((decide ((k1:Int)<v1))=false->v4=v2)))))))))))) (by kernel_rfl) ?_;have f0:=dK (xs.length+aF bL xs) left;have f1:=ij bL xs;refine λ _=>⟨?_,λ _=>?_,λ _=>⟨⟨0,?_,⟨rfl,?_,?_,U⟩,U⟩,λ k1 _=>have a9z:=ft bL (ag.mk zE zE (0:Int) (0:Int) []) xs k1;have a9A:=b9 bL xs k1;have a9B:=b9 bL xs (k1+1);have a9C:=gZ bL xs k1;have a9D:=dK (bL (xs.getD k1 (ag.mk zE zE (0:Int) (0:Int) []))) (left - (xs.length+aF bL (xs.take k1):Int));λ _=>⟨λ _=>⟨?_,?_,λ _=>⟨λ _=>?_,λ _=>⟨?_,k1+1,?_,?_,⟨rfl,?_,?_,U⟩,U⟩⟩⟩,λ _=>?_⟩⟩⟩;all_goals try and_intros
 all_goals first|rfl|trivial|omega|(simp only[b3E,b3D,ak,O,bQ,cw,bI,aY] at *;omega)|(simp[ak,O] at *;omega)|grind
def K2:aH.Good tE:=QN ⟨Nf,U⟩
def cB(x:aj):Nat:=(x.ai.length+aF bL x.ai)
def iQ(x:aj):cB x=(x.ai.length+aF bL x.ai):=rfl
def xG:aH:=⟨yd,[.v (.st .proof), .v (.int .i64)],λ (x:aj) (left:Int)=>⟨(some (0<=left/\left<=1048576),[⟨(.int .i64),dX (cB x) left⟩])⟩⟩
def UP(x:aj)(left:Int):Nat->aE:=λ _ => .none
def SW(hE:aC [tE]):aH.Good xG:=by
 refine⟨au Eb rfl (by decide),?_⟩;show ∀ (x:aj) (left:Int),(0<=left/\left<=1048576)->bd prog yd [.val ⟨(.st .proof),x⟩, .val ⟨(.int .i64),left⟩] (·=[⟨(.int .i64),dX (cB x) left⟩]);intro x left hp;refine aU (wr:=[]) (cl:=[]) (ro:=[2]) hE Eb MF (UP x left) (let v0:=dX (x.ai.length+aF bL x.ai) left;((x.ai.length<=140737488355328->((0<=left/\left<=1048576)/\(O v0->(((decide (v0<(0:Int)))=true->(-1:Int)=(dX (cB x) left))/\((decide (v0<(0:Int)))=false->v0=(dX (cB x) left)))))))) (by kernel_rfl) ?_;have f0:=dK (x.ai.length+aF bL x.ai) (left);have fz:=dK ((x.ai.length+aF bL x.ai)) left;refine λ _=>⟨?_,λ _=>⟨λ _=>?_,λ _=>?_⟩⟩;all_goals try and_intros
 all_goals try rw[iQ]
 all_goals first|rfl|trivial|omega|(simp only[b3E,b3D,ak,O,bQ,cw,bI,aY] at *;omega)|(simp[ak,O] at *;omega)|grind
def Ng:aH.Good xG:=SW ⟨K2,U⟩
end
end Go.Proofs.YtmjfpcajohhbeaaGreatDoor

set_option maxRecDepth 4000
set_option maxHeartbeats 4000000
namespace Go.Proofs.YtmjfpcajohhbeaaGreatDoor
noncomputable section
def uM:aH:=⟨DD,[.v (.st .sig)],λ (x:aT)=>⟨(none,[⟨(.st .sig),x⟩])⟩⟩
def Y4(x:aT):Nat->aE:=λ _ => .none
def X7(hE:aC []):aH.Good uM:=by
 refine⟨au Im rfl (by decide),?_⟩;show ∀ (x:aT),True->bd prog DD [.val ⟨(.st .sig),x⟩] (·=[⟨(.st .sig),x⟩]);intro x _;refine aU (wr:=[]) (cl:=[]) (ro:=[1]) hE Im RD (Y4 x) ((O x.az->(O x.bo->x=x))) (by kernel_rfl) ?_;refine λ a0=>λ a1=>rfl;all_goals try and_intros
 all_goals first|rfl|trivial|omega|(simp only[b3E,b3D,ak,O,bQ,cw,bI,aY] at *;omega)|(simp[ak,O] at *;omega)|grind
def EH:aH.Good uM:=X7 trivial
def xU(n:Nat):aH:=⟨gV,[.v (.st .expr)],λ (x:J)=>⟨(some (cf x<n/\av x<=1048576),[⟨(.st .expr),x⟩])⟩⟩
def Jf:aH:=⟨gV,[.v (.st .expr)],λ (x:J)=>⟨(some (av x<=1048576),[⟨(.st .expr),x⟩])⟩⟩
def tO(n:Nat):aH:=⟨gd,[.v (.slice (.st .expr))],λ (xs:List J)=>⟨(some (cf xs<n/\xs.length+aF av xs<=1048576),[⟨(.slice (.st .expr)),xs⟩])⟩⟩
def xI:aH:=⟨gd,[.v (.slice (.st .expr))],λ (xs:List J)=>⟨(some (xs.length+aF av xs<=1048576),[⟨(.slice (.st .expr)),xs⟩])⟩⟩
def Xz(x:J):Nat->aE:=λ _ => .none
def Vs(n:Nat)(hE:aC [tO n]):aH.Good (xU (n+1)):=by
 refine⟨au fu rfl (by decide),?_⟩;show ∀ (x:J),(cf x<n+1/\av x<=1048576)->bd prog gV [.val ⟨(.st .expr),x⟩] (·=[⟨(.st .expr),x⟩]);intro x hp;refine aU (wr:=[]) (cl:=[]) (ro:=[1]) hE fu Cf (Xz x) ((O x.aq->(O x.aM->(x.M.length<=140737488355328->((cf x.M<n/\x.M.length+aF av x.M<=1048576)/\(x.M.length<=140737488355328->(aJ x)=x)))))) (by kernel_rfl) ?_;rw[j8] at hp;have f0k:=dn x;refine λ _ _ _=>⟨?_,λ _=>?_⟩;all_goals try and_intros
 all_goals try (first|with_reducible rfl|with_reducible assumption)
 all_goals try simp only[J.eta,ag.eta,ar.eta,aK,br,bG] at *
 all_goals first|rfl|trivial|omega|(simp only[b3E,b3D,ak,O,bQ,cw,bI,aY] at *;omega)|(simp[ak,O] at *;omega)|grind
def UR(xs:List J):Nat->aE:=(λ zb=>if Nat.beq zb 0 then .mk (Nat) (λ k=>k<=xs.length) (λ k=>xs.length - k) [] [2,5,6,7] (λ k=>[(4, .aI ⟨(.int .i64),((k:Int):Int)⟩),(3, .row 7)]) [] (λ k=>[(7, .row a0x (.st .expr) (fill xs k zE:List J))]) [] [] (λ k=>λ _ => .none) else .none)
def SZ(n:Nat)(hE:aC [xU n]):aH.Good (tO (n+1)):=by
 refine⟨au eG rfl (by decide),?_⟩;show ∀ (xs:List J),(cf xs<n+1/\xs.length+aF av xs<=1048576)->bd prog gd [.val ⟨(.slice (.st .expr)),xs⟩] (·=[⟨(.slice (.st .expr)),xs⟩]);intro xs hp;refine aU (wr:=[]) (cl:=[]) (ro:=[]) hE eG zN (UR xs) (let v0:=(xs.length:Int);((O v0->(bI v0 v0 40/\((∃ k1:Nat,(k1<=xs.length/\((xs=xs/\(True/\((0:Int)=(k1:Int)/\True)))/\((List.replicate (Int.toNat v0) zE)=(fill xs k1 zE)/\True))))/\(∀ k1:Nat,let v1:=(k1:Int);(k1<=xs.length->(O v0->(((decide (v1<v0))=true->(ak v1 xs.length/\((cf (xs.getD k1 zE)<n/\av (xs.getD k1 zE)<=1048576)/\(ak v1 (fill xs k1 zE).length/\(O (v1+(1:Int))/\(∃ k2:Nat,(k2<=xs.length/\(xs.length - k2<xs.length - k1/\((xs=xs/\(True/\((v1+(1:Int))=(k2:Int)/\True)))/\(((fill xs k1 zE).set k1 (xs.getD k1 zE))=(fill xs k2 zE)/\True))))))))))/\((decide (v1<v0))=false->(fill xs k1 zE)=xs)))))))))) (by kernel_rfl) ?_;refine λ _=>⟨?_,⟨0,?_,⟨rfl,U,?_,U⟩,?_,U⟩,λ k1 _=>have Is:=fj xs zE k1;have It:=iJ xs zE k1;have Iu:=fk xs zE zE k1;have Wi:=eJ av zE xs k1;have b1v:=cb zE xs k1;λ _=>⟨λ _=>⟨?_,?_,?_,?_,k1+1,?_,?_,⟨rfl,U,?_,U⟩,?_,U⟩,λ _=>?_⟩⟩;all_goals try and_intros
 all_goals first|rfl|trivial|omega|(simp only[b3E,b3D,ak,O,bQ,cw,bI,aY] at *;omega)|(simp[ak,O] at *;omega)|grind|exact mu xs _|(simp only[b3E,b3D] at *;first|exact fk _ _ _ _ (by omega)|exact fj _ _ _ (by omega)|(simp only[bI];omega))
def Fu :∀ n,aC [xU n,tO n]
 | 0=>⟨⟨au fu rfl (by decide),λ _ h=>absurd h.1 (b4y _)⟩,⟨au eG rfl (by decide),λ _ h=>absurd h.1 (b4y _)⟩,U⟩
 | n+1=>by
  have ih:=Fu  n;exact⟨Vs n ⟨ih.2.1,U⟩,SZ n ⟨ih.1,U⟩,U⟩
def PS :aH.Good Jf :=
 ⟨au fu rfl (by decide),λ x hp=>(Fu  (cf x+1)).1.2 x (⟨b4v _,hp⟩)⟩
def Av :aH.Good xI :=
 ⟨au eG rfl (by decide),λ xs hp=>(Fu  (cf xs+1)).2.1.2 xs (⟨b4v _,hp⟩)⟩
def tH:aH:=⟨jI,[.v (.slice (.int .i64))],λ (xs:List Int)=>⟨(some (xs.length<=1048576),[⟨(.slice (.int .i64)),xs⟩])⟩⟩
def Sp(xs:List Int):Nat->aE:=(λ zb=>if Nat.beq zb 0 then .mk (Nat) (λ k=>k<=xs.length) (λ k=>xs.length - k) [] [2,5,6,7] (λ k=>[(4, .aI ⟨(.int .i64),((k:Int):Int)⟩),(3, .row 7)]) [] (λ k=>[(7, .row OP (.int .i64) (fill xs k (0:Int):List Int))]) [] [] (λ k=>λ _ => .none) else .none)
def QQ(hE:aC []):aH.Good tH:=by
 refine⟨au lW rfl (by decide),?_⟩;show ∀ (xs:List Int),(xs.length<=1048576)->bd prog jI [.val ⟨(.slice (.int .i64)),xs⟩] (·=[⟨(.slice (.int .i64)),xs⟩]);intro xs hp;refine aU (wr:=[]) (cl:=[]) (ro:=[]) hE lW yG (Sp xs) (let v0:=(xs.length:Int);let v1:=(0:Int);((O v0->(bI v0 v0 8/\((∃ k1:Nat,(k1<=xs.length/\((xs=xs/\(True/\(v1=(k1:Int)/\True)))/\((List.replicate (Int.toNat v0) v1)=(fill xs k1 v1)/\True))))/\(∀ k1:Nat,let v2:=(k1:Int);(k1<=xs.length->(O v0->(((decide (v2<v0))=true->(ak v2 xs.length/\(O (xs.getD k1 v1)->(ak v2 (fill xs k1 v1).length/\(O (v2+(1:Int))/\(∃ k2:Nat,(k2<=xs.length/\(xs.length - k2<xs.length - k1/\((xs=xs/\(True/\((v2+(1:Int))=(k2:Int)/\True)))/\(((fill xs k1 v1).set k1 (xs.getD k1 v1))=(fill xs k2 v1)/\True))))))))))/\((decide (v2<v0))=false->(fill xs k1 v1)=xs)))))))))) (by kernel_rfl) ?_;refine λ _=>⟨?_,⟨0,?_,⟨rfl,U,?_,U⟩,?_,U⟩,λ k1 _=>have Is:=fj xs (0:Int) k1;have It:=iJ xs (0:Int) k1;have Iu:=fk xs (0:Int) (0:Int) k1;λ _=>⟨λ _=>⟨?_,λ _=>⟨?_,?_,k1+1,?_,?_,⟨rfl,U,?_,U⟩,?_,U⟩⟩,λ _=>?_⟩⟩;all_goals try and_intros
 all_goals first|rfl|trivial|omega|(simp only[b3E,b3D,ak,O,bQ,cw,bI,aY] at *;omega)|(simp[ak,O] at *;omega)|grind|exact mu xs _|(simp only[b3E,b3D] at *;first|exact fk _ _ _ _ (by omega)|exact fj _ _ _ (by omega)|(simp only[bI];omega))
def K5:aH.Good tH:=QQ trivial
def oi:aH:=⟨gq,[.v (.st .proofStep)],λ (x:ae)=>⟨(some (aZ x<=1048576),[⟨(.st .proofStep),x⟩])⟩⟩
def Lm(x:ae):Nat->aE:=λ _ => .none
def JL(hE:aC [tH,xI]):aH.Good oi:=by
 refine⟨au iw rfl (by decide),?_⟩;show ∀ (x:ae),(aZ x<=1048576)->bd prog gq [.val ⟨(.st .proofStep),x⟩] (·=[⟨(.st .proofStep),x⟩]);intro x hp;refine aU (wr:=[]) (cl:=[]) (ro:=[1]) hE iw qP (Lm x) ((O x.use->(x.path.length<=140737488355328->(x.path.length<=1048576/\(x.path.length<=140737488355328->(x.az.length<=140737488355328->(x.az.length+aF av x.az<=1048576/\(x.az.length<=140737488355328->(x.bf.length<=140737488355328->(x.bf.length+aF av x.bf<=1048576/\(x.bf.length<=140737488355328->x=x))))))))))) (by kernel_rfl) ?_;rw[fG] at hp;refine λ _ _=>⟨?_,λ _ _=>⟨?_,λ _ _=>⟨?_,λ _=>rfl⟩⟩⟩;all_goals try and_intros
 all_goals first|rfl|trivial|omega|(simp only[b3E,b3D,ak,O,bQ,cw,bI,aY] at *;omega)|(simp[ak,O] at *;omega)|grind
def F1:aH.Good oi:=JL ⟨K5,Av,U⟩
def mH:aH:=⟨fO,[.v (.slice (.st .proofStep))],λ (xs:List ae)=>⟨(some (xs.length+aF aZ xs<=1048576),[⟨(.slice (.st .proofStep)),xs⟩])⟩⟩
def Jj(xs:List ae):Nat->aE:=(λ zb=>if Nat.beq zb 0 then .mk (Nat) (λ k=>k<=xs.length) (λ k=>xs.length - k) [] [2,5,6,7] (λ k=>[(4, .aI ⟨(.int .i64),((k:Int):Int)⟩),(3, .row 7)]) [] (λ k=>[(7, .row OO (.st .proofStep) (fill xs k (ae.mk (0:Int) false [] [] []):List ae))]) [] [] (λ k=>λ _ => .none) else .none)
def H5(hE:aC [oi]):aH.Good mH:=by
 refine⟨au hH rfl (by decide),?_⟩;show ∀ (xs:List ae),(xs.length+aF aZ xs<=1048576)->bd prog fO [.val ⟨(.slice (.st .proofStep)),xs⟩] (·=[⟨(.slice (.st .proofStep)),xs⟩]);intro xs hp;refine aU (wr:=[]) (cl:=[]) (ro:=[]) hE hH qo (Jj xs) (let v0:=ae.mk (0:Int) false [] [] [];let v1:=(xs.length:Int);((O v1->(bI v1 v1 88/\((∃ k1:Nat,(k1<=xs.length/\((xs=xs/\(True/\((0:Int)=(k1:Int)/\True)))/\((List.replicate (Int.toNat v1) v0)=(fill xs k1 v0)/\True))))/\(∀ k1:Nat,let v2:=(k1:Int);(k1<=xs.length->(O v1->(((decide (v2<v1))=true->(ak v2 xs.length/\(aZ (xs.getD k1 v0)<=1048576/\(ak v2 (fill xs k1 v0).length/\(O (v2+(1:Int))/\(∃ k2:Nat,(k2<=xs.length/\(xs.length - k2<xs.length - k1/\((xs=xs/\(True/\((v2+(1:Int))=(k2:Int)/\True)))/\(((fill xs k1 v0).set k1 (xs.getD k1 v0))=(fill xs k2 v0)/\True))))))))))/\((decide (v2<v1))=false->(fill xs k1 v0)=xs)))))))))) (by kernel_rfl) ?_;refine λ _=>⟨?_,⟨0,?_,⟨rfl,U,?_,U⟩,?_,U⟩,λ k1 _=>have Is:=fj xs (ae.mk (0:Int) false [] [] []) k1;have It:=iJ xs (ae.mk (0:Int) false [] [] []) k1;have Iu:=fk xs (ae.mk (0:Int) false [] [] []) (ae.mk (0:Int) false [] [] []) k1;have Wi:=eJ aZ (ae.mk (0:Int) false [] [] []) xs k1;λ _=>⟨λ _=>⟨?_,?_,?_,?_,k1+1,?_,?_,⟨rfl,U,?_,U⟩,?_,U⟩,λ _=>?_⟩⟩;all_goals try and_intros
 all_goals first|rfl|trivial|omega|(simp only[b3E,b3D,ak,O,bQ,cw,bI,aY] at *;omega)|(simp[ak,O] at *;omega)|grind|exact mu xs _|(simp only[b3E,b3D] at *;first|exact fk _ _ _ _ (by omega)|exact fj _ _ _ (by omega)|(simp only[bI];omega))
def EG:aH.Good mH:=H5 ⟨F1,U⟩
def xH:aH:=⟨la,[.v (.st .claim)],λ (x:ag)=>⟨(some (bL x<=1048576),[⟨(.st .claim),x⟩])⟩⟩
def UQ(x:ag):Nat->aE:=λ _ => .none
def SY(hE:aC [Jf,mH]):aH.Good xH:=by
 refine⟨au ni rfl (by decide),?_⟩;show ∀ (x:ag),(bL x<=1048576)->bd prog la [.val ⟨(.st .claim),x⟩] (·=[⟨(.st .claim),x⟩]);intro x hp;refine aU (wr:=[]) (cl:=[]) (ro:=[1]) hE ni zM (UQ x) ((av x.left<=1048576/\(av x.right<=1048576/\(O x.bp->(O x.ref->(x.steps.length<=140737488355328->(x.steps.length+aF aZ x.steps<=1048576/\(x.steps.length<=140737488355328->(oG x)=x)))))))) (by kernel_rfl) ?_;rw[kR] at hp;refine⟨?_,?_,λ _ _ _=>⟨?_,λ _=>?_⟩⟩;all_goals try and_intros
 all_goals try (first|with_reducible rfl|with_reducible assumption)
 all_goals try simp only[J.eta,ag.eta,ar.eta,aK,br,bG] at *
 all_goals first|rfl|trivial|omega|(simp only[b3E,b3D,ak,O,bQ,cw,bI,aY] at *;omega)|(simp[ak,O] at *;omega)|grind
def Nh:aH.Good xH:=SY ⟨PS,EG,U⟩
def tG:aH:=⟨jH,[.v (.slice (.st .claim))],λ (xs:List ag)=>⟨(some (xs.length+aF bL xs<=1048576),[⟨(.slice (.st .claim)),xs⟩])⟩⟩
def So(xs:List ag):Nat->aE:=(λ zb=>if Nat.beq zb 0 then .mk (Nat) (λ k=>k<=xs.length) (λ k=>xs.length - k) [] [2,5,6,7] (λ k=>[(4, .aI ⟨(.int .i64),((k:Int):Int)⟩),(3, .row 7)]) [] (λ k=>[(7, .row YL (.st .claim) (fill xs k (ag.mk zE zE (0:Int) (0:Int) []):List ag))]) [] [] (λ k=>λ _ => .none) else .none)
def QP(hE:aC [xH]):aH.Good tG:=by
 refine⟨au lV rfl (by decide),?_⟩;show ∀ (xs:List ag),(xs.length+aF bL xs<=1048576)->bd prog jH [.val ⟨(.slice (.st .claim)),xs⟩] (·=[⟨(.slice (.st .claim)),xs⟩]);intro xs hp;refine aU (wr:=[]) (cl:=[]) (ro:=[]) hE lV yF (So xs) (let v0:=ag.mk zE zE (0:Int) (0:Int) [];let v1:=(xs.length:Int);((O v1->(bI v1 v1 120/\((∃ k1:Nat,(k1<=xs.length/\((xs=xs/\(True/\((0:Int)=(k1:Int)/\True)))/\((List.replicate (Int.toNat v1) v0)=(fill xs k1 v0)/\True))))/\(∀ k1:Nat,let v2:=(k1:Int);(k1<=xs.length->(O v1->(((decide (v2<v1))=true->(ak v2 xs.length/\(bL (xs.getD k1 v0)<=1048576/\(ak v2 (fill xs k1 v0).length/\(O (v2+(1:Int))/\(∃ k2:Nat,(k2<=xs.length/\(xs.length - k2<xs.length - k1/\((xs=xs/\(True/\((v2+(1:Int))=(k2:Int)/\True)))/\(((fill xs k1 v0).set k1 (xs.getD k1 v0))=(fill xs k2 v0)/\True))))))))))/\((decide (v2<v1))=false->(fill xs k1 v0)=xs)))))))))) (by kernel_rfl) ?_;refine λ _=>⟨?_,⟨0,?_,⟨rfl,U,?_,U⟩,?_,U⟩,λ k1 _=>have Is:=fj xs (ag.mk zE zE (0:Int) (0:Int) []) k1;have It:=iJ xs (ag.mk zE zE (0:Int) (0:Int) []) k1;have Iu:=fk xs (ag.mk zE zE (0:Int) (0:Int) []) (ag.mk zE zE (0:Int) (0:Int) []) k1;have Wi:=eJ bL (ag.mk zE zE (0:Int) (0:Int) []) xs k1;λ _=>⟨λ _=>⟨?_,?_,?_,?_,k1+1,?_,?_,⟨rfl,U,?_,U⟩,?_,U⟩,λ _=>?_⟩⟩;all_goals try and_intros
 all_goals first|rfl|trivial|omega|(simp only[b3E,b3D,ak,O,bQ,cw,bI,aY] at *;omega)|(simp[ak,O] at *;omega)|grind|exact mu xs _|(simp only[b3E,b3D] at *;first|exact fk _ _ _ _ (by omega)|exact fj _ _ _ (by omega)|(simp only[bI];omega))
def K4:aH.Good tG:=QP ⟨Nh,U⟩
def xJ:aH:=⟨ld,[.v (.st .proof)],λ (x:aj)=>⟨(some (cB x<=1048576),[⟨(.st .proof),x⟩])⟩⟩
def US(x:aj):Nat->aE:=λ _ => .none
def S1(hE:aC [uM,tG]):aH.Good xJ:=by
 refine⟨au nj rfl (by decide),?_⟩;show ∀ (x:aj),(cB x<=1048576)->bd prog ld [.val ⟨(.st .proof),x⟩] (·=[⟨(.st .proof),x⟩]);intro x hp;refine aU (wr:=[]) (cl:=[]) (ro:=[1]) hE nj zO (US x) ((x.ai.length<=140737488355328->(x.ai.length+aF bL x.ai<=1048576/\(x.ai.length<=140737488355328->x=x)))) (by kernel_rfl) ?_;rw[iQ] at hp;refine λ _=>⟨?_,λ _=>rfl⟩;all_goals try and_intros
 all_goals first|rfl|trivial|omega|(simp only[b3E,b3D,ak,O,bQ,cw,bI,aY] at *;omega)|(simp[ak,O] at *;omega)|grind
def Ni:aH.Good xJ:=S1 ⟨EH,K4,U⟩
end
end Go.Proofs.YtmjfpcajohhbeaaGreatDoor

set_option maxRecDepth 4000
set_option maxHeartbeats 4000000
namespace Go.Proofs.YtmjfpcajohhbeaaGreatDoor
noncomputable section
def Dv:aH:=⟨DC,[.v (.st .sig), .v (.st .sig)],λ (x:aT) (y:aT)=>⟨(none,[⟨.bool,bC x y⟩])⟩⟩
def Y3(x:aT)(y:aT):Nat->aE:=λ _ => .none
def X6(hE:aC []):aH.Good Dv:=by
 refine⟨au Il rfl (by decide),?_⟩;show ∀ (x:aT) (y:aT),True->bd prog DC [.val ⟨(.st .sig),x⟩, .val ⟨(.st .sig),y⟩] (·=[⟨.bool,bC x y⟩]);intro x y _;refine aU (wr:=[]) (cl:=[]) (ro:=[2,3]) hE Il RC (Y3 x y) (let v0 := !(decide (x.bo=y.bo));let v1 := !(decide (x.az=y.az));((O x.az->(O y.az->((v1=true->false=(bC x y))/\(v1=false->(O x.bo->(O y.bo->((v0=true->false=(bC x y))/\(v0=false->true=(bC x y))))))))))) (by kernel_rfl) ?_;refine λ _ _=>⟨λ _=>?_,λ _ _ _=>⟨λ _=>?_,λ _=>?_⟩⟩;all_goals try and_intros
 all_goals first|rfl|trivial|(simp only[b3E,b3D,ak,O] at *;omega)|(refine fC λ ny=>?_;subst ny;simp_all)|(refine nv ?_;cases x;cases y;simp_all)
def RX:aH.Good Dv:=X6 trivial
def xS(n:Nat):aH:=⟨sa,[.v (.st .expr), .v (.st .expr)],λ (x:J) (y:J)=>⟨(some (cf x<n),[⟨.bool,bC x y⟩])⟩⟩
def Jd:aH:=⟨sa,[.v (.st .expr), .v (.st .expr)],λ (x:J) (y:J)=>⟨(none,[⟨.bool,bC x y⟩])⟩⟩
def tM(n:Nat):aH:=⟨pc,[.v (.slice (.st .expr)), .v (.slice (.st .expr))],λ (xs:List J) (ys:List J)=>⟨(some (cf xs<n),[⟨.bool,bC xs ys⟩])⟩⟩
def xB:aH:=⟨pc,[.v (.slice (.st .expr)), .v (.slice (.st .expr))],λ (xs:List J) (ys:List J)=>⟨(none,[⟨.bool,bC xs ys⟩])⟩⟩
def Xx(x:J)(y:J):Nat->aE:=λ _ => .none
def Vq(n:Nat)(hE:aC [tM n]):aH.Good (xS (n+1)):=by
 refine⟨au oV rfl (by decide),?_⟩;show ∀ (x:J) (y:J),(cf x<n+1)->bd prog sa [.val ⟨(.st .expr),x⟩, .val ⟨(.st .expr),y⟩] (·=[⟨.bool,bC x y⟩]);intro x y hp;refine aU (wr:=[]) (cl:=[]) (ro:=[2,3]) hE oV Pb (Xx x y) ((O x.aq->(O y.aq->(((!(decide (x.aq=y.aq)))=true->false=(bC x y))/\((!(decide (x.aq=y.aq)))=false->(O x.aM->(O y.aM->(((!(decide (x.aM=y.aM)))=true->false=(bC x y))/\((!(decide (x.aM=y.aM)))=false->(x.M.length<=140737488355328->(y.M.length<=140737488355328->(cf x.M<n/\(((!(bC x.M y.M))=true->false=(bC x y))/\((!(bC x.M y.M))=false->true=(bC x y))))))))))))))) (by kernel_rfl) ?_;have f0k:=dn x;refine λ _ _=>⟨λ _=>?_,λ _ _ _=>⟨λ _=>?_,λ _ _ _=>⟨?_,λ _=>?_,λ _=>?_⟩⟩⟩;all_goals try and_intros
 all_goals first|rfl|trivial|(simp only[b3E,b3D,ak,O] at *;omega)|(refine fC λ ny=>?_;subst ny;simp_all)|(refine nv ?_;cases x;cases y;simp_all)
def UL(xs:List J)(ys:List J):Nat->aE:=(λ zb=>if Nat.beq zb 0 then .mk (Nat) (λ k=>k<=xs.length/\xs.length=ys.length/\xs.take k=ys.take k) (λ k=>xs.length - k) [] [6,7,8,9,10] (λ k=>[(5, .aI ⟨(.int .i64),((k:Int):Int)⟩)]) [] (λ k=>[]) [] [] (λ k=>λ _ => .none) else .none)
def SR(n:Nat)(hE:aC [xS n]):aH.Good (tM (n+1)):=by
 refine⟨au ng rfl (by decide),?_⟩;show ∀ (xs:List J) (ys:List J),(cf xs<n+1)->bd prog pc [.val ⟨(.slice (.st .expr)),xs⟩, .val ⟨(.slice (.st .expr)),ys⟩] (·=[⟨.bool,bC xs ys⟩]);intro xs ys hp;refine aU (wr:=[]) (cl:=[]) (ro:=[]) hE ng MB (UL xs ys) (let v0:=(xs.length:Int);let v1 := !(decide (v0=((ys.length:Int))));((O v0->(O ((ys.length:Int))->((v1=true->false=(bC xs ys))/\(v1=false->((∃ k1:Nat,((k1<=xs.length/\xs.length=ys.length/\xs.take k1=ys.take k1)/\((xs=xs/\(ys=ys/\((0:Int)=(k1:Int)/\True)))/\True)))/\(∀ k1:Nat,let v2 := !(bC (xs.getD k1 zE) (ys.getD k1 zE));let v3:=(k1:Int);((k1<=xs.length/\xs.length=ys.length/\xs.take k1=ys.take k1)->(O v0->(((decide (v3<v0))=true->(ak v3 xs.length/\(ak v3 ys.length/\(cf (xs.getD k1 zE)<n/\((v2=true->false=(bC xs ys))/\(v2=false->(O (v3+(1:Int))/\(∃ k2:Nat,((k2<=xs.length/\xs.length=ys.length/\xs.take k2=ys.take k2)/\(xs.length - k2<xs.length - k1/\((xs=xs/\(ys=ys/\((v3+(1:Int))=(k2:Int)/\True)))/\True)))))))))))/\((decide (v3<v0))=false->true=(bC xs ys))))))))))))) (by kernel_rfl) ?_;refine λ _ _=>⟨λ _=>?_,λ _=>⟨⟨0,?_,⟨rfl,rfl,?_,U⟩,U⟩,λ k1 _=>have a4K:=gh zE xs ys k1;have a4L:=dy xs ys k1;have b1w:=cb zE xs k1;λ _=>⟨λ _=>⟨?_,?_,?_,λ _=>?_,λ _=>⟨?_,k1+1,?_,?_,⟨rfl,rfl,?_,U⟩,U⟩⟩,λ _=>?_⟩⟩⟩;all_goals try and_intros
 all_goals first|rfl|trivial|(simp only[b3E,b3D,b4f,b7v,b3S,ak,O] at *;first|omega|(refine fC λ ny=>?_;subst ny;simp_all;done)|(refine nv (dy _ _ _ (by omega) (by omega) (by simp_all))))|(refine fC λ ny=>?_;subst ny;simp_all;done)|(simp_all;done)|(refine gh zE _ _ _ (by simp_all;omega) (by simp_all;omega) (by simp_all) ?_;simp_all;done)
def Fs :∀ n,aC [xS n,tM n]
 | 0=>⟨⟨au oV rfl (by decide),λ _ _ h=>absurd h (b4y _)⟩,⟨au ng rfl (by decide),λ _ _ h=>absurd h (b4y _)⟩,U⟩
 | n+1=>by
  have ih:=Fs  n;exact⟨Vq n ⟨ih.2.1,U⟩,SR n ⟨ih.1,U⟩,U⟩
def PQ :aH.Good Jd :=
 ⟨au oV rfl (by decide),λ x y hp=>(Fs  (cf x+1)).1.2 x y (b4v _)⟩
def At :aH.Good xB :=
 ⟨au ng rfl (by decide),λ xs ys hp=>(Fs  (cf xs+1)).2.1.2 xs ys (b4v _)⟩
def tD:aH:=⟨uo,[.v (.slice (.int .i64)), .v (.slice (.int .i64))],λ (xs:List Int) (ys:List Int)=>⟨(none,[⟨.bool,bC xs ys⟩])⟩⟩
def Sl(xs:List Int)(ys:List Int):Nat->aE:=(λ zb=>if Nat.beq zb 0 then .mk (Nat) (λ k=>k<=xs.length/\xs.length=ys.length/\xs.take k=ys.take k) (λ k=>xs.length - k) [] [6,7,8,9,10] (λ k=>[(5, .aI ⟨(.int .i64),((k:Int):Int)⟩)]) [] (λ k=>[]) [] [] (λ k=>λ _ => .none) else .none)
def QM(hE:aC []):aH.Good tD:=by
 refine⟨au B6 rfl (by decide),?_⟩;show ∀ (xs:List Int) (ys:List Int),True->bd prog uo [.val ⟨(.slice (.int .i64)),xs⟩, .val ⟨(.slice (.int .i64)),ys⟩] (·=[⟨.bool,bC xs ys⟩]);intro xs ys _;refine aU (wr:=[]) (cl:=[]) (ro:=[]) hE B6 KL (Sl xs ys) (let v0:=(xs.length:Int);let v1 := !(decide (v0=((ys.length:Int))));let v2:=(0:Int);((O v0->(O ((ys.length:Int))->((v1=true->false=(bC xs ys))/\(v1=false->((∃ k1:Nat,((k1<=xs.length/\xs.length=ys.length/\xs.take k1=ys.take k1)/\((xs=xs/\(ys=ys/\(v2=(k1:Int)/\True)))/\True)))/\(∀ k1:Nat,let v3 := !(decide ((xs.getD k1 v2)=(ys.getD k1 v2)));let v4:=(k1:Int);((k1<=xs.length/\xs.length=ys.length/\xs.take k1=ys.take k1)->(O v0->(((decide (v4<v0))=true->(ak v4 xs.length/\(ak v4 ys.length/\(O (xs.getD k1 v2)->(O (ys.getD k1 v2)->((v3=true->false=(bC xs ys))/\(v3=false->(O (v4+(1:Int))/\(∃ k2:Nat,((k2<=xs.length/\xs.length=ys.length/\xs.take k2=ys.take k2)/\(xs.length - k2<xs.length - k1/\((xs=xs/\(ys=ys/\((v4+(1:Int))=(k2:Int)/\True)))/\True))))))))))))/\((decide (v4<v0))=false->true=(bC xs ys))))))))))))) (by kernel_rfl) ?_;refine λ _ _=>⟨λ _=>?_,λ _=>⟨⟨0,?_,⟨rfl,rfl,?_,U⟩,U⟩,λ k1 _=>have a4K:=gh (0:Int) xs ys k1;have a4L:=dy xs ys k1;λ _=>⟨λ _=>⟨?_,?_,λ _ _=>⟨λ _=>?_,λ _=>⟨?_,k1+1,?_,?_,⟨rfl,rfl,?_,U⟩,U⟩⟩⟩,λ _=>?_⟩⟩⟩;all_goals try and_intros
 all_goals first|rfl|trivial|(simp only[b3E,b3D,b4f,b7v,b3S,ak,O] at *;first|omega|(refine fC λ ny=>?_;subst ny;simp_all;done)|(refine nv (dy _ _ _ (by omega) (by omega) (by simp_all))))|(refine fC λ ny=>?_;subst ny;simp_all;done)|(simp_all;done)|(refine gh (0:Int) _ _ _ (by simp_all;omega) (by simp_all;omega) (by simp_all) ?_;simp_all;done)
def K1:aH.Good tD:=QM trivial
def og:aH:=⟨oz,[.v (.st .proofStep), .v (.st .proofStep)],λ (x:ae) (y:ae)=>⟨(none,[⟨.bool,bC x y⟩])⟩⟩
def Lk(x:ae)(y:ae):Nat->aE:=λ _ => .none
def JJ(hE:aC [tD,xB]):aH.Good og:=by
 refine⟨au vG rfl (by decide),?_⟩;show ∀ (x:ae) (y:ae),True->bd prog oz [.val ⟨(.st .proofStep),x⟩, .val ⟨(.st .proofStep),y⟩] (·=[⟨.bool,bC x y⟩]);intro x y _;refine aU (wr:=[]) (cl:=[]) (ro:=[2,3]) hE vG FG (Lk x y) (let v0:=bC x y;((O x.use->(O y.use->(((!(decide (x.use=y.use)))=true->false=v0)/\((!(decide (x.use=y.use)))=false->(((!(x.back == y.back))=true->false=v0)/\((!(x.back == y.back))=false->(x.path.length<=140737488355328->(y.path.length<=140737488355328->(((!(bC x.path y.path))=true->false=v0)/\((!(bC x.path y.path))=false->(x.az.length<=140737488355328->(y.az.length<=140737488355328->(((!(bC x.az y.az))=true->false=v0)/\((!(bC x.az y.az))=false->(x.bf.length<=140737488355328->(y.bf.length<=140737488355328->(((!(bC x.bf y.bf))=true->false=v0)/\((!(bC x.bf y.bf))=false->true=v0)))))))))))))))))))) (by kernel_rfl) ?_;refine λ _ _=>⟨λ _=>?_,λ _=>⟨λ _=>?_,λ _ _ _=>⟨λ _=>?_,λ _ _ _=>⟨λ _=>?_,λ _ _ _=>⟨λ _=>?_,λ _=>?_⟩⟩⟩⟩⟩;all_goals try and_intros
 all_goals first|rfl|trivial|(simp only[b3E,b3D,ak,O] at *;omega)|(refine fC λ ny=>?_;subst ny;simp_all)|(refine nv ?_;cases x;cases y;simp_all)
def FZ:aH.Good og:=JJ ⟨K1,At,U⟩
def mF:aH:=⟨mR,[.v (.slice (.st .proofStep)), .v (.slice (.st .proofStep))],λ (xs:List ae) (ys:List ae)=>⟨(none,[⟨.bool,bC xs ys⟩])⟩⟩
def Jh(xs:List ae)(ys:List ae):Nat->aE:=(λ zb=>if Nat.beq zb 0 then .mk (Nat) (λ k=>k<=xs.length/\xs.length=ys.length/\xs.take k=ys.take k) (λ k=>xs.length - k) [] [6,7,8,9,10] (λ k=>[(5, .aI ⟨(.int .i64),((k:Int):Int)⟩)]) [] (λ k=>[]) [] [] (λ k=>λ _ => .none) else .none)
def H3(hE:aC [og]):aH.Good mF:=by
 refine⟨au sH rfl (by decide),?_⟩;show ∀ (xs:List ae) (ys:List ae),True->bd prog mR [.val ⟨(.slice (.st .proofStep)),xs⟩, .val ⟨(.slice (.st .proofStep)),ys⟩] (·=[⟨.bool,bC xs ys⟩]);intro xs ys _;refine aU (wr:=[]) (cl:=[]) (ro:=[]) hE sH Eo (Jh xs ys) (let v0:=ae.mk (0:Int) false [] [] [];let v1:=(xs.length:Int);let v2 := !(decide (v1=((ys.length:Int))));((O v1->(O ((ys.length:Int))->((v2=true->false=(bC xs ys))/\(v2=false->((∃ k1:Nat,((k1<=xs.length/\xs.length=ys.length/\xs.take k1=ys.take k1)/\((xs=xs/\(ys=ys/\((0:Int)=(k1:Int)/\True)))/\True)))/\(∀ k1:Nat,let v3 := !(bC (xs.getD k1 v0) (ys.getD k1 v0));let v4:=(k1:Int);((k1<=xs.length/\xs.length=ys.length/\xs.take k1=ys.take k1)->(O v1->(((decide (v4<v1))=true->(ak v4 xs.length/\(ak v4 ys.length/\((v3=true->false=(bC xs ys))/\(v3=false->(O (v4+(1:Int))/\(∃ k2:Nat,((k2<=xs.length/\xs.length=ys.length/\xs.take k2=ys.take k2)/\(xs.length - k2<xs.length - k1/\((xs=xs/\(ys=ys/\((v4+(1:Int))=(k2:Int)/\True)))/\True))))))))))/\((decide (v4<v1))=false->true=(bC xs ys))))))))))))) (by kernel_rfl) ?_;refine λ _ _=>⟨λ _=>?_,λ _=>⟨⟨0,?_,⟨rfl,rfl,?_,U⟩,U⟩,λ k1 _=>have a4K:=gh (ae.mk (0:Int) false [] [] []) xs ys k1;have a4L:=dy xs ys k1;λ _=>⟨λ _=>⟨?_,?_,λ _=>?_,λ _=>⟨?_,k1+1,?_,?_,⟨rfl,rfl,?_,U⟩,U⟩⟩,λ _=>?_⟩⟩⟩;all_goals try and_intros
 all_goals first|rfl|trivial|(simp only[b3E,b3D,b4f,b7v,b3S,ak,O] at *;first|omega|(refine fC λ ny=>?_;subst ny;simp_all;done)|(refine nv (dy _ _ _ (by omega) (by omega) (by simp_all))))|(refine fC λ ny=>?_;subst ny;simp_all;done)|(simp_all;done)|(refine gh (ae.mk (0:Int) false [] [] []) _ _ _ (by simp_all;omega) (by simp_all;omega) (by simp_all) ?_;simp_all;done)
def EE:aH.Good mF:=H3 ⟨FZ,U⟩
def xA:aH:=⟨ya,[.v (.st .claim), .v (.st .claim)],λ (x:ag) (y:ag)=>⟨(none,[⟨.bool,bC x y⟩])⟩⟩
def UK(x:ag)(y:ag):Nat->aE:=λ _ => .none
def SQ(hE:aC [Jd,mF]):aH.Good xA:=by
 refine⟨au D8 rfl (by decide),?_⟩;show ∀ (x:ag) (y:ag),True->bd prog ya [.val ⟨(.st .claim),x⟩, .val ⟨(.st .claim),y⟩] (·=[⟨.bool,bC x y⟩]);intro x y _;refine aU (wr:=[]) (cl:=[]) (ro:=[2,3]) hE D8 MA (UK x y) (let v0:=bC x y;((((!(bC x.left y.left))=true->false=v0)/\((!(bC x.left y.left))=false->(((!(bC x.right y.right))=true->false=v0)/\((!(bC x.right y.right))=false->(O x.bp->(O y.bp->(((!(decide (x.bp=y.bp)))=true->false=v0)/\((!(decide (x.bp=y.bp)))=false->(O x.ref->(O y.ref->(((!(decide (x.ref=y.ref)))=true->false=v0)/\((!(decide (x.ref=y.ref)))=false->(x.steps.length<=140737488355328->(y.steps.length<=140737488355328->(((!(bC x.steps y.steps))=true->false=v0)/\((!(bC x.steps y.steps))=false->true=v0)))))))))))))))))) (by kernel_rfl) ?_;refine⟨λ _=>?_,λ _=>⟨λ _=>?_,λ _ _ _=>⟨λ _=>?_,λ _ _ _=>⟨λ _=>?_,λ _ _ _=>⟨λ _=>?_,λ _=>?_⟩⟩⟩⟩⟩;all_goals try and_intros
 all_goals first|rfl|trivial|(simp only[b3E,b3D,ak,O] at *;omega)|(refine fC λ ny=>?_;subst ny;simp_all)|(refine nv ?_;cases x;cases y;simp_all)
def Nb:aH.Good xA:=SQ ⟨PQ,EE,U⟩
def tC:aH:=⟨um,[.v (.slice (.st .claim)), .v (.slice (.st .claim))],λ (xs:List ag) (ys:List ag)=>⟨(none,[⟨.bool,bC xs ys⟩])⟩⟩
def Sk(xs:List ag)(ys:List ag):Nat->aE:=(λ zb=>if Nat.beq zb 0 then .mk (Nat) (λ k=>k<=xs.length/\xs.length=ys.length/\xs.take k=ys.take k) (λ k=>xs.length - k) [] [6,7,8,9,10] (λ k=>[(5, .aI ⟨(.int .i64),((k:Int):Int)⟩)]) [] (λ k=>[]) [] [] (λ k=>λ _ => .none) else .none)
def QL(hE:aC [xA]):aH.Good tC:=by
 refine⟨au B5 rfl (by decide),?_⟩;show ∀ (xs:List ag) (ys:List ag),True->bd prog um [.val ⟨(.slice (.st .claim)),xs⟩, .val ⟨(.slice (.st .claim)),ys⟩] (·=[⟨.bool,bC xs ys⟩]);intro xs ys _;refine aU (wr:=[]) (cl:=[]) (ro:=[]) hE B5 KK (Sk xs ys) (let v0:=ag.mk zE zE (0:Int) (0:Int) [];let v1:=(xs.length:Int);let v2 := !(decide (v1=((ys.length:Int))));((O v1->(O ((ys.length:Int))->((v2=true->false=(bC xs ys))/\(v2=false->((∃ k1:Nat,((k1<=xs.length/\xs.length=ys.length/\xs.take k1=ys.take k1)/\((xs=xs/\(ys=ys/\((0:Int)=(k1:Int)/\True)))/\True)))/\(∀ k1:Nat,let v3 := !(bC (xs.getD k1 v0) (ys.getD k1 v0));let v4:=(k1:Int);((k1<=xs.length/\xs.length=ys.length/\xs.take k1=ys.take k1)->(O v1->(((decide (v4<v1))=true->(ak v4 xs.length/\(ak v4 ys.length/\((v3=true->false=(bC xs ys))/\(v3=false->(O (v4+(1:Int))/\(∃ k2:Nat,((k2<=xs.length/\xs.length=ys.length/\xs.take k2=ys.take k2)/\(xs.length - k2<xs.length - k1/\((xs=xs/\(ys=ys/\((v4+(1:Int))=(k2:Int)/\True)))/\True))))))))))/\((decide (v4<v1))=false->true=(bC xs ys))))))))))))) (by kernel_rfl) ?_;refine λ _ _=>⟨λ _=>?_,λ _=>⟨⟨0,?_,⟨rfl,rfl,?_,U⟩,U⟩,λ k1 _=>have a4K:=gh (ag.mk zE zE (0:Int) (0:Int) []) xs ys k1;have a4L:=dy xs ys k1;λ _=>⟨λ _=>⟨?_,?_,λ _=>?_,λ _=>⟨?_,k1+1,?_,?_,⟨rfl,rfl,?_,U⟩,U⟩⟩,λ _=>?_⟩⟩⟩;all_goals try and_intros
 all_goals first|rfl|trivial|(simp only[b3E,b3D,b4f,b7v,b3S,ak,O] at *;first|omega|(refine fC λ ny=>?_;subst ny;simp_all;done)|(refine nv (dy _ _ _ (by omega) (by omega) (by simp_all))))|(refine fC λ ny=>?_;subst ny;simp_all;done)|(simp_all;done)|(refine gh (ag.mk zE zE (0:Int) (0:Int) []) _ _ _ (by simp_all;omega) (by simp_all;omega) (by simp_all) ?_;simp_all;done)
def K0:aH.Good tC:=QL ⟨Nb,U⟩
def xC:aH:=⟨yb,[.v (.st .proof), .v (.st .proof)],λ (x:aj) (y:aj)=>⟨(none,[⟨.bool,bC x y⟩])⟩⟩
def UM(x:aj)(y:aj):Nat->aE:=λ _ => .none
def SS(hE:aC [Dv,tC]):aH.Good xC:=by
 refine⟨au D9 rfl (by decide),?_⟩;show ∀ (x:aj) (y:aj),True->bd prog yb [.val ⟨(.st .proof),x⟩, .val ⟨(.st .proof),y⟩] (·=[⟨.bool,bC x y⟩]);intro x y _;refine aU (wr:=[]) (cl:=[]) (ro:=[2,3]) hE D9 MC (UM x y) ((((!(bC x.sig y.sig))=true->false=(bC x y))/\((!(bC x.sig y.sig))=false->(x.ai.length<=140737488355328->(y.ai.length<=140737488355328->(((!(bC x.ai y.ai))=true->false=(bC x y))/\((!(bC x.ai y.ai))=false->true=(bC x y)))))))) (by kernel_rfl) ?_;refine⟨λ _=>?_,λ _ _ _=>⟨λ _=>?_,λ _=>?_⟩⟩;all_goals try and_intros
 all_goals first|rfl|trivial|(simp only[b3E,b3D,ak,O] at *;omega)|(refine fC λ ny=>?_;subst ny;simp_all)|(refine nv ?_;cases x;cases y;simp_all)
def Nc:aH.Good xC:=SS ⟨RX,K0,U⟩
end
end Go.Proofs.YtmjfpcajohhbeaaGreatDoor

set_option maxRecDepth 4000
set_option maxHeartbeats 4000000
namespace Go.Proofs.YtmjfpcajohhbeaaGreatDoor
noncomputable section
def ez(k:Int):List Int->List Int
 | []=>[]
 | _::xs=>k::ez (k+1) xs
def fN:∀ (k:Int) (xs:List Int),(ez k xs).length=xs.length
 | _,[]=>rfl
 | k,_::xs=>by simp[ez,fN (k+1) xs]
def ze:∀ (k:Int) (xs:List Int) (i:Nat) (d:Int),i<xs.length->(ez k xs).getD i d=k+i
 | k,[],i,d,h=>by simp at h
 | k,_::xs,0,d,h=>by simp[ez]
 | k,_::xs,i+1,d,h=>by
  have:=ze (k+1) xs i d (by simpa using h);simp[ez] at this ⊢;omega
def half{α:Type}(f:List α)(xs:List α)(i:Nat):List α:=f.take i++xs.drop i
def Ay{α:Type}(f xs:List α):xs=half f xs 0:=by simp[half]
def Kg{α:Type}(f xs:List α)(i:Nat)(h:f.length=xs.length)(hi:xs.length<=i):half f xs i=f:=by
 simp[half,b4a (h ▸ hi),b5Q hi]
def rf{α:Type}(f xs:List α)(i:Nat)(h:f.length=xs.length):(half f xs i).length=xs.length:=by
 simp[half];omega
def Nw{α:Type}(f xs:List α)(d:α)(i:Nat)(h:f.length=xs.length)(hi:i<xs.length):(half f xs i).getD i d=xs.getD i d:=by
 simp only[half,b3V];rw[b5g (by simp;omega)];simp[h,Nat.min_eq_left (Nat.le_of_lt hi)]
def RY{α:Type}(f xs:List α)(d:α)(i:Nat)(h:f.length=xs.length)(hi:i<xs.length):(half f xs i).set i (f.getD i d)=half f xs (i+1):=by
 unfold half;rw[List.set_append_right _ _ (by simp;omega)];have e:i - (List.take i f).length=0:=by simp;omega
 rw[e,b5r (by omega:i<xs.length),b6P,cr d f i (by omega)];simp
def oo:MK:=⟨Bb,⟨(.slice (.int .i64)),λ (xs:List Int) (k:Int)=>(some (0<=k/\k+(xs.length:Int)<=4611686018427387904),ez k xs,k+(xs.length:Int))⟩⟩
def Lo(xs:List Int)(k:Int):Nat->aE:=(λ zb=>if Nat.beq zb 0 then .mk (Nat) (λ i=>i<=xs.length) (λ i=>xs.length - i) [] [4] (λ i=>[(5, .aI ⟨(.int .i64),((i:Int):Int)⟩),(1, .aI ⟨(.int .i64),(k+(i:Int):Int)⟩),(0, .aw 50)]) [] (λ i=>[(50, .aw (.int .i64) (half (ez k xs) xs i:List Int))]) [] [] (λ i=>λ _ => .none) else .none)
def JN(hE:aC [])(hO:cO [])(hM:cT [])(hS:cR []):MK.Good oo:=by
 refine⟨au yz rfl (by decide),wq (own:=[]) (wr:=[]) (cl:=[]) (ro:=[]) hE hO hM hS yz Hy (λ xs k=>Lo xs k) (λ x=>b4w rfl) (b4w (by kernel_rfl)) (λ (xs:List Int) (k:Int)=>(let v0:=ez k xs;(((∃ i1:Nat,(i1<=xs.length/\((True/\(k=(k+(i1:Int))/\((0:Int)=(i1:Int)/\True)))/\(xs=(half v0 xs i1)/\True))))/\(∀ i1:Nat,let v1:=(i1:Int);let v2:=half v0 xs i1;let v3:=decide (v1<((v2.length:Int)));(i1<=xs.length->((v3=true->(ak v1 v2.length/\(O ((k+v1)+(1:Int))/\(O (v1+(1:Int))/\(∃ i2:Nat,(i2<=xs.length/\(xs.length - i2<xs.length - i1/\((True/\(((k+v1)+(1:Int))=(k+(i2:Int))/\((v1+(1:Int))=(i2:Int)/\True)))/\((v2.set i1 (k+v1))=(half v0 xs i2)/\True)))))))))/\(v3=false->((k+v1)=(k+(xs.length:Int))/\v2=v0))))))))) (λ (xs:List Int) (k:Int)=>by kernel_rfl) ?_⟩;show ∀ (xs:List Int) (k:Int),(0<=k/\k+(xs.length:Int)<=4611686018427387904)->O k->_;intro xs k hp hk;have f0:=Ay (ez k xs) xs;refine⟨⟨0,?_,⟨U,?_,?_,U⟩,?_,U⟩,λ i1 _=>have El:=Kg (ez k xs) xs i1 (fN k xs);have qO:=rf (ez k xs) xs i1 (fN k xs);have yD:=RY (ez k xs) xs 0 i1 (fN k xs);have Ir:=ze k xs i1 0;⟨λ _=>⟨?_,?_,?_,i1+1,?_,?_,⟨U,?_,?_,U⟩,?_,U⟩,λ _=>⟨?_,?_⟩⟩⟩;all_goals try and_intros
 all_goals first|rfl|trivial|(simp only[b3E,b3D,ak,O,bQ] at *;omega)|(simp only[b3E,b3D,ak,O] at *;first|omega|(rw[<-Ay];done)|grind)|grind
def Gt:MK.Good oo:=JN trivial trivial trivial trivial
def rR:aH:=⟨jI,[.v (.slice (.int .i64))],λ (xs:List Int)=>⟨(some (xs.length<=1048576),[⟨(.slice (.int .i64)),xs⟩])⟩⟩
def Qy(xs:List Int):Nat->aE:=(λ zb=>if Nat.beq zb 0 then .mk (Nat) (λ k=>k<=xs.length) (λ k=>xs.length - k) [] [2,5,6,7] (λ k=>[(4, .aI ⟨(.int .i64),((k:Int):Int)⟩),(3, .row 7)]) [] (λ k=>[(7, .row OP (.int .i64) (fill xs k 0:List Int))]) [] [] (λ k=>λ _ => .none) else .none)
def Oj(hE:aC [])(hO:cO [])(hM:cT [])(hS:cR []):aH.bX rR:=by
 refine⟨au lW rfl (by decide),?_⟩;show ∀ (xs:List Int),(xs.length<=1048576)->cY prog jI [.val ⟨(.slice (.int .i64)),xs⟩] [⟨(.slice (.int .i64)),xs⟩];intro xs hp;refine cj (own:=[]) (wr:=[]) (cl:=[]) (ro:=[]) hE hO hM hS lW yG (Qy xs) (let v0:=(xs.length:Int);((O v0->(bI v0 v0 8/\((∃ k1:Nat,(k1<=xs.length/\((xs=xs/\(True/\((0:Int)=(k1:Int)/\True)))/\((List.replicate (Int.toNat v0) (0:Int))=(fill xs k1 0)/\True))))/\(∀ k1:Nat,let v1:=(k1:Int);(k1<=xs.length->(O v0->(((decide (v1<v0))=true->(ak v1 xs.length/\(O (xs.getD k1 (0:Int))->(ak v1 (fill xs k1 0).length/\(O (v1+(1:Int))/\(∃ k2:Nat,(k2<=xs.length/\(xs.length - k2<xs.length - k1/\((xs=xs/\(True/\((v1+(1:Int))=(k2:Int)/\True)))/\(((fill xs k1 0).set k1 (xs.getD k1 (0:Int)))=(fill xs k2 0)/\True))))))))))/\((decide (v1<v0))=false->(fill xs k1 0)=xs)))))))))) (by kernel_rfl) ?_;refine λ _=>⟨?_,⟨0,?_,⟨rfl,U,?_,U⟩,?_,U⟩,λ k1 _=>have Is:=fj xs 0 k1;have It:=iJ xs 0 k1;have Iu:=fk xs 0 0 k1;λ _=>⟨λ _=>⟨?_,λ _=>⟨?_,?_,k1+1,?_,?_,⟨rfl,U,?_,U⟩,?_,U⟩⟩,λ _=>?_⟩⟩;all_goals try and_intros
 all_goals first|rfl|trivial|omega|(simp only[b3E,b3D,ak,O,bQ,cw,bI,aY] at *;omega)|(simp[ak,O] at *;omega)|grind|exact mu xs _|(simp only[b3E,b3D] at *;first|exact fk _ _ _ _ (by omega)|exact fj _ _ _ (by omega)|(simp only[bI];omega))
def JG:aH.bX rR:=Oj trivial trivial trivial trivial
def tX(n:Nat):aH:=⟨gV,[.v (.st .expr)],λ (x:J)=>⟨(some (cf x<n/\av x<=1048576),[⟨(.st .expr),x⟩])⟩⟩
def Hj:aH:=⟨gV,[.v (.st .expr)],λ (x:J)=>⟨(some (av x<=1048576),[⟨(.st .expr),x⟩])⟩⟩
def rU(n:Nat):aH:=⟨gd,[.v (.slice (.st .expr))],λ (xs:List J)=>⟨(some (cf xs<n/\xs.length+aF av xs<=1048576),[⟨(.slice (.st .expr)),xs⟩])⟩⟩
def tU:aH:=⟨gd,[.v (.slice (.st .expr))],λ (xs:List J)=>⟨(some (xs.length+aF av xs<=1048576),[⟨(.slice (.st .expr)),xs⟩])⟩⟩
def Va(x:J):Nat->aE:=λ _ => .none
def Tg(n:Nat)(hE:aC [])(hO:cO [rU n])(hM:cT [])(hS:cR []):aH.bX (tX (n+1)):=by
 refine⟨au fu rfl (by decide),?_⟩;show ∀ (x:J),(cf x<n+1/\av x<=1048576)->cY prog gV [.val ⟨(.st .expr),x⟩] [⟨(.st .expr),x⟩];intro x hp;refine cj (own:=[12]) (wr:=[]) (cl:=[]) (ro:=[1]) hE hO hM hS fu Cf (Va x) ((O x.aq->(O x.aM->(x.M.length<=140737488355328->((cf x.M<n/\x.M.length+aF av x.M<=1048576)/\(aJ x)=x))))) (by kernel_rfl) ?_;rw[j8] at hp;have f0k:=dn x;refine λ _ _ _=>⟨?_,?_⟩;all_goals try and_intros
 all_goals try (first|with_reducible rfl|with_reducible assumption)
 all_goals try simp only[J.eta,ag.eta,ar.eta,aK,br,bG] at *
 all_goals first|rfl|trivial|omega|(simp only[b3E,b3D,ak,O,bQ,cw,bI,aY] at *;omega)|(simp[ak,O] at *;omega)|grind
def SA(xs:List J):Nat->aE:=(λ zb=>if Nat.beq zb 0 then .mk (Nat) (λ k=>k<=xs.length) (λ k=>xs.length - k) [] [2,5,6,7] (λ k=>[(4, .aI ⟨(.int .i64),((k:Int):Int)⟩),(3, .aw 7)]) [] (λ k=>[(7, .aw (.st .expr) (fill xs k zE:List J))]) [] [] (λ k=>λ _ => .none) else .none)
def QY(n:Nat)(hE:aC [])(hO:cO [tX n])(hM:cT [])(hS:cR []):aH.bX (rU (n+1)):=by
 refine⟨au eG rfl (by decide),?_⟩;show ∀ (xs:List J),(cf xs<n+1/\xs.length+aF av xs<=1048576)->cY prog gd [.val ⟨(.slice (.st .expr)),xs⟩] [⟨(.slice (.st .expr)),xs⟩];intro xs hp;refine cj (own:=[7,20]) (wr:=[]) (cl:=[]) (ro:=[]) hE hO hM hS eG zN (SA xs) (let v0:=(xs.length:Int);((O v0->(bI v0 v0 40/\((∃ k1:Nat,(k1<=xs.length/\((xs=xs/\(True/\((0:Int)=(k1:Int)/\True)))/\((List.replicate (Int.toNat v0) zE)=(fill xs k1 zE)/\True))))/\(∀ k1:Nat,let v1:=(k1:Int);(k1<=xs.length->(O v0->(((decide (v1<v0))=true->(ak v1 xs.length/\((cf (xs.getD k1 zE)<n/\av (xs.getD k1 zE)<=1048576)/\(ak v1 (fill xs k1 zE).length/\(O (v1+(1:Int))/\(∃ k2:Nat,(k2<=xs.length/\(xs.length - k2<xs.length - k1/\((xs=xs/\(True/\((v1+(1:Int))=(k2:Int)/\True)))/\(((fill xs k1 zE).set k1 (aJ (xs.getD k1 zE)))=(fill xs k2 zE)/\True))))))))))/\((decide (v1<v0))=false->(fill xs k1 zE)=xs)))))))))) (by kernel_rfl) ?_;refine λ _=>⟨?_,⟨0,?_,⟨rfl,U,?_,U⟩,?_,U⟩,λ k1 _=>have Is:=fj xs zE k1;have It:=iJ xs zE k1;have Iu:=fk xs zE zE k1;have Wi:=eJ av zE xs k1;have b1v:=cb zE xs k1;λ _=>⟨λ _=>⟨?_,?_,?_,?_,k1+1,?_,?_,⟨rfl,U,?_,U⟩,?_,U⟩,λ _=>?_⟩⟩;all_goals try and_intros
 all_goals try (first|with_reducible rfl|with_reducible assumption)
 all_goals try simp only[J.eta,ag.eta,ar.eta,aK,br,bG] at *
 all_goals first|rfl|trivial|omega|(simp only[b3E,b3D,ak,O,bQ,cw,bI,aY] at *;omega)|(simp[ak,O] at *;omega)|grind|exact mu xs _|(simp only[b3E,b3D] at *;first|exact fk _ _ _ _ (by omega)|exact fj _ _ _ (by omega)|(simp only[bI];omega))
def zy:∀ n,cO [tX n,rU n]
 | 0=>⟨⟨au fu rfl (by decide),λ _ h=>absurd h.1 (b4y _)⟩,⟨au eG rfl (by decide),λ _ h=>absurd h.1 (b4y _)⟩,U⟩
 | n+1=>by
  have ih:=zy n;exact⟨Tg n trivial ⟨ih.2.1,U⟩ trivial trivial,QY n trivial ⟨ih.1,U⟩ trivial trivial,U⟩
def N5:aH.bX Hj :=
 ⟨au fu rfl (by decide),λ x hp=>(zy (cf x+1)).1.2 x (⟨b4v _,hp⟩)⟩
def yP:aH.bX tU :=
 ⟨au eG rfl (by decide),λ xs hp=>(zy (cf xs+1)).2.1.2 xs (⟨b4v _,hp⟩)⟩
mutual
def bm:J->Nat
 | ⟨_,_,ks⟩=>2+Dg ks
def Dg:List J->Nat
 | []=>0
 | x::xs=>bm x+Dg xs
end
def Ex:∀ xs,Dg xs=aF bm xs
 | []=>rfl
 | x::xs=>by rw[Dg,aF,Ex xs]
def Wq(x:J):bm x=2+aF bm x.M:=by
 cases x;simp[bm,Ex]
mutual
def SE(k:Int):J->J
 | ⟨_,_,ks⟩=>⟨k,k+1,c7 (k+2) ks⟩
def c7(k:Int):List J->List J
 | []=>[]
 | x::xs=>SE k x::c7 (k+(bm x:Int)) xs
end
def a9f(k:Int)(x:J):SE k x=⟨k,k+1,c7 (k+2) x.M⟩:=by cases x;rfl
def kH:∀ (k:Int) (xs:List J),(c7 k xs).length=xs.length
 | _,[]=>rfl
 | k,x::xs=>by simp[c7,kH _ xs]
def N2(z:J):∀ (k:Int) (xs:List J) (i:Nat),i<xs.length->(c7 k xs).getD i z=SE (k+(aF bm (xs.take i):Int)) (xs.getD i z)
 | k,[],i,h=>by simp at h
 | k,x::xs,0,h=>by simp[c7,aF]
 | k,x::xs,i+1,h=>by
  have:=N2 z (k+(bm x:Int)) xs i (by simpa using h);simp only[c7,List.getD_cons_succ,this,List.take_succ_cons,aF];congr 1;omega
def a1P:∀ xs:List J,xs.length<=aF bm xs
 | []=>by simp[aF]
 | x::xs=>by
  have:=a1P xs;have:=Wq x;simp only[aF,b3P];omega
def Tp{α:Type}(l:List α)(i:Nat)(y z:α)(h:i<l.length):(l.set i y).getD i z=y:=by
 simp[List.getD,h]
def a7W(k:Int)(xs:List J)(i:Nat)(z:J)(h:i<xs.length)(y1 y2 y3:J)(h3:y3=SE (k+(aF bm (xs.take i):Int)) (xs.getD i z)) :
  (((half (c7 k xs) xs i).set i y1).set i y2).set i y3=half (c7 k xs) xs (i+1):=by
 rw[b6I,b6I,h3,<-N2 z k xs i h,RY _ _ z i (kH k xs) h]
def oq(n:Nat):MK:=⟨sd,⟨(.slice (.st .expr)),λ (xs:List J) (k:Int)=>(some (cf xs<n/\0<=k/\k+(aF bm xs:Int)<=4611686018427387904),c7 k xs,k+(aF bm xs:Int))⟩⟩
def kI:MK:=⟨sd,⟨(.slice (.st .expr)),λ (xs:List J) (k:Int)=>(some (0<=k/\k+(aF bm xs:Int)<=4611686018427387904),c7 k xs,k+(aF bm xs:Int))⟩⟩
def NT(xs:List J)(k:Int):Nat->aE:=(λ zb=>if Nat.beq zb 0 then .mk (Nat) (λ i=>i<=xs.length) (λ i=>xs.length - i) [] [4] (λ i=>[(5, .aI ⟨(.int .i64),((i:Int):Int)⟩),(1, .aI ⟨(.int .i64),(k+(aF bm (xs.take i):Int):Int)⟩),(0, .aw 50)]) [] (λ i=>[(50, .aw (.st .expr) (half (c7 k xs) xs i:List J))]) [] [] (λ i=>λ _ => .none) else .none)
def LB(n:Nat)(hE:aC [])(hO:cO [])(hM:cT [oq n])(hS:cR []):MK.Good (oq (n+1)):=by
 refine⟨au kf rfl (by decide),wq (own:=[32]) (wr:=[]) (cl:=[]) (ro:=[]) hE hO hM hS kf IC (λ xs k=>NT xs k) (λ x=>b4w rfl) (b4w (by kernel_rfl)) (λ (xs:List J) (k:Int)=>(let v0:=c7 k xs;let v1:=(1:Int);(((∃ i1:Nat,(i1<=xs.length/\((True/\(k=(k+(aF bm (xs.take i1):Int))/\((0:Int)=(i1:Int)/\True)))/\(xs=(half v0 xs i1)/\True))))/\(∀ i1:Nat,let v4:=k+(aF bm (xs.take i1):Int);let v5:=half v0 xs i1;let v3:=v5.set i1 (J.mk v4 (v5.getD i1 zE).aM (v5.getD i1 zE).M);let v2:=v3.set i1 (J.mk (v3.getD i1 zE).aq (v4+v1) (v3.getD i1 zE).M);let v6:=v2.getD i1 zE;let v7:=(v4+v1)+v1;let v8:=(i1:Int);let v9:=decide (v8<((v5.length:Int)));(i1<=xs.length->((v9=true->(ak v8 v5.length/\(O (v4+v1)/\(ak v8 v3.length/\(O v7/\(ak v8 v2.length/\((cf v6.M<n/\0<=v7/\v7+(aF bm v6.M:Int)<=4611686018427387904)/\(O (v8+v1)/\(∃ i2:Nat,(i2<=xs.length/\(xs.length - i2<xs.length - i1/\((True/\((v7+(aF bm v6.M:Int))=(k+(aF bm (xs.take i2):Int))/\((v8+v1)=(i2:Int)/\True)))/\((v2.set i1 (J.mk v6.aq v6.aM (c7 v7 v6.M)))=(half v0 xs i2)/\True)))))))))))))/\(v9=false->(v4=(k+(aF bm xs:Int))/\v5=v0))))))))) (λ (xs:List J) (k:Int)=>by kernel_rfl) ?_⟩;show ∀ (xs:List J) (k:Int),(cf xs<n+1/\0<=k/\k+(aF bm xs:Int)<=4611686018427387904)->O k->_;intro xs k hp hk;have f0:=Ay (c7 k xs) xs;have f1:=ij bm xs;have f2:=a1P xs;refine⟨⟨0,?_,⟨U,?_,?_,U⟩,?_,U⟩,λ i1 _=>have El:=Kg (c7 k xs) xs i1 (kH k xs);have qO:=rf (c7 k xs) xs i1 (kH k xs);have yD:=Nw (c7 k xs) xs zE i1 (kH k xs);have Ir:=ft bm zE xs i1;have TJ:=b9 bm xs i1;have Wh:=b9 bm xs (i1+1);have Zv:=gZ bm xs i1;have Zw:=Wq (xs.getD i1 zE);have Zx:=cb zE xs i1;have a1J:=dn (xs.getD i1 zE);have a0F:=a9f (k+(aF bm (xs.take i1):Int)) (xs.getD i1 zE);have a0G:=(λ (y:J) (h:i1<xs.length)=>Tp (half (c7 k xs) xs i1) i1 y zE (by rw[rf _ _ i1 (kH k xs)];exact h));have b0x:=(λ (h:i1<xs.length) (y1 y2 y3:J)=>a7W k xs i1 zE h y1 y2 y3);⟨λ _=>⟨?_,?_,?_,?_,?_,?_,?_,i1+1,?_,?_,⟨U,?_,?_,U⟩,?_,U⟩,λ _=>⟨?_,?_⟩⟩⟩;all_goals try and_intros
 all_goals first|rfl|trivial|omega|(simp only[b6I,b5e,b3E,b3D,ak,O] at *;first|omega|(have hi:i2<xs.length:=by omega);simp only[a0G _ hi,yD hi];first|omega|(refine b0x hi (J.mk 0 0 []) (J.mk 0 0 []) _ ?_;rw[a0F,Int.add_assoc];rfl))|grind
def GO:∀ n,cT [oq n]
 | 0=>⟨⟨au kf rfl (by decide),λ _ _ _ _ _ h=>absurd (show cf _<0 from h.1) (b4y _)⟩,U⟩
 | n+1=>by
  have ih:=GO n;exact⟨LB n trivial trivial ⟨ih.1,U⟩ trivial,U⟩
def lI:MK.Good kI :=
 ⟨au kf rfl (by decide),λ (xs:List J) (k:Int) w v fp (hp:0<=k/\k+(aF bm xs:Int)<=4611686018427387904)=>(GO (cf xs+1)).1.2 xs k w v fp (show (cf xs<cf xs+1/\(0<=k/\k+(aF bm xs:Int)<=4611686018427387904)) from ⟨b4v _,hp⟩)⟩
def ff(k:Int):List Int->Bool
 | []=>true
 | x::xs=>decide (x=k)&&ff (k+1) xs
def CZ:∀ (k:Int) (xs:List Int),ff k xs=true↔∀ i,i<xs.length->xs.getD i 0=k+i
 | k,[]=>by simp[ff]
 | k,x::xs=>by
  simp only[ff,b3J,b3E,CZ (k+1) xs];constructor
  .rintro⟨h1,h2⟩ i hi;cases i with
   | zero=>simp[h1]
   | succ i=>have:=h2 i (by simpa using hi);simp at this ⊢;omega
  .intro h;refine⟨by have:=h 0 (by simp);simpa using this,λ i hi=>?_⟩;have:=h (i+1) (by simpa using hi);simp at this ⊢;omega
def a1l(k:Int)(xs:List Int)(i:Nat)(h:i<xs.length):ff k (xs.take (i+1))=(ff k (xs.take i)&&decide (xs.getD i 0=k+i)):=by
 induction xs generalizing k i with
 | nil=>simp at h
 | cons x xs ih =>
  cases i with
  | zero=>simp[ff]
  | succ i =>
   have:=ih (k+1) i (by simpa using h);simp only[List.take_succ_cons,ff,this,Bool.and_assoc,List.getD_cons_succ];congr 2;congr 1;simp only[eq_iff_iff];constructor<;>intro h<;>omega
def a2F(k:Int)(xs:List Int)(i:Nat)(h:i<xs.length)(e:xs.getD i 0≠k+i):ff k xs=false:=by
 cases hb:ff k xs with
 | false=>rfl
 | true=>exact absurd ((CZ k xs).1 hb i h) e
def a4g(k:Int)(xs:List Int):ff k (ez k xs)=true :=
 (CZ k _).2 λ i hi=>ze k xs i 0 (by rwa [fN] at hi)
def F7(k:Int)(xs:List Int):Int:=bif ff k xs then k+(xs.length:Int) else -1
def pJ:aH:=⟨pX,[.v (.slice (.int .i64)), .v (.int .i64)],λ (xs:List Int) (k:Int)=>⟨(some (0<=k/\k+(xs.length:Int)<=4611686018427387904),[⟨(.int .i64),F7 k xs⟩])⟩⟩
def NQ(xs:List Int)(k:Int):Nat->aE:=(λ zb=>if Nat.beq zb 0 then .mk (Nat) (λ i=>i<=xs.length/\ff k (xs.take i)=true) (λ i=>xs.length - i) [] [] (λ i=>[(5, .aI ⟨(.int .i64),((i:Int):Int)⟩),(1, .aI ⟨(.int .i64),(k+(i:Int):Int)⟩)]) [] (λ i=>[]) [] [] (λ i=>λ _ => .none) else .none)
def Lz(hE:aC []):aH.Good pJ:=by
 refine⟨au yx rfl (by decide),?_⟩;show ∀ (xs:List Int) (k:Int),(0<=k/\k+(xs.length:Int)<=4611686018427387904)->bd prog pX [.val ⟨(.slice (.int .i64)),xs⟩, .val ⟨(.int .i64),k⟩] (·=[⟨(.int .i64),F7 k xs⟩]);intro xs k hp;refine aU (wr:=[]) (cl:=[]) (ro:=[]) hE yx Hw (NQ xs k) (let v0:=(xs.length:Int);(((∃ i1:Nat,((i1<=xs.length/\ff k (xs.take i1)=true)/\((xs=xs/\(k=(k+(i1:Int))/\((0:Int)=(i1:Int)/\True)))/\True)))/\(∀ i1:Nat,let v1:=(i1:Int);let v2 := !(decide ((xs.getD i1 (0:Int))=(k+v1)));((i1<=xs.length/\ff k (xs.take i1)=true)->(O v0->(((decide (v1<v0))=true->(ak v1 xs.length/\(O (xs.getD i1 (0:Int))->((v2=true->(-1:Int)=(F7 k xs))/\(v2=false->(O ((k+v1)+(1:Int))/\(O (v1+(1:Int))/\(∃ i2:Nat,((i2<=xs.length/\ff k (xs.take i2)=true)/\(xs.length - i2<xs.length - i1/\((xs=xs/\(((k+v1)+(1:Int))=(k+(i2:Int))/\((v1+(1:Int))=(i2:Int)/\True)))/\True)))))))))))/\((decide (v1<v0))=false->(k+v1)=(F7 k xs))))))))) (by kernel_rfl) ?_;have f0:ff k (xs.take 0)=true:=by simp[ff]
 have f1:∀ i,xs.length<=i->xs.take i=xs:=λ i h=>b4a h;refine⟨⟨0,?_,⟨rfl,?_,?_,U⟩,U⟩,λ i1 _=>have El:=a1l k xs i1;have qO:=a2F k xs i1;have yD:=dU (λ _=>true) xs i1;λ _=>⟨λ _=>⟨?_,λ _=>⟨λ _=>?_,λ _=>⟨?_,?_,i1+1,?_,?_,⟨rfl,?_,?_,U⟩,U⟩⟩⟩,λ _=>?_⟩⟩;all_goals try and_intros
 all_goals try unfold F7
 all_goals first|rfl|trivial|omega|(simp only[b3E,b3D,ak,O,b3S,b4f] at *;first|omega|grind)
def HH:aH.Good pJ:=Lz trivial
end
end Go.Proofs.YtmjfpcajohhbeaaGreatDoor

namespace Go.Proofs.YtmjfpcajohhbeaaGreatDoor
noncomputable section
def iL{α:Type}(cJ:α->Nat)(mk:Int->α->α)(k:Int):List α->List α
 | []=>[]
 | x::xs=>mk k x::iL cJ mk (k+(cJ x:Int)) xs
def iM{α:Type}(cJ:α->Nat)(mk:Int->α->α):∀ (k:Int) (xs:List α),(iL cJ mk k xs).length=xs.length
 | _,[]=>rfl
 | k,x::xs=>by simp[iL,iM cJ mk _ xs]
def SD{α:Type}(cJ:α->Nat)(mk:Int->α->α)(z:α):∀ (k:Int) (xs:List α) (i:Nat),i<xs.length->(iL cJ mk k xs).getD i z=mk (k+(aF cJ (xs.take i):Int)) (xs.getD i z)
 | k,[],i,h=>by simp at h
 | k,x::xs,0,h=>by simp[iL,aF]
 | k,x::xs,i+1,h=>by
  have:=SD cJ mk z (k+(cJ x:Int)) xs i (by simpa using h);simp only[iL,List.getD_cons_succ,this,List.take_succ_cons,aF];congr 1;omega
def a0a{α:Type}(cJ:α->Nat)(mk:Int->α->α)(k:Int)(xs:List α)(i:Nat)(z:α)(h:i<xs.length)(y:α)(e:y=mk (k+(aF cJ (xs.take i):Int)) (xs.getD i z)) :
  (half (iL cJ mk k xs) xs i).set i y=half (iL cJ mk k xs) xs (i+1):=by
 rw[e,<-SD cJ mk z k xs i h,RY _ _ z i (iM cJ mk k xs) h]
def RL{α:Type}(cJ:α->Nat)(h:∀ x,1<=cJ x):∀ xs:List α,xs.length<=aF cJ xs
 | []=>by simp[aF]
 | x::xs=>by
  have:=RL cJ h xs;have:=h x;simp only[aF,b3P];omega
end
end Go.Proofs.YtmjfpcajohhbeaaGreatDoor

set_option maxRecDepth 4000
set_option maxHeartbeats 4000000
namespace Go.Proofs.YtmjfpcajohhbeaaGreatDoor
noncomputable section
def mN:aH:=⟨gq,[.v (.st .proofStep)],λ (x:ae)=>⟨(some (aZ x<=1048576),[⟨(.st .proofStep),x⟩])⟩⟩
def Jo(x:ae):Nat->aE:=λ _ => .none
def H9(hE:aC [])(hO:cO [rR,tU])(hM:cT [])(hS:cR []):aH.bX mN:=by
 refine⟨au iw rfl (by decide),?_⟩;show ∀ (x:ae),(aZ x<=1048576)->cY prog gq [.val ⟨(.st .proofStep),x⟩] [⟨(.st .proofStep),x⟩];intro x hp;refine cj (own:=[12,16,20]) (wr:=[]) (cl:=[]) (ro:=[1]) hE hO hM hS iw qP (Jo x) ((O x.use->(x.path.length<=140737488355328->(x.path.length<=1048576/\(x.az.length<=140737488355328->(x.az.length+aF av x.az<=1048576/\(x.bf.length<=140737488355328->(x.bf.length+aF av x.bf<=1048576/\x=x)))))))) (by kernel_rfl) ?_;rw[fG] at hp;refine λ _ _=>⟨?_,λ _=>⟨?_,λ _=>⟨?_,rfl⟩⟩⟩;all_goals try and_intros
 all_goals first|rfl|trivial|omega|(simp only[b3E,b3D,ak,O,bQ,cw,bI,aY] at *;omega)|(simp[ak,O] at *;omega)|grind
def Ff:aH.bX mN:=H9 trivial ⟨JG,yP,U⟩ trivial trivial
def lE:aH:=⟨fO,[.v (.slice (.st .proofStep))],λ (xs:List ae)=>⟨(some (xs.length+aF aZ xs<=1048576),[⟨(.slice (.st .proofStep)),xs⟩])⟩⟩
def HU(xs:List ae):Nat->aE:=(λ zb=>if Nat.beq zb 0 then .mk (Nat) (λ k=>k<=xs.length) (λ k=>xs.length - k) [] [2,5,6,7] (λ k=>[(4, .aI ⟨(.int .i64),((k:Int):Int)⟩),(3, .aw 7)]) [] (λ k=>[(7, .aw (.st .proofStep) (fill xs k (ae.mk (0:Int) false [] [] []):List ae))]) [] [] (λ k=>λ _ => .none) else .none)
def GD(hE:aC [])(hO:cO [mN])(hM:cT [])(hS:cR []):aH.bX lE:=by
 refine⟨au hH rfl (by decide),?_⟩;show ∀ (xs:List ae),(xs.length+aF aZ xs<=1048576)->cY prog fO [.val ⟨(.slice (.st .proofStep)),xs⟩] [⟨(.slice (.st .proofStep)),xs⟩];intro xs hp;refine cj (own:=[7,20]) (wr:=[]) (cl:=[]) (ro:=[]) hE hO hM hS hH qo (HU xs) (let v0:=ae.mk (0:Int) false [] [] [];let v1:=(xs.length:Int);((O v1->(bI v1 v1 88/\((∃ k1:Nat,(k1<=xs.length/\((xs=xs/\(True/\((0:Int)=(k1:Int)/\True)))/\((List.replicate (Int.toNat v1) v0)=(fill xs k1 v0)/\True))))/\(∀ k1:Nat,let v2:=(k1:Int);(k1<=xs.length->(O v1->(((decide (v2<v1))=true->(ak v2 xs.length/\(aZ (xs.getD k1 v0)<=1048576/\(ak v2 (fill xs k1 v0).length/\(O (v2+(1:Int))/\(∃ k2:Nat,(k2<=xs.length/\(xs.length - k2<xs.length - k1/\((xs=xs/\(True/\((v2+(1:Int))=(k2:Int)/\True)))/\(((fill xs k1 v0).set k1 (xs.getD k1 v0))=(fill xs k2 v0)/\True))))))))))/\((decide (v2<v1))=false->(fill xs k1 v0)=xs)))))))))) (by kernel_rfl) ?_;refine λ _=>⟨?_,⟨0,?_,⟨rfl,U,?_,U⟩,?_,U⟩,λ k1 _=>have Is:=fj xs (ae.mk (0:Int) false [] [] []) k1;have It:=iJ xs (ae.mk (0:Int) false [] [] []) k1;have Iu:=fk xs (ae.mk (0:Int) false [] [] []) (ae.mk (0:Int) false [] [] []) k1;have Wi:=eJ aZ (ae.mk (0:Int) false [] [] []) xs k1;λ _=>⟨λ _=>⟨?_,?_,?_,?_,k1+1,?_,?_,⟨rfl,U,?_,U⟩,?_,U⟩,λ _=>?_⟩⟩;all_goals try and_intros
 all_goals first|rfl|trivial|omega|(simp only[b3E,b3D,ak,O,bQ,cw,bI,aY] at *;omega)|(simp[ak,O] at *;omega)|grind|exact mu xs _|(simp only[b3E,b3D] at *;first|exact fk _ _ _ _ (by omega)|exact fj _ _ _ (by omega)|(simp only[bI];omega))
def DG:aH.bX lE:=GD trivial ⟨Ff,U⟩ trivial trivial
def tT:aH:=⟨la,[.v (.st .claim)],λ (x:ag)=>⟨(some (bL x<=1048576),[⟨(.st .claim),x⟩])⟩⟩
def Sz(x:ag):Nat->aE:=λ _ => .none
def QX(hE:aC [])(hO:cO [Hj,lE])(hM:cT [])(hS:cR []):aH.bX tT:=by
 refine⟨au ni rfl (by decide),?_⟩;show ∀ (x:ag),(bL x<=1048576)->cY prog la [.val ⟨(.st .claim),x⟩] [⟨(.st .claim),x⟩];intro x hp;refine cj (own:=[6,10,20]) (wr:=[]) (cl:=[]) (ro:=[1]) hE hO hM hS ni zM (Sz x) ((av x.left<=1048576/\(av x.right<=1048576/\(O x.bp->(O x.ref->(x.steps.length<=140737488355328->(x.steps.length+aF aZ x.steps<=1048576/\(oG x)=x))))))) (by kernel_rfl) ?_;rw[kR] at hp;refine⟨?_,?_,λ _ _ _=>⟨?_,?_⟩⟩;all_goals try and_intros
 all_goals try (first|with_reducible rfl|with_reducible assumption)
 all_goals try simp only[J.eta,ag.eta,ar.eta,aK,br,bG] at *
 all_goals first|rfl|trivial|omega|(simp only[b3E,b3D,ak,O,bQ,cw,bI,aY] at *;omega)|(simp[ak,O] at *;omega)|grind
def Ls:aH.bX tT:=QX trivial ⟨N5,DG,U⟩ trivial trivial
def rQ:aH:=⟨jH,[.v (.slice (.st .claim))],λ (xs:List ag)=>⟨(some (xs.length+aF bL xs<=1048576),[⟨(.slice (.st .claim)),xs⟩])⟩⟩
def Qx(xs:List ag):Nat->aE:=(λ zb=>if Nat.beq zb 0 then .mk (Nat) (λ k=>k<=xs.length) (λ k=>xs.length - k) [] [2,5,6,7] (λ k=>[(4, .aI ⟨(.int .i64),((k:Int):Int)⟩),(3, .aw 7)]) [] (λ k=>[(7, .aw (.st .claim) (fill xs k (ag.mk zE zE (0:Int) (0:Int) []):List ag))]) [] [] (λ k=>λ _ => .none) else .none)
def Oi(hE:aC [])(hO:cO [tT])(hM:cT [])(hS:cR []):aH.bX rQ:=by
 refine⟨au lV rfl (by decide),?_⟩;show ∀ (xs:List ag),(xs.length+aF bL xs<=1048576)->cY prog jH [.val ⟨(.slice (.st .claim)),xs⟩] [⟨(.slice (.st .claim)),xs⟩];intro xs hp;refine cj (own:=[7,20]) (wr:=[]) (cl:=[]) (ro:=[]) hE hO hM hS lV yF (Qx xs) (let v0:=ag.mk zE zE (0:Int) (0:Int) [];let v1:=(xs.length:Int);((O v1->(bI v1 v1 120/\((∃ k1:Nat,(k1<=xs.length/\((xs=xs/\(True/\((0:Int)=(k1:Int)/\True)))/\((List.replicate (Int.toNat v1) v0)=(fill xs k1 v0)/\True))))/\(∀ k1:Nat,let v2:=(k1:Int);(k1<=xs.length->(O v1->(((decide (v2<v1))=true->(ak v2 xs.length/\(bL (xs.getD k1 v0)<=1048576/\(ak v2 (fill xs k1 v0).length/\(O (v2+(1:Int))/\(∃ k2:Nat,(k2<=xs.length/\(xs.length - k2<xs.length - k1/\((xs=xs/\(True/\((v2+(1:Int))=(k2:Int)/\True)))/\(((fill xs k1 v0).set k1 (oG (xs.getD k1 v0)))=(fill xs k2 v0)/\True))))))))))/\((decide (v2<v1))=false->(fill xs k1 v0)=xs)))))))))) (by kernel_rfl) ?_;refine λ _=>⟨?_,⟨0,?_,⟨rfl,U,?_,U⟩,?_,U⟩,λ k1 _=>have Is:=fj xs (ag.mk zE zE (0:Int) (0:Int) []) k1;have It:=iJ xs (ag.mk zE zE (0:Int) (0:Int) []) k1;have Iu:=fk xs (ag.mk zE zE (0:Int) (0:Int) []) (ag.mk zE zE (0:Int) (0:Int) []) k1;have Wi:=eJ bL (ag.mk zE zE (0:Int) (0:Int) []) xs k1;λ _=>⟨λ _=>⟨?_,?_,?_,?_,k1+1,?_,?_,⟨rfl,U,?_,U⟩,?_,U⟩,λ _=>?_⟩⟩;all_goals try and_intros
 all_goals try (first|with_reducible rfl|with_reducible assumption)
 all_goals try simp only[J.eta,ag.eta,ar.eta,aK,br,bG] at *
 all_goals first|rfl|trivial|omega|(simp only[b3E,b3D,ak,O,bQ,cw,bI,aY] at *;omega)|(simp[ak,O] at *;omega)|grind|exact mu xs _|(simp only[b3E,b3D] at *;first|exact fk _ _ _ _ (by omega)|exact fj _ _ _ (by omega)|(simp only[bI];omega))
def JF:aH.bX rQ:=Oi trivial ⟨Ls,U⟩ trivial trivial
def tV:aH:=⟨ld,[.v (.st .proof)],λ (x:aj)=>⟨(some (cB x<=1048576),[⟨(.st .proof),x⟩])⟩⟩
def SB(x:aj):Nat->aE:=λ _ => .none
def QZ(hE:aC [uM])(hO:cO [rQ])(hM:cT [])(hS:cR []):aH.bX tV:=by
 refine⟨au nj rfl (by decide),?_⟩;show ∀ (x:aj),(cB x<=1048576)->cY prog ld [.val ⟨(.st .proof),x⟩] [⟨(.st .proof),x⟩];intro x hp;refine cj (own:=[10]) (wr:=[]) (cl:=[]) (ro:=[1]) hE hO hM hS nj zO (SB x) ((x.ai.length<=140737488355328->(x.ai.length+aF bL x.ai<=1048576/\x=x))) (by kernel_rfl) ?_;rw[iQ] at hp;refine λ _=>⟨?_,rfl⟩;all_goals try and_intros
 all_goals first|rfl|trivial|omega|(simp only[b3E,b3D,ak,O,bQ,cw,bI,aY] at *;omega)|(simp[ak,O] at *;omega)|grind
def Lt:aH.bX tV:=QZ ⟨EH,U⟩ ⟨JF,U⟩ trivial trivial
def aA(x:ae):Nat:=2+x.path.length+aF bm x.az+aF bm x.bf
def lY(x:ae):aA x=2+x.path.length+aF bm x.az+aF bm x.bf:=rfl
def bq(k:Int)(x:ae):ae:=⟨k,decide ((k+1).tmod 3=0),ez (k+1+1) x.path,c7 (k+1+1+(x.path.length:Int)) x.az,c7 (k+1+1+(x.path.length:Int)+(aF bm x.az:Int)) x.bf⟩
def SF(k:Int)(x:ae):bq k x=⟨k,decide ((k+1).tmod 3=0),ez (k+1+1) x.path,c7 (k+1+1+(x.path.length:Int)) x.az,c7 (k+1+1+(x.path.length:Int)+(aF bm x.az:Int)) x.bf⟩:=rfl
def dd(k:Int)(xs:List ae)(i:Nat):List ae:=half (iL aA bq k xs) xs i
def NC(k:Int)(xs:List ae):xs=dd k xs 0:=Ay _ _
def P4(k:Int)(xs:List ae)(i:Nat)(h:xs.length<=i):dd k xs i=iL aA bq k xs:=Kg _ _ i (iM aA bq k xs) h
def Cp(k:Int)(xs:List ae)(i:Nat):(dd k xs i).length=xs.length:=rf _ _ i (iM aA bq k xs)
def P5(k:Int)(xs:List ae)(i:Nat)(z:ae)(h:i<xs.length):(dd k xs i).getD i z=xs.getD i z:=Nw _ _ z i (iM aA bq k xs) h
def P6(k:Int)(xs:List ae)(i:Nat)(z y:ae)(h:i<xs.length):((dd k xs i).set i y).getD i z=y:=Tp _ i y z (by rw[Cp];exact h)
def Bt(k:Int)(x:ae):ae:=(ae.mk (k) x.back x.path x.az x.bf)
def Bu(k:Int)(x:ae):ae:=(ae.mk (k) (decide ((k+1).tmod 3=0)) x.path x.az x.bf)
def Bv(k:Int)(x:ae):ae:=(ae.mk (k) (decide ((k+1).tmod 3=0)) (ez (k+1+1) x.path) x.az x.bf)
def Bw(k:Int)(x:ae):ae:=(ae.mk (k) (decide ((k+1).tmod 3=0)) (ez (k+1+1) x.path) (c7 (k+1+1+(x.path.length:Int)) x.az) x.bf)
def Bx(k:Int)(x:ae):ae:=(ae.mk (k) (decide ((k+1).tmod 3=0)) (ez (k+1+1) x.path) (c7 (k+1+1+(x.path.length:Int)) x.az) (c7 (k+1+1+(x.path.length:Int)+(aF bm x.az:Int)) x.bf))
def Rh(k:Int)(x:ae):Bx k x=bq k x:=(SF k x).symm
def NB(k:Int)(xs:List ae)(i:Nat)(z:ae)(h:i<xs.length):(dd k xs i).set i (Bx (k+(aF aA (xs.take i):Int)) (xs.getD i z))=dd k xs (i+1):=a0a aA bq k xs i z h _ (Rh _ _)
def jF:MK:=⟨sf,⟨(.slice (.st .proofStep)),λ (xs:List ae) (k:Int)=>(some (0<=k/\k+(aF aA xs:Int)<=4611686018427387904),iL aA bq k xs,k+(aF aA xs:Int))⟩⟩
def E2(xs:List ae)(k:Int):Nat->aE:=(λ zb=>if Nat.beq zb 0 then .mk (Nat) (λ i=>i<=xs.length) (λ i=>xs.length - i) [] [4] (λ i=>[(5, .aI ⟨(.int .i64),((i:Int):Int)⟩),(1, .aI ⟨(.int .i64),(k+(aF aA (xs.take i):Int):Int)⟩),(0, .aw 50)]) [] (λ i=>[(50, .aw (.st .proofStep) (dd k xs i:List ae))]) [] [] (λ i=>(λ zb=>if Nat.beq zb 100006 then .mk (Unit) (λ u=>i<xs.length) (λ u=>0) [] [6,7,8,9,12,13,14,15,16] (λ u=>[(5, .aI ⟨(.int .i64),((i:Int):Int)⟩),(1, .aI ⟨(.int .i64),(k+(aF aA (xs.take i):Int)+1:Int)⟩),(0, .aw 50)]) [] (λ u=>[(50, .aw (.st .proofStep) ((dd k xs i).set i (Bt (k+(aF aA (xs.take i):Int)) (xs.getD i (ae.mk (0:Int) false [] [] []))):List ae))]) [] [] (λ u=>(λ zb=>if Nat.beq zb 100008 then .mk (Unit) (λ u=>i<xs.length) (λ u=>0) [] [19,20,21,22,23,24,25] (λ u=>[(5, .aI ⟨(.int .i64),((i:Int):Int)⟩),(1, .aI ⟨(.int .i64),(k+(aF aA (xs.take i):Int)+1+1:Int)⟩),(0, .aw 50)]) [] (λ u=>[(50, .aw (.st .proofStep) ((dd k xs i).set i (Bu (k+(aF aA (xs.take i):Int)) (xs.getD i (ae.mk (0:Int) false [] [] []))):List ae))]) [] [] (λ u=>(λ zb=>if Nat.beq zb 100009 then .mk (Unit) (λ u=>i<xs.length) (λ u=>0) [] [] (λ u=>[(5, .aI ⟨(.int .i64),((i:Int):Int)⟩),(1, .aI ⟨(.int .i64),(k+(aF aA (xs.take i):Int)+1+1+((xs.getD i (ae.mk (0:Int) false [] [] [])).path.length:Int):Int)⟩),(0, .aw 50)]) [] (λ u=>[(50, .aw (.st .proofStep) ((dd k xs i).set i (Bv (k+(aF aA (xs.take i):Int)) (xs.getD i (ae.mk (0:Int) false [] [] []))):List ae))]) [] [] (λ u=>(λ zb=>if Nat.beq zb 100010 then .mk (Unit) (λ u=>i<xs.length) (λ u=>0) [] [] (λ u=>[(5, .aI ⟨(.int .i64),((i:Int):Int)⟩),(1, .aI ⟨(.int .i64),(k+(aF aA (xs.take i):Int)+1+1+((xs.getD i (ae.mk (0:Int) false [] [] [])).path.length:Int)+(aF bm (xs.getD i (ae.mk (0:Int) false [] [] [])).az:Int):Int)⟩),(0, .aw 50)]) [] (λ u=>[(50, .aw (.st .proofStep) ((dd k xs i).set i (Bw (k+(aF aA (xs.take i):Int)) (xs.getD i (ae.mk (0:Int) false [] [] []))):List ae))]) [] [] (λ u=>λ _ => .none) else .none)) else .none)) else .none)) else .none)) else .none)
def DH(hE:aC [])(hO:cO [])(hM:cT [oo,kI])(hS:cR []):MK.Good jF:=by
 refine⟨au qk rfl (by decide),wq (own:=[34,41,48]) (wr:=[]) (cl:=[]) (ro:=[]) hE hO hM hS qk BF (λ xs k=>E2 xs k) (λ x=>b4w rfl) (b4w (by kernel_rfl)) (λ (xs:List ae) (k:Int)=>(let v0:=ae.mk (0:Int) false [] [] [];let v1:=(1:Int);(((∃ i1:Nat,(i1<=xs.length/\((True/\(k=(k+(aF aA (xs.take i1):Int))/\((0:Int)=(i1:Int)/\True)))/\(xs=(dd k xs i1)/\True))))/\(∀ i1:Nat,let v2:=(aF aA (xs.take i1):Int);let v3:=dd k xs i1;let v4:=xs.getD i1 v0;let v8:=k+v2+1+1+(v4.path.length:Int)+(aF bm v4.az:Int);let va:=k+v2+1+1+(v4.path.length:Int);let vb:=(i1:Int);let vf:=k+v2+1+1;let vg:=vb=vb/\True;let vh:=v3.getD i1 v0;let vj:=k+v2+1;let vk:=k+v2;let v5:=v3.set i1 (Bu vk v4);let v6:=v3.set i1 (Bv vk v4);let v7:=v3.set i1 (Bw vk v4);let v9:=v3.set i1 (Bt vk v4);let vc:=v5.getD i1 v0;let vd:=v6.getD i1 v0;let ve:=v7.getD i1 v0;let vi:=v9.getD i1 v0;let vl:=decide (vb<((v3.length:Int)));(i1<=xs.length->((vl=true->(ak vb v3.length/\((O (vk+v1)/\(∃ u2:Unit,(i1<xs.length/\((True/\((vk+v1)=vj/\vg))/\((v3.set i1 (ae.mk vk vh.back vh.path vh.az vh.bf))=v9/\True)))))/\(∀ u2:Unit,(i1<xs.length->(((3:Int)≠(0:Int)/\O (vj.tmod (3:Int)))/\(ak vb v9.length/\((O (vj+v1)/\(∃ u3:Unit,(i1<xs.length/\((True/\((vj+v1)=vf/\vg))/\((v9.set i1 (ae.mk vi.use (decide ((vj.tmod (3:Int))=(0:Int))) vi.path vi.az vi.bf))=v5/\True)))))/\(∀ u3:Unit,(i1<xs.length->((ak vb v5.length/\((0<=vf/\vf+(vc.path.length:Int)<=4611686018427387904)/\(∃ u4:Unit,(i1<xs.length/\((True/\((vf+(vc.path.length:Int))=va/\vg))/\((v5.set i1 (ae.mk vc.use vc.back (ez vf vc.path) vc.az vc.bf))=v6/\True))))))/\(∀ u4:Unit,(i1<xs.length->((ak vb v6.length/\((0<=va/\va+(aF bm vd.az:Int)<=4611686018427387904)/\(∃ u5:Unit,(i1<xs.length/\((True/\((va+(aF bm vd.az:Int))=v8/\vg))/\((v6.set i1 (ae.mk vd.use vd.back vd.path (c7 va vd.az) vd.bf))=v7/\True))))))/\(∀ u5:Unit,(i1<xs.length->(ak vb v7.length/\((0<=v8/\v8+(aF bm ve.bf:Int)<=4611686018427387904)/\(O (vb+v1)/\(∃ i6:Nat,(i6<=xs.length/\(xs.length - i6<xs.length - i1/\((True/\((v8+(aF bm ve.bf:Int))=(k+(aF aA (xs.take i6):Int))/\((vb+v1)=(i6:Int)/\True)))/\((v7.set i1 (ae.mk ve.use ve.back ve.path ve.az (c7 v8 ve.bf)))=(dd k xs i6)/\True))))))))))))))))))))))))/\(vl=false->(vk=(k+(aF aA xs:Int))/\v3=(iL aA bq k xs)))))))))) (λ (xs:List ae) (k:Int)=>by kernel_rfl) ?_⟩;show ∀ (xs:List ae) (k:Int),(0<=k/\k+(aF aA xs:Int)<=4611686018427387904)->O k->_;intro xs k hp hk;have f0:=NC k xs;have f1:=ij aA xs;have f2:=RL aA (λ x=>by rw[lY];omega) xs;refine⟨⟨0,?_,⟨U,?_,?_,U⟩,?_,U⟩,λ i1 _=>have El:=P4 k xs i1;have qO:=P6 k xs i1 (ae.mk (0:Int) false [] [] []);have yD:=P5 k xs i1 (ae.mk (0:Int) false [] [] []);have Ir:=NB k xs i1 (ae.mk (0:Int) false [] [] []);have TJ:=Cp k xs i1;have Wh:=ft aA (ae.mk (0:Int) false [] [] []) xs i1;have Zv:=b9 aA xs i1;have Zw:=b9 aA xs (i1+1);have Zx:=gZ aA xs i1;have a1J:=lY (xs.getD i1 (ae.mk (0:Int) false [] [] []));⟨λ _=>⟨?_,⟨?_,(),?_,⟨U,?_,rfl,U⟩,?_,U⟩,λ u2 _=>⟨⟨?_,?_⟩,?_,⟨?_,(),?_,⟨U,?_,rfl,U⟩,?_,U⟩,λ u3 _=>⟨⟨?_,?_,(),?_,⟨U,?_,rfl,U⟩,?_,U⟩,λ u4 _=>⟨⟨?_,?_,(),?_,⟨U,?_,rfl,U⟩,?_,U⟩,λ u5 _=>⟨?_,?_,?_,i1+1,?_,?_,⟨U,?_,?_,U⟩,?_,U⟩⟩⟩⟩⟩,λ _=>⟨?_,?_⟩⟩⟩;all_goals try and_intros
 all_goals first|rfl|trivial|omega|(simp only[b6I,b5e,b3E,b3D,ak,O] at *;first|omega|exact El (by omega)|(simp only[qO _ (by omega)];rfl)|(simp only[qO _ (by omega),yD (by omega)];first|done|omega|rfl)|(simp only[yD (by omega)];first|done|omega|rfl)|(simp only[qO _ (by omega)];first|omega|exact Ir (by omega))|(simp only[qO _ (by omega),Bt,Bu,Bv,Bw,Bx];first|done|omega)|grind)
def A1:MK.Good jF:=DH trivial trivial ⟨Gt,lI,U⟩ trivial
def aG(x:ag):Nat:=6+aF bm x.left.M+aF bm x.right.M+aF aA x.steps
def uL(x:ag):aG x=6+aF bm x.left.M+aF bm x.right.M+aF aA x.steps:=rfl
def bF(k:Int)(x:ag):ag:=⟨⟨k,k+1,c7 (k+1+1) x.left.M⟩,⟨k+1+1+(aF bm x.left.M:Int),k+1+1+(aF bm x.left.M:Int)+1,c7 (k+1+1+(aF bm x.left.M:Int)+1+1) x.right.M⟩,k+1+1+(aF bm x.left.M:Int)+1+1+(aF bm x.right.M:Int),k+1+1+(aF bm x.left.M:Int)+1+1+(aF bm x.right.M:Int)+1,iL aA bq (k+1+1+(aF bm x.left.M:Int)+1+1+(aF bm x.right.M:Int)+1+1) x.steps⟩
def a1g(k:Int)(x:ag):bF k x=⟨⟨k,k+1,c7 (k+1+1) x.left.M⟩,⟨k+1+1+(aF bm x.left.M:Int),k+1+1+(aF bm x.left.M:Int)+1,c7 (k+1+1+(aF bm x.left.M:Int)+1+1) x.right.M⟩,k+1+1+(aF bm x.left.M:Int)+1+1+(aF bm x.right.M:Int),k+1+1+(aF bm x.left.M:Int)+1+1+(aF bm x.right.M:Int)+1,iL aA bq (k+1+1+(aF bm x.left.M:Int)+1+1+(aF bm x.right.M:Int)+1+1) x.steps⟩:=rfl
def dW(k:Int)(xs:List ag)(i:Nat):List ag:=half (iL aG bF k xs) xs i
def W1(k:Int)(xs:List ag):xs=dW k xs 0:=Ay _ _
def YT(k:Int)(xs:List ag)(i:Nat)(h:xs.length<=i):dW k xs i=iL aG bF k xs:=Kg _ _ i (iM aG bF k xs) h
def L7(k:Int)(xs:List ag)(i:Nat):(dW k xs i).length=xs.length:=rf _ _ i (iM aG bF k xs)
def YU(k:Int)(xs:List ag)(i:Nat)(z:ag)(h:i<xs.length):(dW k xs i).getD i z=xs.getD i z:=Nw _ _ z i (iM aG bF k xs) h
def YV(k:Int)(xs:List ag)(i:Nat)(z y:ag)(h:i<xs.length):((dW k xs i).set i y).getD i z=y:=Tp _ i y z (by rw[L7];exact h)
def Oz(k:Int)(x:ag):ag:=(ag.mk (J.mk (k) x.left.aM x.left.M) x.right x.bp x.ref x.steps)
def OA(k:Int)(x:ag):ag:=(ag.mk (J.mk (k) (k+1) x.left.M) x.right x.bp x.ref x.steps)
def OB(k:Int)(x:ag):ag:=(ag.mk (J.mk (k) (k+1) (c7 (k+1+1) x.left.M)) x.right x.bp x.ref x.steps)
def OC(k:Int)(x:ag):ag:=(ag.mk (J.mk (k) (k+1) (c7 (k+1+1) x.left.M)) (J.mk (k+1+1+(aF bm x.left.M:Int)) x.right.aM x.right.M) x.bp x.ref x.steps)
def OD(k:Int)(x:ag):ag:=(ag.mk (J.mk (k) (k+1) (c7 (k+1+1) x.left.M)) (J.mk (k+1+1+(aF bm x.left.M:Int)) (k+1+1+(aF bm x.left.M:Int)+1) x.right.M) x.bp x.ref x.steps)
def OE(k:Int)(x:ag):ag:=(ag.mk (J.mk (k) (k+1) (c7 (k+1+1) x.left.M)) (J.mk (k+1+1+(aF bm x.left.M:Int)) (k+1+1+(aF bm x.left.M:Int)+1) (c7 (k+1+1+(aF bm x.left.M:Int)+1+1) x.right.M)) x.bp x.ref x.steps)
def OF(k:Int)(x:ag):ag:=(ag.mk (J.mk (k) (k+1) (c7 (k+1+1) x.left.M)) (J.mk (k+1+1+(aF bm x.left.M:Int)) (k+1+1+(aF bm x.left.M:Int)+1) (c7 (k+1+1+(aF bm x.left.M:Int)+1+1) x.right.M)) (k+1+1+(aF bm x.left.M:Int)+1+1+(aF bm x.right.M:Int)) x.ref x.steps)
def OG(k:Int)(x:ag):ag:=(ag.mk (J.mk (k) (k+1) (c7 (k+1+1) x.left.M)) (J.mk (k+1+1+(aF bm x.left.M:Int)) (k+1+1+(aF bm x.left.M:Int)+1) (c7 (k+1+1+(aF bm x.left.M:Int)+1+1) x.right.M)) (k+1+1+(aF bm x.left.M:Int)+1+1+(aF bm x.right.M:Int)) (k+1+1+(aF bm x.left.M:Int)+1+1+(aF bm x.right.M:Int)+1) x.steps)
def OH(k:Int)(x:ag):ag:=(ag.mk (J.mk (k) (k+1) (c7 (k+1+1) x.left.M)) (J.mk (k+1+1+(aF bm x.left.M:Int)) (k+1+1+(aF bm x.left.M:Int)+1) (c7 (k+1+1+(aF bm x.left.M:Int)+1+1) x.right.M)) (k+1+1+(aF bm x.left.M:Int)+1+1+(aF bm x.right.M:Int)) (k+1+1+(aF bm x.left.M:Int)+1+1+(aF bm x.right.M:Int)+1) (iL aA bq (k+1+1+(aF bm x.left.M:Int)+1+1+(aF bm x.right.M:Int)+1+1) x.steps))
def Zg(k:Int)(x:ag):OH k x=bF k x:=(a1g k x).symm
def W0(k:Int)(xs:List ag)(i:Nat)(z:ag)(h:i<xs.length):(dW k xs i).set i (OH (k+(aF aG (xs.take i):Int)) (xs.getD i z))=dW k xs (i+1):=a0a aG bF k xs i z h _ (Zg _ _)
def om:MK:=⟨Ba,⟨(.slice (.st .claim)),λ (xs:List ag) (k:Int)=>(some (0<=k/\k+(aF aG xs:Int)<=4611686018427387904),iL aG bF k xs,k+(aF aG xs:Int))⟩⟩
def Ln(xs:List ag)(k:Int):Nat->aE:=(λ zb=>if Nat.beq zb 0 then .mk (Nat) (λ i=>i<=xs.length) (λ i=>xs.length - i) [] [4] (λ i=>[(5, .aI ⟨(.int .i64),((i:Int):Int)⟩),(1, .aI ⟨(.int .i64),(k+(aF aG (xs.take i):Int):Int)⟩),(0, .aw 50)]) [] (λ i=>[(50, .aw (.st .claim) (dW k xs i:List ag))]) [] [] (λ i=>(λ zb=>if Nat.beq zb 100006 then .mk (Unit) (λ u=>i<xs.length) (λ u=>0) [] [6,7,8,9,12,13,14,15,16,17] (λ u=>[(5, .aI ⟨(.int .i64),((i:Int):Int)⟩),(1, .aI ⟨(.int .i64),(k+(aF aG (xs.take i):Int)+1:Int)⟩),(0, .aw 50)]) [] (λ u=>[(50, .aw (.st .claim) ((dW k xs i).set i (Oz (k+(aF aG (xs.take i):Int)) (xs.getD i (ag.mk zE zE (0:Int) (0:Int) []))):List ag))]) [] [] (λ u=>(λ zb=>if Nat.beq zb 100008 then .mk (Unit) (λ u=>i<xs.length) (λ u=>0) [] [20,21,22,23,24,25] (λ u=>[(5, .aI ⟨(.int .i64),((i:Int):Int)⟩),(1, .aI ⟨(.int .i64),(k+(aF aG (xs.take i):Int)+1+1:Int)⟩),(0, .aw 50)]) [] (λ u=>[(50, .aw (.st .claim) ((dW k xs i).set i (OA (k+(aF aG (xs.take i):Int)) (xs.getD i (ag.mk zE zE (0:Int) (0:Int) []))):List ag))]) [] [] (λ u=>(λ zb=>if Nat.beq zb 100009 then .mk (Unit) (λ u=>i<xs.length) (λ u=>0) [] [] (λ u=>[(5, .aI ⟨(.int .i64),((i:Int):Int)⟩),(1, .aI ⟨(.int .i64),(k+(aF aG (xs.take i):Int)+1+1+(aF bm (xs.getD i (ag.mk zE zE (0:Int) (0:Int) [])).left.M:Int):Int)⟩),(0, .aw 50)]) [] (λ u=>[(50, .aw (.st .claim) ((dW k xs i).set i (OB (k+(aF aG (xs.take i):Int)) (xs.getD i (ag.mk zE zE (0:Int) (0:Int) []))):List ag))]) [] [] (λ u=>(λ zb=>if Nat.beq zb 100011 then .mk (Unit) (λ u=>i<xs.length) (λ u=>0) [] [36,37,38,39,40,41] (λ u=>[(5, .aI ⟨(.int .i64),((i:Int):Int)⟩),(1, .aI ⟨(.int .i64),(k+(aF aG (xs.take i):Int)+1+1+(aF bm (xs.getD i (ag.mk zE zE (0:Int) (0:Int) [])).left.M:Int)+1:Int)⟩),(0, .aw 50)]) [] (λ u=>[(50, .aw (.st .claim) ((dW k xs i).set i (OC (k+(aF aG (xs.take i):Int)) (xs.getD i (ag.mk zE zE (0:Int) (0:Int) []))):List ag))]) [] [] (λ u=>(λ zb=>if Nat.beq zb 100013 then .mk (Unit) (λ u=>i<xs.length) (λ u=>0) [] [44,45,46,47,48,49] (λ u=>[(5, .aI ⟨(.int .i64),((i:Int):Int)⟩),(1, .aI ⟨(.int .i64),(k+(aF aG (xs.take i):Int)+1+1+(aF bm (xs.getD i (ag.mk zE zE (0:Int) (0:Int) [])).left.M:Int)+1+1:Int)⟩),(0, .aw 50)]) [] (λ u=>[(50, .aw (.st .claim) ((dW k xs i).set i (OD (k+(aF aG (xs.take i):Int)) (xs.getD i (ag.mk zE zE (0:Int) (0:Int) []))):List ag))]) [] [] (λ u=>(λ zb=>if Nat.beq zb 100014 then .mk (Unit) (λ u=>i<xs.length) (λ u=>0) [] [] (λ u=>[(5, .aI ⟨(.int .i64),((i:Int):Int)⟩),(1, .aI ⟨(.int .i64),(k+(aF aG (xs.take i):Int)+1+1+(aF bm (xs.getD i (ag.mk zE zE (0:Int) (0:Int) [])).left.M:Int)+1+1+(aF bm (xs.getD i (ag.mk zE zE (0:Int) (0:Int) [])).right.M:Int):Int)⟩),(0, .aw 50)]) [] (λ u=>[(50, .aw (.st .claim) ((dW k xs i).set i (OE (k+(aF aG (xs.take i):Int)) (xs.getD i (ag.mk zE zE (0:Int) (0:Int) []))):List ag))]) [] [] (λ u=>(λ zb=>if Nat.beq zb 100016 then .mk (Unit) (λ u=>i<xs.length) (λ u=>0) [] [60,61,62,63,64] (λ u=>[(5, .aI ⟨(.int .i64),((i:Int):Int)⟩),(1, .aI ⟨(.int .i64),(k+(aF aG (xs.take i):Int)+1+1+(aF bm (xs.getD i (ag.mk zE zE (0:Int) (0:Int) [])).left.M:Int)+1+1+(aF bm (xs.getD i (ag.mk zE zE (0:Int) (0:Int) [])).right.M:Int)+1:Int)⟩),(0, .aw 50)]) [] (λ u=>[(50, .aw (.st .claim) ((dW k xs i).set i (OF (k+(aF aG (xs.take i):Int)) (xs.getD i (ag.mk zE zE (0:Int) (0:Int) []))):List ag))]) [] [] (λ u=>(λ zb=>if Nat.beq zb 100018 then .mk (Unit) (λ u=>i<xs.length) (λ u=>0) [] [67,68,69,70,71] (λ u=>[(5, .aI ⟨(.int .i64),((i:Int):Int)⟩),(1, .aI ⟨(.int .i64),(k+(aF aG (xs.take i):Int)+1+1+(aF bm (xs.getD i (ag.mk zE zE (0:Int) (0:Int) [])).left.M:Int)+1+1+(aF bm (xs.getD i (ag.mk zE zE (0:Int) (0:Int) [])).right.M:Int)+1+1:Int)⟩),(0, .aw 50)]) [] (λ u=>[(50, .aw (.st .claim) ((dW k xs i).set i (OG (k+(aF aG (xs.take i):Int)) (xs.getD i (ag.mk zE zE (0:Int) (0:Int) []))):List ag))]) [] [] (λ u=>λ _ => .none) else .none)) else .none)) else .none)) else .none)) else .none)) else .none)) else .none)) else .none)) else .none)
def JM(hE:aC [])(hO:cO [])(hM:cT [kI,jF])(hS:cR []):MK.Good om:=by
 refine⟨au yy rfl (by decide),wq (own:=[35,59,80]) (wr:=[]) (cl:=[]) (ro:=[]) hE hO hM hS yy Hx (λ xs k=>Ln xs k) (λ x=>b4w rfl) (b4w (by kernel_rfl)) (λ (xs:List ag) (k:Int)=>(let v0:=ag.mk zE zE (0:Int) (0:Int) [];let v1:=(1:Int);(((∃ i1:Nat,(i1<=xs.length/\((True/\(k=(k+(aF aG (xs.take i1):Int))/\((0:Int)=(i1:Int)/\True)))/\(xs=(dW k xs i1)/\True))))/\(∀ i1:Nat,let v2:=(aF aG (xs.take i1):Int);let v3:=xs.getD i1 v0;let v4:=dW k xs i1;let v5:=(aF bm v3.left.M:Int);let v6:=k+v2;let v7:=(aF bm v3.right.M:Int);let vc:=v4.set i1 (Oz v6 v3);let vd:=v4.set i1 (OB v6 v3);let ve:=v4.set i1 (OC v6 v3);let vf:=k+v2+1+1+v5+1+1+v7+1+1;let vg:=v4.set i1 (OE v6 v3);let vh:=v4.set i1 (OF v6 v3);let vi:=k+v2+1+1+v5+1+1+v7+1;let vj:=k+v2+1+1+v5+1+1;let vk:=(i1:Int);let vb:=vk=vk/\True;let vl:=k+v2+1+1+v5+1+1+v7;let vm:=v4.set i1 (OA v6 v3);let v8:=vm.getD i1 v0;let vn:=v4.set i1 (OD v6 v3);let v9:=vn.getD i1 v0;let vo:=v4.set i1 (OG v6 v3);let va:=vo.getD i1 v0;let vp:=k+v2+1+1+v5+1;let vq:=v4.getD i1 v0;let vr:=vc.getD i1 v0;let vs:=vd.getD i1 v0;let vt:=ve.getD i1 v0;let vu:=k+v2+1+1+v5;let vv:=k+v2+1+1;let vw:=vg.getD i1 v0;let vx:=vh.getD i1 v0;let vy:=decide (vk<((v4.length:Int)));let vz:=(aF aA va.steps:Int);(i1<=xs.length->((vy=true->(ak vk v4.length/\((O (v6+v1)/\(∃ u2:Unit,(i1<xs.length/\((True/\((v6+v1)=(k+v2+1)/\vb))/\((v4.set i1 (ag.mk (J.mk v6 vq.left.aM vq.left.M) (aJ vq.right) vq.bp vq.ref vq.steps))=vc/\True)))))/\(∀ u2:Unit,(i1<xs.length->(ak vk vc.length/\((O ((k+v2+1)+v1)/\(∃ u3:Unit,(i1<xs.length/\((True/\(((k+v2+1)+v1)=vv/\vb))/\((vc.set i1 (ag.mk (J.mk vr.left.aq (k+v2+1) vr.left.M) (aJ vr.right) vr.bp vr.ref vr.steps))=vm/\True)))))/\(∀ u3:Unit,(i1<xs.length->((ak vk vm.length/\((0<=vv/\vv+(aF bm v8.left.M:Int)<=4611686018427387904)/\(∃ u4:Unit,(i1<xs.length/\((True/\((vv+(aF bm v8.left.M:Int))=vu/\vb))/\((vm.set i1 (ag.mk (J.mk v8.left.aq v8.left.aM (c7 vv v8.left.M)) (aJ v8.right) v8.bp v8.ref v8.steps))=vd/\True))))))/\(∀ u4:Unit,(i1<xs.length->(ak vk vd.length/\((O (vu+v1)/\(∃ u5:Unit,(i1<xs.length/\((True/\((vu+v1)=vp/\vb))/\((vd.set i1 (ag.mk (aJ vs.left) (J.mk vu vs.right.aM vs.right.M) vs.bp vs.ref vs.steps))=ve/\True)))))/\(∀ u5:Unit,(i1<xs.length->(ak vk ve.length/\((O (vp+v1)/\(∃ u6:Unit,(i1<xs.length/\((True/\((vp+v1)=vj/\vb))/\((ve.set i1 (ag.mk (aJ vt.left) (J.mk vt.right.aq vp vt.right.M) vt.bp vt.ref vt.steps))=vn/\True)))))/\(∀ u6:Unit,(i1<xs.length->((ak vk vn.length/\((0<=vj/\vj+(aF bm v9.right.M:Int)<=4611686018427387904)/\(∃ u7:Unit,(i1<xs.length/\((True/\((vj+(aF bm v9.right.M:Int))=vl/\vb))/\((vn.set i1 (ag.mk (aJ v9.left) (J.mk v9.right.aq v9.right.aM (c7 vj v9.right.M)) v9.bp v9.ref v9.steps))=vg/\True))))))/\(∀ u7:Unit,(i1<xs.length->(ak vk vg.length/\((O (vl+v1)/\(∃ u8:Unit,(i1<xs.length/\((True/\((vl+v1)=vi/\vb))/\((vg.set i1 (ag.mk (aJ vw.left) (aJ vw.right) vl vw.ref vw.steps))=vh/\True)))))/\(∀ u8:Unit,(i1<xs.length->(ak vk vh.length/\((O (vi+v1)/\(∃ u9:Unit,(i1<xs.length/\((True/\((vi+v1)=vf/\vb))/\((vh.set i1 (ag.mk (aJ vx.left) (aJ vx.right) vx.bp vi vx.steps))=vo/\True)))))/\(∀ u9:Unit,(i1<xs.length->(ak vk vo.length/\((0<=vf/\vf+vz<=4611686018427387904)/\(O (vk+v1)/\(∃ i10:Nat,(i10<=xs.length/\(xs.length - i10<xs.length - i1/\((True/\((vf+vz)=(k+(aF aG (xs.take i10):Int))/\((vk+v1)=(i10:Int)/\True)))/\((vo.set i1 (ag.mk (aJ va.left) (aJ va.right) va.bp va.ref (iL aA bq vf va.steps)))=(dW k xs i10)/\True)))))))))))))))))))))))))))))))))))))))/\(vy=false->(v6=(k+(aF aG xs:Int))/\v4=(iL aG bF k xs)))))))))) (λ (xs:List ag) (k:Int)=>by kernel_rfl) ?_⟩;show ∀ (xs:List ag) (k:Int),(0<=k/\k+(aF aG xs:Int)<=4611686018427387904)->O k->_;intro xs k hp hk;have f0:=W1 k xs;have f1:=ij aG xs;have f2:=RL aG (λ x=>by rw[uL];omega) xs;refine⟨⟨0,?_,⟨U,?_,?_,U⟩,?_,U⟩,λ i1 _=>have El:=YT k xs i1;have qO:=YV k xs i1 (ag.mk zE zE (0:Int) (0:Int) []);have yD:=YU k xs i1 (ag.mk zE zE (0:Int) (0:Int) []);have Ir:=W0 k xs i1 (ag.mk zE zE (0:Int) (0:Int) []);have TJ:=L7 k xs i1;have Wh:=ft aG (ag.mk zE zE (0:Int) (0:Int) []) xs i1;have Zv:=b9 aG xs i1;have Zw:=b9 aG xs (i1+1);have Zx:=gZ aG xs i1;have a1J:=uL (xs.getD i1 (ag.mk zE zE (0:Int) (0:Int) []));⟨λ _=>⟨?_,⟨?_,(),?_,⟨U,?_,rfl,U⟩,?_,U⟩,λ u2 _=>⟨?_,⟨?_,(),?_,⟨U,?_,rfl,U⟩,?_,U⟩,λ u3 _=>⟨⟨?_,?_,(),?_,⟨U,?_,rfl,U⟩,?_,U⟩,λ u4 _=>⟨?_,⟨?_,(),?_,⟨U,?_,rfl,U⟩,?_,U⟩,λ u5 _=>⟨?_,⟨?_,(),?_,⟨U,?_,rfl,U⟩,?_,U⟩,λ u6 _=>⟨⟨?_,?_,(),?_,⟨U,?_,rfl,U⟩,?_,U⟩,λ u7 _=>⟨?_,⟨?_,(),?_,⟨U,?_,rfl,U⟩,?_,U⟩,λ u8 _=>⟨?_,⟨?_,(),?_,⟨U,?_,rfl,U⟩,?_,U⟩,λ u9 _=>⟨?_,?_,?_,i1+1,?_,?_,⟨U,?_,?_,U⟩,?_,U⟩⟩⟩⟩⟩⟩⟩⟩⟩,λ _=>⟨?_,?_⟩⟩⟩;all_goals try and_intros
 all_goals try (first|with_reducible rfl|with_reducible assumption)
 all_goals try simp only[J.eta,ag.eta,ar.eta,aK,br,bG] at *
 all_goals first|rfl|trivial|omega|(simp only[b6I,b5e,b3E,b3D,ak,O] at *;first|omega|exact El (by omega)|(simp only[qO _ (by omega)];rfl)|(simp only[qO _ (by omega),yD (by omega)];first|done|omega|rfl)|(simp only[yD (by omega)];first|done|omega|rfl)|(simp only[qO _ (by omega)];first|omega|exact Ir (by omega))|(simp only[qO _ (by omega),Oz,OA,OB,OC,OD,OE,OF,OG,OH];first|done|omega)|grind)
def Gs:MK.Good om:=JM trivial trivial ⟨lI,A1,U⟩ trivial
def pS:MK:=⟨CU,⟨(.st .proof),λ (x:aj) (k:Int)=>(some (0<=k/\k+(aF aG x.ai:Int)<=4611686018427387904),(aj.mk x.sig (iL aG bF k x.ai)),k+(aF aG x.ai:Int))⟩⟩
def NU(x:aj)(k:Int):Nat->aE:=λ _ => .none
def LC(hE:aC [])(hO:cO [])(hM:cT [om])(hS:cR []):MK.Good pS:=by
 refine⟨au zI rfl (by decide),wq (own:=[8]) (wr:=[]) (cl:=[]) (ro:=[]) hE hO hM hS zI ID (λ x k=>NU x k) (λ x=>b4w rfl) (b4w (by kernel_rfl)) (λ (x:aj) (k:Int)=>(let v0:=(aF aG x.ai:Int);let v1:=aj.mk x.sig (iL aG bF k x.ai);(((0<=k/\k+v0<=4611686018427387904)/\((k+v0)=(k+v0)/\v1=v1))))) (λ (x:aj) (k:Int)=>by kernel_rfl) ?_⟩;show ∀ (x:aj) (k:Int),(0<=k/\k+(aF aG x.ai:Int)<=4611686018427387904)->O k->_;intro x k hp hk;refine⟨?_,⟨rfl,rfl⟩⟩;all_goals try and_intros
 all_goals first|rfl|trivial|omega|(simp only[b3E,b3D,ak,O,bQ,cw,bI,aY] at *;omega)|(simp[ak,O] at *;omega)|grind
def HW:MK.Good pS:=LC trivial trivial ⟨Gs,U⟩ trivial
end
end Go.Proofs.YtmjfpcajohhbeaaGreatDoor

set_option maxRecDepth 4000
set_option maxHeartbeats 4000000
namespace Go.Proofs.YtmjfpcajohhbeaaGreatDoor
noncomputable section
mutual
def a1O:∀ (k:Int) (x:J),bm (SE k x)=bm x
 | k,⟨a,b,ks⟩=>by
  have:=RJ (k+2) ks;simp only[SE,bm,this]
def RJ:∀ (k:Int) (xs:List J),Dg (c7 k xs)=Dg xs
 | _,[]=>rfl
 | k,x::xs=>by
  have h1:=a1O k x;have h2:=RJ (k+(bm x:Int)) xs;simp only[c7,Dg,h1,h2]
end
mutual
def a9g:∀ (k:Int) (x:J),SE k (SE k x)=SE k x
 | k,⟨a,b,ks⟩=>by
  have:=QA (k+2) ks;simp only[SE,this]
def QA:∀ (k:Int) (xs:List J),c7 k (c7 k xs)=c7 k xs
 | _,[]=>rfl
 | k,x::xs=>by
  have h1:=a9g k x;have h2:=a1O k x;have h3:=QA (k+(bm x:Int)) xs;simp only[c7,h1,h2,h3]
end
def jL(k:Int)(xs:List J):Bool:=bC (c7 k xs) xs
def o5(k:Int)(xs:List J):Int:=bif jL k xs then k+(aF bm xs:Int) else -1
def tq(k:Int)(xs:List J):(jL k xs=true/\o5 k xs=k+(aF bm xs:Int))\/(jL k xs=false/\o5 k xs = -1):=by
 unfold o5;cases jL k xs<;>simp
def XR(z:J):∀ (k:Int) (xs:List J) (i:Nat),i<xs.length->c7 k (xs.take (i+1))=c7 k (xs.take i)++[SE (k+(aF bm (xs.take i):Int)) (xs.getD i z)]
 | k,[],i,h=>by simp at h
 | k,x::xs,0,h=>by simp[c7,aF]
 | k,x::xs,i+1,h=>by
  have:=XR z (k+(bm x:Int)) xs i (by simpa using h);simp only[List.take_succ_cons,c7,this,List.getD_cons_succ,aF,List.cons_append];congr 4;omega
def okX(k:Int)(x:J):Bool:=decide (x.aq=k)&&decide (x.aM=k+1)&&jL (k+2) x.M
def a2H(k:Int)(x:J):okX k x=true↔SE k x=x:=by
 cases x;simp[okX,jL,SE];constructor
 .rintro⟨⟨h1,h2⟩,h3⟩;exact⟨h1.symm,h2.symm,h3⟩
 .rintro⟨h1,h2,h3⟩;exact⟨⟨h1.symm,h2.symm⟩,h3⟩
def a4k(z:J)(k:Int)(xs:List J)(i:Nat)(h:i<xs.length):jL k (xs.take (i+1))=(jL k (xs.take i)&&okX (k+(aF bm (xs.take i):Int)) (xs.getD i z)):=by
 rw[b5A,b3J,a2H];simp only[jL,iA];rw[XR z k xs i h,cr z xs i h];constructor
 .intro e;have:=List.append_inj e (by rw[kH]);exact⟨this.1,by simpa using this.2⟩
 .rintro⟨e1,e2⟩;rw[e1,e2]
def a6e(z:J)(k:Int)(xs:List J)(i:Nat)(h:i<xs.length)(e:okX (k+(aF bm (xs.take i):Int)) (xs.getD i z)=false):jL k xs=false:=by
 cases hb:jL k xs with
 | false=>rfl
 | true =>
  have h1:=N2 z k xs i h;simp only[jL,iA] at hb;rw[hb] at h1;have:=(a2H _ _).2 h1.symm;rw[e] at this;cases this
def a4j(k:Int)(xs:List J)(i:Nat)(h:xs.length<=i):jL k (xs.take i)=jL k xs:=by rw[b4a h]
def a4i(k:Int)(x:J):okX k x=(decide (x.aq=k)&&decide (x.aM=k+1)&&jL (k+1+1) x.M):=by
 rw[okX,show k+2=k+1+1 by omega]
def pM(n:Nat):aH:=⟨l6,[.v (.slice (.st .expr)), .v (.int .i64)],λ (xs:List J) (k:Int)=>⟨(some (cf xs<n/\0<=k/\k+(aF bm xs:Int)<=4611686018427387904),[⟨(.int .i64),o5 k xs⟩])⟩⟩
def rI:aH:=⟨l6,[.v (.slice (.st .expr)), .v (.int .i64)],λ (xs:List J) (k:Int)=>⟨(some (0<=k/\k+(aF bm xs:Int)<=4611686018427387904),[⟨(.int .i64),o5 k xs⟩])⟩⟩
def Qm(xs:List J)(k:Int):Nat->aE:=(λ zb=>if Nat.beq zb 0 then .mk (Nat) (λ i=>i<=xs.length/\jL k (xs.take i)=true) (λ i=>xs.length - i) [] [] (λ i=>[(5, .aI ⟨(.int .i64),((i:Int):Int)⟩),(1, .aI ⟨(.int .i64),((k+(aF bm (xs.take i):Int)):Int)⟩)]) [] (λ i=>[]) [] [] (λ i=>λ _ => .none) else .none)
def N9(n:Nat)(hE:aC [pM n]):aH.Good (pM (n+1)):=by
 refine⟨au ke rfl (by decide),?_⟩;show ∀ (xs:List J) (k:Int),(cf xs<n+1/\0<=k/\k+(aF bm xs:Int)<=4611686018427387904)->bd prog l6 [.val ⟨(.slice (.st .expr)),xs⟩, .val ⟨(.int .i64),k⟩] (·=[⟨(.int .i64),o5 k xs⟩]);intro xs k hp;refine aU (wr:=[]) (cl:=[]) (ro:=[]) hE ke IA (Qm xs k) (let v0:=(1:Int);let v1:=(xs.length:Int);let v2:=o5 k xs;(((∃ i1:Nat,((i1<=xs.length/\jL k (xs.take i1)=true)/\((xs=xs/\(k=(k+(aF bm (xs.take i1):Int))/\((0:Int)=(i1:Int)/\True)))/\True)))/\(∀ i1:Nat,let v3:=k+(aF bm (xs.take i1):Int);let v4:=xs.getD i1 zE;let v6:=(i1:Int);let v7:=(v3+v0)+v0;let v5:=o5 v7 v4.M;let v8 := !(decide (v4.aM=(v3+v0)));((i1<=xs.length/\jL k (xs.take i1)=true)->(O v1->(((decide (v6<v1))=true->(ak v6 xs.length/\(O v4.aq->(((!(decide (v4.aq=v3)))=true->(-1:Int)=v2)/\((!(decide (v4.aq=v3)))=false->(O (v3+v0)/\(ak v6 xs.length/\(O v4.aM->((v8=true->(-1:Int)=v2)/\(v8=false->(O v7/\(ak v6 xs.length/\(v4.M.length<=140737488355328->((cf v4.M<n/\0<=v7/\v7+(aF bm v4.M:Int)<=4611686018427387904)/\(O v5->(((decide (v5<(0:Int)))=true->(-1:Int)=v2)/\((decide (v5<(0:Int)))=false->(O (v6+v0)/\(∃ i2:Nat,((i2<=xs.length/\jL k (xs.take i2)=true)/\(xs.length - i2<xs.length - i1/\((xs=xs/\(v5=(k+(aF bm (xs.take i2):Int))/\((v6+v0)=(i2:Int)/\True)))/\True))))))))))))))))))))))/\((decide (v6<v1))=false->v3=v2)))))))) (by kernel_rfl) ?_;have f0:jL k (xs.take 0)=true:=by simp[jL,c7]
 have f1:=ij bm xs;have f2:=tq k xs;refine⟨⟨0,?_,⟨rfl,?_,?_,U⟩,U⟩,λ i1 _=>have El:=a4k zE k xs i1;have qO:=a6e zE k xs i1;have yD:=a4j k xs i1;have Ir:=a4i (k+(aF bm (xs.take i1):Int)) (xs.getD i1 zE);have TJ:=tq ((k+(aF bm (xs.take i1):Int))+1+1) (xs.getD i1 zE).M;have Wh:=ft bm zE xs i1;have Zv:=b9 bm xs i1;have Zw:=b9 bm xs (i1+1);have Zx:=gZ bm xs i1;have a1J:=Wq (xs.getD i1 zE);have a0F:=cb zE xs i1;have a0G:=dn (xs.getD i1 zE);λ _=>⟨λ _=>⟨?_,λ _=>⟨λ _=>?_,λ _=>⟨?_,?_,λ _=>⟨λ _=>?_,λ _=>⟨?_,?_,λ _=>⟨?_,λ _=>⟨λ _=>?_,λ _=>⟨?_,i1+1,?_,?_,⟨rfl,?_,?_,U⟩,U⟩⟩⟩⟩⟩⟩⟩⟩,λ _=>?_⟩⟩;all_goals try and_intros
 all_goals first|rfl|trivial|omega|(simp only[b3E,b3D,ak,O,b3S,b4f] at *;first|omega|grind)
def Ij :∀ n,aC [pM n]
 | 0=>⟨⟨au ke rfl (by decide),λ _ _ h=>absurd h.1 (b4y _)⟩,U⟩
 | n+1=>by
  have ih:=Ij  n;exact⟨N9 n ⟨ih.1,U⟩,U⟩
def vO :aH.Good rI :=
 ⟨au ke rfl (by decide),λ xs k hp=>(Ij  (cf xs+1)).1.2 xs k (⟨b4v _,hp⟩)⟩
end
end Go.Proofs.YtmjfpcajohhbeaaGreatDoor

set_option maxRecDepth 4000
set_option maxHeartbeats 4000000
namespace Go.Proofs.YtmjfpcajohhbeaaGreatDoor
noncomputable section
theorem a0b{α:Type}(cJ:α->Nat)(mk:Int->α->α)(z:α):∀ (k:Int) (xs:List α) (i:Nat),i<xs.length->iL cJ mk k (xs.take (i+1))=iL cJ mk k (xs.take i)++[mk (k+(aF cJ (xs.take i):Int)) (xs.getD i z)]
 | k,[],i,h=>by simp at h
 | k,x::xs,0,h=>by simp[iL,aF]
 | k,x::xs,i+1,h=>by
  have:=a0b cJ mk z (k+(cJ x:Int)) xs i (by simpa using h);simp only[List.take_succ_cons,iL,this,List.getD_cons_succ,aF,List.cons_append];congr 4;omega
theorem VK{α:Type}(cJ:α->Nat)(mk:Int->α->α)(h1:∀ k x,mk k (mk k x)=mk k x)(h2:∀ k x,cJ (mk k x)=cJ x):∀ (k:Int) (xs:List α),iL cJ mk k (iL cJ mk k xs)=iL cJ mk k xs/\aF cJ (iL cJ mk k xs)=aF cJ xs
 | _,[]=>⟨rfl,rfl⟩
 | k,x::xs=>by
  obtain⟨i1,i2⟩:=VK cJ mk h1 h2 (k+(cJ x:Int)) xs;simp only[iL,aF,h1,h2,i1,i2,and_self]
theorem Kc(k:Int)(xs:List J):aF bm (c7 k xs)=aF bm xs:=by
 have:=RJ k xs;rw[Ex,Ex] at this;exact this
theorem XP:∀ (k:Int) (xs:List Int),ez k (ez k xs)=ez k xs
 | _,[]=>rfl
 | k,x::xs=>by simp only[ez,XP (k+1) xs]
theorem a4f(k:Int)(xs:List Int):ff k xs=bC (ez k xs) xs:=by
 rw[b5A,iA];refine⟨λ h=>?_,λ h=>by rw[<-h];exact a4g k xs⟩;have h1:=(CZ k xs).1 h;refine List.ext_getElem (fN k xs) λ i hi hi2=>?_;have h2:=ze k xs i 0 hi2;have h3:=h1 i hi2;rw[b3V,b4j hi] at h2;rw[b3V,b4j hi2] at h3;exact h2.trans h3.symm
theorem a5T(k:Int)(xs:List Int):(ff k xs=true/\F7 k xs=k+(xs.length:Int))\/(ff k xs=false/\F7 k xs = -1):=by
 unfold F7;cases ff k xs<;>simp
section
variable {α:Type} (cJ:α->Nat) (mk:Int->α->α)
def sC(k:Int)(xs:List α):Bool:=bC (iL cJ mk k xs) xs
def kt(k:Int)(xs:List α):Int:=bif sC cJ mk k xs then k+(aF cJ xs:Int) else -1
theorem Kh(k:Int)(xs:List α):(sC cJ mk k xs=true/\kt cJ mk k xs=k+(aF cJ xs:Int))\/(sC cJ mk k xs=false/\kt cJ mk k xs = -1):=by
 unfold kt;cases sC cJ mk k xs<;>simp
theorem a0d(z:α)(k:Int)(xs:List α)(i:Nat)(h:i<xs.length):sC cJ mk k (xs.take (i+1))=(sC cJ mk k (xs.take i)&&bC (mk (k+(aF cJ (xs.take i):Int)) (xs.getD i z)) (xs.getD i z)):=by
 rw[b5A,b3J];simp only[sC,iA];rw[a0b cJ mk z k xs i h,cr z xs i h];constructor
 .intro e;have:=List.append_inj e (by rw[iM]);exact⟨this.1,by simpa using this.2⟩
 .rintro⟨e1,e2⟩;rw[e1,e2]
theorem a2G(z:α)(k:Int)(xs:List α)(i:Nat)(h:i<xs.length)(e:bC (mk (k+(aF cJ (xs.take i):Int)) (xs.getD i z)) (xs.getD i z)=false):sC cJ mk k xs=false:=by
 cases hb:sC cJ mk k xs with
 | false=>rfl
 | true =>
  have h1:=SD cJ mk z k xs i h;simp only[sC,iA] at hb;rw[hb] at h1;have:=iA.2 h1.symm;rw[e] at this;cases this
theorem a0c(k:Int)(xs:List α)(i:Nat)(h:xs.length<=i):sC cJ mk k (xs.take i)=sC cJ mk k xs:=by rw[b4a h]
end
theorem a9e(k:Int)(x:ae):bq k (bq k x)=bq k x:=by
 simp only[bq,Kc,QA,XP,fN]
theorem a7g(k:Int)(x:ae):aA (bq k x)=aA x:=by
 simp only[bq,aA,Kc,fN]
theorem XQ(k:Int)(xs:List ae):iL aA bq k (iL aA bq k xs)=iL aA bq k xs/\aF aA (iL aA bq k xs)=aF aA xs:=VK aA bq a9e a7g k xs
theorem a5g(k:Int)(x:ag):bF k (bF k x)=bF k x:=by
 simp only[bF,Kc,QA,(XQ _ _).1,(XQ _ _).2]
theorem a1N(k:Int)(x:ag):aG (bF k x)=aG x:=by
 simp only[bF,aG,Kc,(XQ _ _).2]
theorem a3N(k:Int)(xs:List ag):kt aG bF k (iL aG bF k xs)=k+(aF aG xs:Int):=by
 obtain⟨h1,h2⟩:=VK aG bF a5g a1N k xs;have:sC aG bF k (iL aG bF k xs)=true:=by
  unfold sC;rw[iA];exact h1
 unfold kt;rw[this,h2];rfl
theorem a4h(k:Int)(x:ae):bC (bq k x) x=(decide (x.use=k)&&decide (x.back=decide ((k+1).tmod 3=0))&&ff (k+1+1) x.path&&jL (k+1+1+(x.path.length:Int)) x.az &&
  jL (k+1+1+(x.path.length:Int)+(aF bm x.az:Int)) x.bf):=by
 obtain⟨a,b,p,t,c⟩:=x;rw[b5A];simp only[jL,a4f,iA,bq,b3J,b3E,ae.mk.injEq];constructor
 .rintro⟨h1,h2,h3,h4,h5⟩;exact⟨⟨⟨⟨h1.symm,h2.symm⟩,h3⟩,h4⟩,h5⟩
 .rintro⟨⟨⟨⟨h1,h2⟩,h3⟩,h4⟩,h5⟩;exact⟨h1.symm,h2.symm,h3,h4,h5⟩
theorem a4e(k:Int)(x:ag):bC (bF k x) x=(decide (x.left.aq=k)&&decide (x.left.aM=k+1)&&jL (k+1+1) x.left.M&&decide (x.right.aq=k+1+1+(aF bm x.left.M:Int)) &&
  decide (x.right.aM=k+1+1+(aF bm x.left.M:Int)+1)&&jL (k+1+1+(aF bm x.left.M:Int)+1+1) x.right.M&&decide (x.bp=k+1+1+(aF bm x.left.M:Int)+1+1+(aF bm x.right.M:Int)) &&
  decide (x.ref=k+1+1+(aF bm x.left.M:Int)+1+1+(aF bm x.right.M:Int)+1)&&sC aA bq (k+1+1+(aF bm x.left.M:Int)+1+1+(aF bm x.right.M:Int)+1+1) x.steps):=by
 obtain⟨⟨a,b,l⟩,⟨c,d,r⟩,e,f,s⟩:=x;rw[b5A];simp only[sC,jL,iA,bF,b3J,b3E,ag.mk.injEq,J.mk.injEq];constructor
 .rintro⟨⟨h1,h2,h3⟩,⟨h4,h5,h6⟩,h7,h8,h9⟩;exact⟨⟨⟨⟨⟨⟨⟨⟨h1.symm,h2.symm⟩,h3⟩,h4.symm⟩,h5.symm⟩,h6⟩,h7.symm⟩,h8.symm⟩,h9⟩
 .rintro⟨⟨⟨⟨⟨⟨⟨⟨h1,h2⟩,h3⟩,h4⟩,h5⟩,h6⟩,h7⟩,h8⟩,h9⟩;exact⟨⟨h1.symm,h2.symm,h3⟩,⟨h4.symm,h5.symm,h6⟩,h7.symm,h8.symm,h9⟩
def kB:aH:=⟨kJ,[.v (.slice (.st .proofStep)), .v (.int .i64)],λ (xs:List ae) (k:Int)=>⟨(some (0<=k/\k+(aF aA xs:Int)<=4611686018427387904),[⟨(.int .i64),kt aA bq k xs⟩])⟩⟩
def Gp(xs:List ae)(k:Int):Nat->aE:=(λ zb=>if Nat.beq zb 0 then .mk (Nat) (λ i=>i<=xs.length/\sC aA bq k (xs.take i)=true) (λ i=>xs.length - i) [] [] (λ i=>[(5, .aI ⟨(.int .i64),((i:Int):Int)⟩),(1, .aI ⟨(.int .i64),((k+(aF aA (xs.take i):Int)):Int)⟩)]) [] (λ i=>[]) [] [] (λ i=>λ _ => .none) else .none)
theorem Fh(hE:aC [pJ,rI]):aH.Good kB:=by
 refine⟨au qj rfl (by decide),?_⟩;show ∀ (xs:List ae) (k:Int),(0<=k/\k+(aF aA xs:Int)<=4611686018427387904)->bd prog kJ [.val ⟨(.slice (.st .proofStep)),xs⟩, .val ⟨(.int .i64),k⟩] (·=[⟨(.int .i64),kt aA bq k xs⟩]);intro xs k hp;refine aU (wr:=[]) (cl:=[]) (ro:=[]) hE qj BE (Gp xs k) (let v1:=(1:Int);let v2:=kt aA bq k xs;let v3:=(0:Int);let v0:=ae.mk v3 false [] [] [];let v4:=(xs.length:Int);(((∃ i1:Nat,((i1<=xs.length/\sC aA bq k (xs.take i1)=true)/\((xs=xs/\(k=(k+(aF aA (xs.take i1):Int))/\(v3=(i1:Int)/\True)))/\True)))/\(∀ i1:Nat,let v6:=k+(aF aA (xs.take i1):Int);let v7:=xs.getD i1 v0;let v9 := !(v7.back == (decide (((v6+v1).tmod (3:Int))=v3)));let va:=(i1:Int);let vc:=(v6+v1)+v1;let v5:=F7 vc v7.path;let v8:=o5 v5 v7.az;let vb:=o5 v8 v7.bf;((i1<=xs.length/\sC aA bq k (xs.take i1)=true)->(O v4->(((decide (va<v4))=true->(ak va xs.length/\(O v7.use->(((!(decide (v7.use=v6)))=true->(-1:Int)=v2)/\((!(decide (v7.use=v6)))=false->(O (v6+v1)/\(ak va xs.length/\(((3:Int)≠v3/\O ((v6+v1).tmod (3:Int)))/\((v9=true->(-1:Int)=v2)/\(v9=false->(O vc/\(ak va xs.length/\(v7.path.length<=140737488355328->((0<=vc/\vc+(v7.path.length:Int)<=4611686018427387904)/\(O v5->(((decide (v5<v3))=true->(-1:Int)=v2)/\((decide (v5<v3))=false->(ak va xs.length/\(v7.az.length<=140737488355328->((0<=v5/\v5+(aF bm v7.az:Int)<=4611686018427387904)/\(O v8->(((decide (v8<v3))=true->(-1:Int)=v2)/\((decide (v8<v3))=false->(ak va xs.length/\(v7.bf.length<=140737488355328->((0<=v8/\v8+(aF bm v7.bf:Int)<=4611686018427387904)/\(O vb->(((decide (vb<v3))=true->(-1:Int)=v2)/\((decide (vb<v3))=false->(O (va+v1)/\(∃ i2:Nat,((i2<=xs.length/\sC aA bq k (xs.take i2)=true)/\(xs.length - i2<xs.length - i1/\((xs=xs/\(vb=(k+(aF aA (xs.take i2):Int))/\((va+v1)=(i2:Int)/\True)))/\True))))))))))))))))))))))))))))))))))/\((decide (va<v4))=false->v6=v2)))))))) (by kernel_rfl) ?_;have f0:sC aA bq k (xs.take 0)=true:=by simp[sC,iL]
 have f1:=ij aA xs;have f2:=Kh aA bq k xs;refine⟨⟨0,?_,⟨rfl,?_,?_,U⟩,U⟩,λ i1 _=>have El:=a0d aA bq (ae.mk (0:Int) false [] [] []) k xs i1;have qO:=a2G aA bq (ae.mk (0:Int) false [] [] []) k xs i1;have yD:=a0c aA bq k xs i1;have Ir:=a4h (k+(aF aA (xs.take i1):Int)) (xs.getD i1 (ae.mk (0:Int) false [] [] []));have TJ:=a5T ((k+(aF aA (xs.take i1):Int))+1+1) (xs.getD i1 (ae.mk (0:Int) false [] [] [])).path;have Wh:=tq ((k+(aF aA (xs.take i1):Int))+1+1+((xs.getD i1 (ae.mk (0:Int) false [] [] [])).path.length:Int)) (xs.getD i1 (ae.mk (0:Int) false [] [] [])).az;have Zv:=tq ((k+(aF aA (xs.take i1):Int))+1+1+((xs.getD i1 (ae.mk (0:Int) false [] [] [])).path.length:Int)+(aF bm (xs.getD i1 (ae.mk (0:Int) false [] [] [])).az:Int)) (xs.getD i1 (ae.mk (0:Int) false [] [] [])).bf;have Zw:=ft aA (ae.mk (0:Int) false [] [] []) xs i1;have Zx:=b9 aA xs i1;have a1J:=b9 aA xs (i1+1);have a0F:=gZ aA xs i1;have a0G:=lY (xs.getD i1 (ae.mk (0:Int) false [] [] []));λ _=>⟨λ _=>⟨?_,λ _=>⟨λ _=>?_,λ _=>⟨?_,?_,⟨?_,?_⟩,λ _=>?_,λ _=>⟨?_,?_,λ _=>⟨?_,λ _=>⟨λ _=>?_,λ _=>⟨?_,λ _=>⟨?_,λ _=>⟨λ _=>?_,λ _=>⟨?_,λ _=>⟨?_,λ _=>⟨λ _=>?_,λ _=>⟨?_,i1+1,?_,?_,⟨rfl,?_,?_,U⟩,U⟩⟩⟩⟩⟩⟩⟩⟩⟩⟩⟩⟩⟩,λ _=>?_⟩⟩;all_goals try and_intros
 all_goals first|rfl|trivial|omega|(simp only[b3E,b3D,ak,O,b3S,b4f] at *;first|omega|grind)
theorem BN:aH.Good kB:=Fh ⟨HH,vO,U⟩
def pI:aH:=⟨pW,[.v (.slice (.st .claim)), .v (.int .i64)],λ (xs:List ag) (k:Int)=>⟨(some (0<=k/\k+(aF aG xs:Int)<=4611686018427387904),[⟨(.int .i64),kt aG bF k xs⟩])⟩⟩
def NP(xs:List ag)(k:Int):Nat->aE:=(λ zb=>if Nat.beq zb 0 then .mk (Nat) (λ i=>i<=xs.length/\sC aG bF k (xs.take i)=true) (λ i=>xs.length - i) [] [] (λ i=>[(5, .aI ⟨(.int .i64),((i:Int):Int)⟩),(1, .aI ⟨(.int .i64),((k+(aF aG (xs.take i):Int)):Int)⟩)]) [] (λ i=>[]) [] [] (λ i=>λ _ => .none) else .none)
theorem Ly(hE:aC [rI,kB]):aH.Good pI:=by
 refine⟨au yw rfl (by decide),?_⟩;show ∀ (xs:List ag) (k:Int),(0<=k/\k+(aF aG xs:Int)<=4611686018427387904)->bd prog pW [.val ⟨(.slice (.st .claim)),xs⟩, .val ⟨(.int .i64),k⟩] (·=[⟨(.int .i64),kt aG bF k xs⟩]);intro xs k hp;refine aU (wr:=[]) (cl:=[]) (ro:=[]) hE yw Hv (NP xs k) (let v1:=(1:Int);let v2:=kt aG bF k xs;let v3:=(-1:Int);let v4:=(0:Int);let v0:=ag.mk zE zE v4 v4 [];let v5:=(xs.length:Int);(((∃ i1:Nat,((i1<=xs.length/\sC aG bF k (xs.take i1)=true)/\((xs=xs/\(k=(k+(aF aG (xs.take i1):Int))/\(v4=(i1:Int)/\True)))/\True)))/\(∀ i1:Nat,let v8:=xs.getD i1 v0;let v9:=k+(aF aG (xs.take i1):Int);let vb:=(i1:Int);let vc:=(v9+v1)+v1;let v6:=o5 vc v8.left.M;let vd:=(v6+v1)+v1;let v7:=o5 vd v8.right.M;let ve:=(v7+v1)+v1;let va:=kt aA bq ve v8.steps;let vf := !(decide (v8.right.aM=(v6+v1)));let vg := !(decide (v8.left.aM=(v9+v1)));let vh := !(decide (v8.right.aq=v6));let vi := !(decide (v8.ref=(v7+v1)));let vj := !(decide (v8.left.aq=v9));((i1<=xs.length/\sC aG bF k (xs.take i1)=true)->(O v5->(((decide (vb<v5))=true->(ak vb xs.length/\(O v8.left.aq->((vj=true->v3=v2)/\(vj=false->(O (v9+v1)/\(ak vb xs.length/\(O v8.left.aM->((vg=true->v3=v2)/\(vg=false->(O vc/\(ak vb xs.length/\(v8.left.M.length<=140737488355328->((0<=vc/\vc+(aF bm v8.left.M:Int)<=4611686018427387904)/\(O v6->(((decide (v6<v4))=true->v3=v2)/\((decide (v6<v4))=false->(ak vb xs.length/\(O v8.right.aq->((vh=true->v3=v2)/\(vh=false->(O (v6+v1)/\(ak vb xs.length/\(O v8.right.aM->((vf=true->v3=v2)/\(vf=false->(O vd/\(ak vb xs.length/\(v8.right.M.length<=140737488355328->((0<=vd/\vd+(aF bm v8.right.M:Int)<=4611686018427387904)/\(O v7->(((decide (v7<v4))=true->v3=v2)/\((decide (v7<v4))=false->(ak vb xs.length/\(O v8.bp->(((!(decide (v8.bp=v7)))=true->v3=v2)/\((!(decide (v8.bp=v7)))=false->(O (v7+v1)/\(ak vb xs.length/\(O v8.ref->((vi=true->v3=v2)/\(vi=false->(O ve/\(ak vb xs.length/\(v8.steps.length<=140737488355328->((0<=ve/\ve+(aF aA v8.steps:Int)<=4611686018427387904)/\(O va->(((decide (va<v4))=true->v3=v2)/\((decide (va<v4))=false->(O (vb+v1)/\(∃ i2:Nat,((i2<=xs.length/\sC aG bF k (xs.take i2)=true)/\(xs.length - i2<xs.length - i1/\((xs=xs/\(va=(k+(aF aG (xs.take i2):Int))/\((vb+v1)=(i2:Int)/\True)))/\True))))))))))))))))))))))))))))))))))))))))))))))))))))))/\((decide (vb<v5))=false->v9=v2)))))))) (by kernel_rfl) ?_;have f0:sC aG bF k (xs.take 0)=true:=by simp[sC,iL]
 have f1:=ij aG xs;have f2:=Kh aG bF k xs;refine⟨⟨0,?_,⟨rfl,?_,?_,U⟩,U⟩,λ i1 _=>have El:=a0d aG bF (ag.mk zE zE (0:Int) (0:Int) []) k xs i1;have qO:=a2G aG bF (ag.mk zE zE (0:Int) (0:Int) []) k xs i1;have yD:=a0c aG bF k xs i1;have Ir:=a4e (k+(aF aG (xs.take i1):Int)) (xs.getD i1 (ag.mk zE zE (0:Int) (0:Int) []));have TJ:=tq ((k+(aF aG (xs.take i1):Int))+1+1) (xs.getD i1 (ag.mk zE zE (0:Int) (0:Int) [])).left.M;have Wh:=tq ((k+(aF aG (xs.take i1):Int))+1+1+(aF bm (xs.getD i1 (ag.mk zE zE (0:Int) (0:Int) [])).left.M:Int)+1+1) (xs.getD i1 (ag.mk zE zE (0:Int) (0:Int) [])).right.M;have Zv:=Kh aA bq ((k+(aF aG (xs.take i1):Int))+1+1+(aF bm (xs.getD i1 (ag.mk zE zE (0:Int) (0:Int) [])).left.M:Int)+1+1+(aF bm (xs.getD i1 (ag.mk zE zE (0:Int) (0:Int) [])).right.M:Int)+1+1) (xs.getD i1 (ag.mk zE zE (0:Int) (0:Int) [])).steps;have Zw:=ft aG (ag.mk zE zE (0:Int) (0:Int) []) xs i1;have Zx:=b9 aG xs i1;have a1J:=b9 aG xs (i1+1);have a0F:=gZ aG xs i1;have a0G:=uL (xs.getD i1 (ag.mk zE zE (0:Int) (0:Int) []));λ _=>⟨λ _=>⟨?_,λ _=>⟨λ _=>?_,λ _=>⟨?_,?_,λ _=>⟨λ _=>?_,λ _=>⟨?_,?_,λ _=>⟨?_,λ _=>⟨λ _=>?_,λ _=>⟨?_,λ _=>⟨λ _=>?_,λ _=>⟨?_,?_,λ _=>⟨λ _=>?_,λ _=>⟨?_,?_,λ _=>⟨?_,λ _=>⟨λ _=>?_,λ _=>⟨?_,λ _=>⟨λ _=>?_,λ _=>⟨?_,?_,λ _=>⟨λ _=>?_,λ _=>⟨?_,?_,λ _=>⟨?_,λ _=>⟨λ _=>?_,λ _=>⟨?_,i1+1,?_,?_,⟨rfl,?_,?_,U⟩,U⟩⟩⟩⟩⟩⟩⟩⟩⟩⟩⟩⟩⟩⟩⟩⟩⟩⟩⟩⟩⟩⟩,λ _=>?_⟩⟩;all_goals try and_intros
 all_goals first|rfl|trivial|omega|(simp only[b3E,b3D,ak,O,b3S,b4f] at *;first|omega|grind)
theorem HG:aH.Good pI:=Ly ⟨vO,BN,U⟩
def rJ:aH:=⟨sb,[.v (.st .proof), .v (.int .i64)],λ (x:aj) (k:Int)=>⟨(some (0<=k/\k+(aF aG x.ai:Int)<=4611686018427387904),[⟨(.int .i64),kt aG bF k x.ai⟩])⟩⟩
def Qn(x:aj)(k:Int):Nat->aE:=λ _ => .none
theorem Oa(hE:aC [pI]):aH.Good rJ:=by
 refine⟨au zH rfl (by decide),?_⟩;show ∀ (x:aj) (k:Int),(0<=k/\k+(aF aG x.ai:Int)<=4611686018427387904)->bd prog sb [.val ⟨(.st .proof),x⟩, .val ⟨(.int .i64),k⟩] (·=[⟨(.int .i64),kt aG bF k x.ai⟩]);intro x k hp;refine aU (wr:=[]) (cl:=[]) (ro:=[2]) hE zH IB (Qn x k) (let v0:=kt aG bF k x.ai;((x.ai.length<=140737488355328->((0<=k/\k+(aF aG x.ai:Int)<=4611686018427387904)/\(O v0->(((decide (v0<(0:Int)))=true->(-1:Int)=v0)/\((decide (v0<(0:Int)))=false->v0=v0))))))) (by kernel_rfl) ?_;have f2:=Kh aG bF k x.ai;refine λ _=>⟨?_,λ _=>⟨λ _=>?_,λ _=>rfl⟩⟩;all_goals try and_intros
 all_goals first|rfl|trivial|omega|(simp only[b3E,b3D,ak,O,b3S,b4f] at *;first|omega|grind)
theorem IW:aH.Good rJ:=Oa ⟨HG,U⟩
end
end Go.Proofs.YtmjfpcajohhbeaaGreatDoor

set_option maxRecDepth 4000
set_option maxHeartbeats 4000000
namespace Go.Proofs.YtmjfpcajohhbeaaGreatDoor
noncomputable section
mutual
def aL:J->Nat
 | ⟨_,_,ks⟩=>1+c9 ks
def c9:List J->Nat
 | []=>0
 | k::ks=>aL k+c9 ks
end
def Ua:∀ xs,c9 xs=aF aL xs
 | []=>rfl
 | x::xs=>by rw[c9,aF,Ua xs]
def Bj(x:J):aL x=1+aF aL x.M:=by
 cases x;simp[aL,Ua]
mutual
def bO:J->Nat
 | ⟨_,_,ks⟩=>1+zU ks
def zU:List J->Nat
 | []=>0
 | k::ks=>max (bO k) (zU ks)
end
def TP:∀ xs,zU xs=iK bO xs
 | []=>rfl
 | x::xs=>by rw[zU,iK,TP xs]
def gR(x:J):bO x=1+iK bO x.M:=by
 cases x;simp[bO,TP]
mutual
def Pu:∀ x:J,bO x<=aL x
 | ⟨k,n,ks⟩=>by
  have:=LY ks;simp only[bO,aL];omega
def LY:∀ xs:List J,zU xs<=c9 xs
 | []=>by simp[zU]
 | x::xs=>by
  have h1:=Pu x;have h2:=LY xs;simp only[zU,c9];omega
end
def MY(k:Int):Bool:=decide (k=1)||decide (k=2)||decide (k=3)||decide (k=5)||decide (k=6)||decide (k=7)
mutual
def bh:J->Bool
 | ⟨k,_,ks⟩=>MY k&&VD ks
def VD:List J->Bool
 | []=>true
 | k::ks=>bh k&&VD ks
end
def Wt:∀ xs,VD xs=bg bh xs
 | []=>rfl
 | x::xs=>by rw[VD,bg,Wt xs]
def RM(x:J):bh x=(MY x.aq&&bg bh x.M):=by
 cases x;simp[bh,Wt]
def cS(k:Int):Int:=if k=1\/k=2\/k=3\/k=4 then 0 else if k=5\/k=8 then 1 else if k=6\/k=7 then 2 else -1
def fb:aH:=⟨A9,[.v (.int .i64), .v (.int .i64), .v (.int .i64)],λ (n:Int) (least:Int) (most:Int)=>⟨(none,[⟨.bool,decide (least<=n/\n<=most)⟩])⟩⟩
def Xw(n:Int)(least:Int)(most:Int):Nat->aE:=λ _ => .none
def Vp(hE:aC []):aH.Good fb:=by
 refine⟨au GY rfl (by decide),?_⟩;show ∀ (n:Int) (least:Int) (most:Int),True->bd prog A9 [.val ⟨(.int .i64),n⟩, .val ⟨(.int .i64),least⟩, .val ⟨(.int .i64),most⟩] (·=[⟨.bool,decide (least<=n/\n<=most)⟩]);intro n least most _;refine aU (wr:=[]) (cl:=[]) (ro:=[]) hE GY Pa (Xw n least most) (let v0:=decide (least<=n/\n<=most);((((decide (least<=n))=true->((decide (n<=most))=v0))/\((decide (least<=n))=(!true)->(false=v0))))) (by kernel_rfl) ?_;refine⟨λ _=>?_,λ _=>?_⟩;all_goals try and_intros
 all_goals first|rfl|trivial|(simp_all;done)|(simp_all;omega)
def eW:aH.Good fb:=Vp trivial
def gG:aH:=⟨uR,[.v (.int .i64), .v (.int .i64), .v (.int .i64)],λ (n:Int) (low:Int) (high:Int)=>⟨(none,[⟨.bool,decide (low<=n/\n<=high)⟩])⟩⟩
def Y5(n:Int)(low:Int)(high:Int):Nat->aE:=λ _ => .none
def X9(hE:aC []):aH.Good gG:=by
 refine⟨au Io rfl (by decide),?_⟩;show ∀ (n:Int) (low:Int) (high:Int),True->bd prog uR [.val ⟨(.int .i64),n⟩, .val ⟨(.int .i64),low⟩, .val ⟨(.int .i64),high⟩] (·=[⟨.bool,decide (low<=n/\n<=high)⟩]);intro n low high _;refine aU (wr:=[]) (cl:=[]) (ro:=[]) hE Io RE (Y5 n low high) (let v0:=decide (low<=n/\n<=high);((((decide (low<=n))=true->((decide (n<=high))=v0))/\((decide (low<=n))=(!true)->(false=v0))))) (by kernel_rfl) ?_;refine⟨λ _=>?_,λ _=>?_⟩;all_goals try and_intros
 all_goals first|rfl|trivial|(simp_all;done)|(simp_all;omega)
def gL:aH.Good gG:=X9 trivial
def rK:aH:=⟨Bc,[.v (.int .i64), .v (.int .i64)],λ (a:Int) (b:Int)=>⟨(none,[⟨(.int .i64),max a b⟩])⟩⟩
def XA(a:Int)(b:Int):Nat->aE:=λ _ => .none
def Vt(hE:aC []):aH.Good rK:=by
 refine⟨au GZ rfl (by decide),?_⟩;show ∀ (a:Int) (b:Int),True->bd prog Bc [.val ⟨(.int .i64),a⟩, .val ⟨(.int .i64),b⟩] (·=[⟨(.int .i64),max a b⟩]);intro a b _;refine aU (wr:=[]) (cl:=[]) (ro:=[]) hE GZ Pd (XA a b) ((((decide (b<a))=true->a=(max a b))/\((decide (b<a))=false->b=(max a b)))) (by kernel_rfl) ?_;refine⟨λ _=>?_,λ _=>?_⟩;all_goals try and_intros
 all_goals first|rfl|trivial|(simp_all;omega)
def Cm:aH.Good rK:=Vt trivial
def AT:aH:=⟨A6,[.v (.int .i64)],λ (k:Int)=>⟨(none,[⟨(.int .i64),cS k⟩])⟩⟩
def Xs(k:Int):Nat->aE:=λ _ => .none
abbrev EV(k:Int):Prop:=(let v0:=decide (k=(6:Int));((v0=true ->
 ((v0=true ->
 (2:Int)=(cS k))/\(v0=false ->
 (-1:Int)=(cS k))))/\(v0=false ->
 (((decide (k=(7:Int)))=true ->
 (2:Int)=(cS k))/\((decide (k=(7:Int)))=false ->
 (-1:Int)=(cS k))))))
abbrev Sa(k:Int):Prop:=(let v0:=decide (k=(5:Int));((v0=true ->
 ((v0=true ->
 (1:Int)=(cS k))/\(v0=false ->
 (EV k))))/\(v0=false ->
 (((decide (k=(8:Int)))=true ->
 (1:Int)=(cS k))/\((decide (k=(8:Int)))=false ->
 (EV k))))))
def Vl(hE:aC []):aH.Good AT:=by
 refine⟨au GU rfl (by decide),?_⟩;show ∀ (k:Int),True->bd prog A6 [.val ⟨(.int .i64),k⟩] (·=[⟨(.int .i64),cS k⟩]);intro k _;refine aU (wr:=[]) (cl:=[]) (ro:=[]) hE GU O6 (Xs k) (let v0:=decide (k=(1:Int));let v1:=decide (k=(2:Int));let v2:=decide (k=(3:Int));let v3:=Sa k;(((v0=true->((v0=true->(0:Int)=(cS k))/\(v0=false->v3)))/\(v0=false->((v1=true->((v1=true->(0:Int)=(cS k))/\(v1=false->v3)))/\(v1=false->((v2=true->((v2=true->(0:Int)=(cS k))/\(v2=false->v3)))/\(v2=false->(((decide (k=(4:Int)))=true->(0:Int)=(cS k))/\((decide (k=(4:Int)))=false->v3)))))))))) (by kernel_rfl) ?_;refine⟨λ _=>⟨λ _=>?_,λ _=>⟨λ _=>⟨λ _=>?_,λ _=>⟨λ _=>⟨λ _=>?_,λ _=>?_⟩,λ _=>⟨λ _=>?_,λ _=>?_⟩⟩⟩,λ _=>⟨λ _=>?_,λ _=>⟨λ _=>⟨λ _=>?_,λ _=>?_⟩,λ _=>⟨λ _=>?_,λ _=>?_⟩⟩⟩⟩⟩,λ _=>⟨λ _=>⟨λ _=>?_,λ _=>⟨λ _=>⟨λ _=>?_,λ _=>⟨λ _=>⟨λ _=>?_,λ _=>?_⟩,λ _=>⟨λ _=>?_,λ _=>?_⟩⟩⟩,λ _=>⟨λ _=>?_,λ _=>⟨λ _=>⟨λ _=>?_,λ _=>?_⟩,λ _=>⟨λ _=>?_,λ _=>?_⟩⟩⟩⟩⟩,λ _=>⟨λ _=>⟨λ _=>?_,λ _=>⟨λ _=>⟨λ _=>?_,λ _=>⟨λ _=>⟨λ _=>?_,λ _=>?_⟩,λ _=>⟨λ _=>?_,λ _=>?_⟩⟩⟩,λ _=>⟨λ _=>?_,λ _=>⟨λ _=>⟨λ _=>?_,λ _=>?_⟩,λ _=>⟨λ _=>?_,λ _=>?_⟩⟩⟩⟩⟩,λ _=>⟨λ _=>?_,λ _=>⟨λ _=>⟨λ _=>?_,λ _=>⟨λ _=>⟨λ _=>?_,λ _=>?_⟩,λ _=>⟨λ _=>?_,λ _=>?_⟩⟩⟩,λ _=>⟨λ _=>?_,λ _=>⟨λ _=>⟨λ _=>?_,λ _=>?_⟩,λ _=>⟨λ _=>?_,λ _=>?_⟩⟩⟩⟩⟩⟩⟩⟩;all_goals try and_intros
 all_goals first|rfl|trivial|(simp only[decide_eq_true_eq,decide_eq_false_iff_not] at *;simp[cS, *];done)|(simp only[decide_eq_true_eq,decide_eq_false_iff_not] at *;unfold cS;repeat (first|omega|split))
def PJ:aH.Good AT:=Vl trivial
def xK:aH:=⟨ye,[.v (.int .i64)],λ (k:Int)=>⟨(none,[⟨(.int .i64),cS k⟩])⟩⟩
def UT(k:Int):Nat->aE:=λ _ => .none
abbrev Cw(k:Int):Prop:=(let v0:=decide (k=(6:Int));((v0=true ->
 ((v0=true ->
 (2:Int)=(cS k))/\(v0=false ->
 (-1:Int)=(cS k))))/\(v0=false ->
 (((decide (k=(7:Int)))=true ->
 (2:Int)=(cS k))/\((decide (k=(7:Int)))=false ->
 (-1:Int)=(cS k))))))
abbrev Qi(k:Int):Prop:=(let v0:=decide (k=(5:Int));((v0=true ->
 ((v0=true ->
 (1:Int)=(cS k))/\(v0=false ->
 (Cw k))))/\(v0=false ->
 (((decide (k=(8:Int)))=true ->
 (1:Int)=(cS k))/\((decide (k=(8:Int)))=false ->
 (Cw k))))))
def S2(hE:aC []):aH.Good xK:=by
 refine⟨au Ec rfl (by decide),?_⟩;show ∀ (k:Int),True->bd prog ye [.val ⟨(.int .i64),k⟩] (·=[⟨(.int .i64),cS k⟩]);intro k _;refine aU (wr:=[]) (cl:=[]) (ro:=[]) hE Ec MG (UT k) (let v0:=decide (k=(1:Int));let v1:=decide (k=(2:Int));let v2:=decide (k=(3:Int));let v3:=Qi k;(((v0=true->((v0=true->(0:Int)=(cS k))/\(v0=false->v3)))/\(v0=false->((v1=true->((v1=true->(0:Int)=(cS k))/\(v1=false->v3)))/\(v1=false->((v2=true->((v2=true->(0:Int)=(cS k))/\(v2=false->v3)))/\(v2=false->(((decide (k=(4:Int)))=true->(0:Int)=(cS k))/\((decide (k=(4:Int)))=false->v3)))))))))) (by kernel_rfl) ?_;refine⟨λ _=>⟨λ _=>?_,λ _=>⟨λ _=>⟨λ _=>?_,λ _=>⟨λ _=>⟨λ _=>?_,λ _=>?_⟩,λ _=>⟨λ _=>?_,λ _=>?_⟩⟩⟩,λ _=>⟨λ _=>?_,λ _=>⟨λ _=>⟨λ _=>?_,λ _=>?_⟩,λ _=>⟨λ _=>?_,λ _=>?_⟩⟩⟩⟩⟩,λ _=>⟨λ _=>⟨λ _=>?_,λ _=>⟨λ _=>⟨λ _=>?_,λ _=>⟨λ _=>⟨λ _=>?_,λ _=>?_⟩,λ _=>⟨λ _=>?_,λ _=>?_⟩⟩⟩,λ _=>⟨λ _=>?_,λ _=>⟨λ _=>⟨λ _=>?_,λ _=>?_⟩,λ _=>⟨λ _=>?_,λ _=>?_⟩⟩⟩⟩⟩,λ _=>⟨λ _=>⟨λ _=>?_,λ _=>⟨λ _=>⟨λ _=>?_,λ _=>⟨λ _=>⟨λ _=>?_,λ _=>?_⟩,λ _=>⟨λ _=>?_,λ _=>?_⟩⟩⟩,λ _=>⟨λ _=>?_,λ _=>⟨λ _=>⟨λ _=>?_,λ _=>?_⟩,λ _=>⟨λ _=>?_,λ _=>?_⟩⟩⟩⟩⟩,λ _=>⟨λ _=>?_,λ _=>⟨λ _=>⟨λ _=>?_,λ _=>⟨λ _=>⟨λ _=>?_,λ _=>?_⟩,λ _=>⟨λ _=>?_,λ _=>?_⟩⟩⟩,λ _=>⟨λ _=>?_,λ _=>⟨λ _=>⟨λ _=>?_,λ _=>?_⟩,λ _=>⟨λ _=>?_,λ _=>?_⟩⟩⟩⟩⟩⟩⟩⟩;all_goals try and_intros
 all_goals first|rfl|trivial|(simp only[decide_eq_true_eq,decide_eq_false_iff_not] at *;simp[cS, *];done)|(simp only[decide_eq_true_eq,decide_eq_false_iff_not] at *;unfold cS;repeat (first|omega|split))
def Nj:aH.Good xK:=S2 trivial
def mL(n:Nat):aH:=⟨jk,[.v (.st .expr)],λ (x:J)=>⟨(some (cf x<n),[⟨.bool,bh x⟩])⟩⟩
def gp:aH:=⟨jk,[.v (.st .expr)],λ (x:J)=>⟨(none,[⟨.bool,bh x⟩])⟩⟩
def Lj(x:J):Nat->aE:=(λ zb=>if Nat.beq zb 1 then .mk (Nat) (λ k=>k<=x.M.length/\bg bh (x.M.take k)=true) (λ k=>x.M.length - k) [] [0,1,5,6,7,8,9,10,11,12,13,14] (λ k=>[(17, .aI ⟨(.int .i64),((k:Int):Int)⟩)]) [] (λ k=>[]) [] [] (λ k=>λ _ => .none) else .none)
abbrev HP(n:Nat)(x:J):Prop:=(let v0:=(x.M.length:Int);(x.M.length<=140737488355328 ->
 (O v0 ->
 ((∃ k1:Nat,((k1<=x.M.length/\bg bh (x.M.take k1)=true)/\((x.M=x.M/\(v0=v0/\((0:Int)=(k1:Int)/\True)))/\True)))/\(∀ k1:Nat,let v1:=aJ (x.M.getD k1 zE);((k1<=x.M.length/\bg bh (x.M.take k1)=true) ->
 (((decide ((k1:Int)<v0))=true ->
 (ak (k1:Int) x.M.length/\(cf v1<n/\(((!(bh v1))=true ->
 false=(bh x))/\((!(bh v1))=false ->
 (O ((k1:Int)+(1:Int))/\(∃ k2:Nat,((k2<=x.M.length/\bg bh (x.M.take k2)=true)/\(x.M.length - k2<x.M.length - k1/\((x.M=x.M/\(v0=v0/\(((k1:Int)+(1:Int))=(k2:Int)/\True)))/\True))))))))))/\((decide ((k1:Int)<v0))=false ->
 true=(bh x)))))))))
def JI(n:Nat)(hE:aC [mL n]):aH.Good (mL (n+1)):=by
 refine⟨au iu rfl (by decide),?_⟩;show ∀ (x:J),(cf x<n+1)->bd prog jk [.val ⟨(.st .expr),x⟩] (·=[⟨.bool,bh x⟩]);intro x hp;refine aU (wr:=[]) (cl:=[]) (ro:=[1]) hE iu FC (Lj x) (let v0:=HP n x;let v1:=decide (x.aq=(1:Int));let v2:=decide (x.aq=(2:Int));let v3:=decide (x.aq=(3:Int));let v4:=decide (x.aq=(5:Int));let v5:=decide (x.aq=(6:Int));let v6:=bh x;((O x.aq->((v1=true->((v1=true->v0)/\(v1=false->false=v6)))/\(v1=false->((v2=true->((v2=true->v0)/\(v2=false->false=v6)))/\(v2=false->((v3=true->((v3=true->v0)/\(v3=false->false=v6)))/\(v3=false->((v4=true->((v4=true->v0)/\(v4=false->false=v6)))/\(v4=false->((v5=true->((v5=true->v0)/\(v5=false->false=v6)))/\(v5=false->(((decide (x.aq=(7:Int)))=true->v0)/\((decide (x.aq=(7:Int)))=false->false=v6))))))))))))))) (by kernel_rfl) ?_;have f0:=dn x;have f1:=all_zero bh x.M;refine λ _=>⟨λ _=>⟨λ _ _ _=>⟨⟨0,?_,⟨rfl,rfl,?_,U⟩,U⟩,λ k1 _=>have b1B:=dk bh zE x.M k1;have b1C:=dL bh zE x.M k1;have b1D:=dU bh x.M k1;have b3n:=cb zE x.M k1;⟨λ _=>⟨?_,?_,λ _=>?_,λ _=>⟨?_,k1+1,?_,?_,⟨rfl,rfl,?_,U⟩,U⟩⟩,λ _=>?_⟩⟩,λ _=>?_⟩,λ _=>⟨λ _=>⟨λ _ _ _=>⟨⟨0,?_,⟨rfl,rfl,?_,U⟩,U⟩,λ k1 _=>have b3o:=dk bh zE x.M k1;have b3p:=dL bh zE x.M k1;have b3q:=dU bh x.M k1;have b3r:=cb zE x.M k1;⟨λ _=>⟨?_,?_,λ _=>?_,λ _=>⟨?_,k1+1,?_,?_,⟨rfl,rfl,?_,U⟩,U⟩⟩,λ _=>?_⟩⟩,λ _=>?_⟩,λ _=>⟨λ _=>⟨λ _ _ _=>⟨⟨0,?_,⟨rfl,rfl,?_,U⟩,U⟩,λ k1 _=>have a6X:=dk bh zE x.M k1;have a6Y:=dL bh zE x.M k1;have a6Z:=dU bh x.M k1;have a9E:=cb zE x.M k1;⟨λ _=>⟨?_,?_,λ _=>?_,λ _=>⟨?_,k1+1,?_,?_,⟨rfl,rfl,?_,U⟩,U⟩⟩,λ _=>?_⟩⟩,λ _=>?_⟩,λ _=>⟨λ _=>⟨λ _ _ _=>⟨⟨0,?_,⟨rfl,rfl,?_,U⟩,U⟩,λ k1 _=>have b3s:=dk bh zE x.M k1;have b3t:=dL bh zE x.M k1;have b3u:=dU bh x.M k1;have b3v:=cb zE x.M k1;⟨λ _=>⟨?_,?_,λ _=>?_,λ _=>⟨?_,k1+1,?_,?_,⟨rfl,rfl,?_,U⟩,U⟩⟩,λ _=>?_⟩⟩,λ _=>?_⟩,λ _=>⟨λ _=>⟨λ _ _ _=>⟨⟨0,?_,⟨rfl,rfl,?_,U⟩,U⟩,λ k1 _=>have a9F:=dk bh zE x.M k1;have a9G:=dL bh zE x.M k1;have a9H:=dU bh x.M k1;have b1K:=cb zE x.M k1;⟨λ _=>⟨?_,?_,λ _=>?_,λ _=>⟨?_,k1+1,?_,?_,⟨rfl,rfl,?_,U⟩,U⟩⟩,λ _=>?_⟩⟩,λ _=>?_⟩,λ _=>⟨λ _ _ _=>⟨⟨0,?_,⟨rfl,rfl,?_,U⟩,U⟩,λ k1 _=>have a9F:=dk bh zE x.M k1;have a9G:=dL bh zE x.M k1;have a9H:=dU bh x.M k1;have b1K:=cb zE x.M k1;⟨λ _=>⟨?_,?_,λ _=>?_,λ _=>⟨?_,k1+1,?_,?_,⟨rfl,rfl,?_,U⟩,U⟩⟩,λ _=>?_⟩⟩,λ _=>?_⟩⟩⟩⟩⟩⟩;all_goals try and_intros
 all_goals try (first|with_reducible rfl|with_reducible assumption)
 all_goals try simp only[J.eta,ag.eta,ar.eta,aK,br,bG] at *
 all_goals try rw[RM x]
 all_goals first|rfl|trivial|(simp only[b3E,b3D,ak,O] at *;omega)|(simp_all [MY];done)|(simp_all [MY,ak,O];omega)
def Tu :∀ n,aC [mL n]
 | 0=>⟨⟨au iu rfl (by decide),λ _ h=>absurd h (b4y _)⟩,U⟩
 | n+1=>by
  have ih:=Tu  n;exact⟨JI n ⟨ih.1,U⟩,U⟩
def gA :aH.Good gp :=
 ⟨au iu rfl (by decide),λ x hp=>(Tu  (cf x+1)).1.2 x (b4v _)⟩
def lC(n:Nat):aH:=⟨fP,[.r (.st .expr)],λ (x:J)=>⟨(some (cf x<n),[⟨.bool,bh x⟩])⟩⟩
def mI:aH:=⟨fP,[.r (.st .expr)],λ (x:J)=>⟨(none,[⟨.bool,bh x⟩])⟩⟩
def Jk(x:J):Nat->aE:=(λ zb=>if Nat.beq zb 0 then .mk (Nat) (λ k=>k<=x.M.length/\bg bh (x.M.take k)=true) (λ k=>x.M.length - k) [] [4,5,6,7,8,9,10,11,12,13,14,15,16] (λ k=>[(3, .aI ⟨(.int .i64),((k:Int):Int)⟩)]) [] (λ k=>[]) [] [] (λ k=>λ _ => .none) else .none)
abbrev rp(n:Nat)(x:J):Prop:=(let v0:=(x.M.length:Int);((∃ k1:Nat,((k1<=x.M.length/\bg bh (x.M.take k1)=true)/\((x=x/\((0:Int)=(k1:Int)/\True))/\True)))/\(∀ k1:Nat,let v1:=x.M.getD k1 zE;((k1<=x.M.length/\bg bh (x.M.take k1)=true) ->
 (x.M.length<=140737488355328 ->
 (O v0 ->
 (((decide ((k1:Int)<v0))=true ->
 (x.M.length<=140737488355328 ->
 (ak (k1:Int) x.M.length/\(cf v1<n/\(((!(bh v1))=true ->
 false=(bh x))/\((!(bh v1))=false ->
 (O ((k1:Int)+(1:Int))/\(∃ k2:Nat,((k2<=x.M.length/\bg bh (x.M.take k2)=true)/\(x.M.length - k2<x.M.length - k1/\((x=x/\(((k1:Int)+(1:Int))=(k2:Int)/\True))/\True)))))))))))/\((decide ((k1:Int)<v0))=false ->
 true=(bh x)))))))))
def H6(n:Nat)(hE:aC [lC n,gG]):aH.Good (lC (n+1)):=by
 refine⟨au hJ rfl (by decide),?_⟩;show ∀ (x:J),(cf x<n+1)->bd prog fP [.ref ⟨(.st .expr),x⟩] (·=[⟨.bool,bh x⟩]);intro x hp;refine aU (wr:=[]) (cl:=[]) (ro:=[]) hE hJ Er (Jk x) (let v0 := !(decide ((1:Int)<=x.aq/\x.aq<=(7:Int)));((O x.aq->(((v0=false)->(O x.aq->(((decide (x.aq=(4:Int)))=true->false=(bh x))/\((decide (x.aq=(4:Int)))=false->(rp n x)))))/\((v0=(!false))->((true=true->false=(bh x))/\(true=false->(rp n x)))))))) (by kernel_rfl) ?_;have f0:=dn x;have f1:=all_zero bh x.M;refine λ _=>⟨λ _ _=>⟨λ _=>?_,λ _=>⟨⟨0,?_,⟨rfl,?_,U⟩,U⟩,λ k1 _=>have b1x:=dk bh zE x.M k1;have b1y:=dL bh zE x.M k1;have b1z:=dU bh x.M k1;have b1A:=cb zE x.M k1;λ _ _=>⟨λ _ _=>⟨?_,?_,λ _=>?_,λ _=>⟨?_,k1+1,?_,?_,⟨rfl,?_,U⟩,U⟩⟩,λ _=>?_⟩⟩⟩,λ _=>⟨λ _=>?_,λ _=>⟨⟨0,?_,⟨rfl,?_,U⟩,U⟩,λ k1 _=>have a4K:=dk bh zE x.M k1;have a4L:=dL bh zE x.M k1;have b1w:=dU bh x.M k1;have b3m:=cb zE x.M k1;λ _ _=>⟨λ _ _=>⟨?_,?_,λ _=>?_,λ _=>⟨?_,k1+1,?_,?_,⟨rfl,?_,U⟩,U⟩⟩,λ _=>?_⟩⟩⟩⟩;all_goals try and_intros
 all_goals try rw[RM x]
 all_goals first|rfl|trivial|(simp only[b3E,b3D,ak,O] at *;omega)|(simp_all [MY];done)|(simp_all [MY,ak,O];omega)
def Tv :∀ n,aC [lC n]
 | 0=>⟨⟨au hJ rfl (by decide),λ _ h=>absurd h (b4y _)⟩,U⟩
 | n+1=>by
  have ih:=Tv  n;exact⟨H6 n ⟨ih.1,gL,U⟩,U⟩
def jv :aH.Good mI :=
 ⟨au hJ rfl (by decide),λ x hp=>(Tv  (cf x+1)).1.2 x (b4v _)⟩
def pD(t a:Int)(x:J):Bool:=decide (cS x.aq=(x.M.length:Int)) &&
 (if x.aq=3 then decide (0<=x.aM/\x.aM<=t) else if x.aq=4 then decide (0<=x.aM/\x.aM<=a) else decide (x.aM=0)) &&
 (!decide (x.aq=5)||bh (x.M.getD 0 ⟨0,0,[]⟩))
mutual
def bc(t a:Int):J->Bool
 | ⟨k,n,ks⟩=>pD t a ⟨k,n,ks⟩&&nL t a ks
def nL(t a:Int):List J->Bool
 | []=>true
 | k::ks=>bc t a k&&nL t a ks
end
def YF(t a:Int):∀ xs,nL t a xs=bg (bc t a) xs
 | []=>rfl
 | x::xs=>by rw[nL,bg,YF t a xs]
def ik(t a:Int)(x:J):bc t a x=(pD t a x&&bg (bc t a) x.M):=by
 cases x;simp[bc,YF]
def bu(n:Int):Int:=IntKind.wrap .i64 (n - 1)
def GG(n:Int)(h : -9223372036854775807<=n/\n<=9223372036854775807):bu n=n - 1:=by
 simp[bu,IntKind.wrap,IntKind.signed,IntKind.bits];omega
def tP(n:Nat):aH:=⟨pe,[.r (.st .expr), .v (.int .i64)],λ (x:J) (left:Int)=>⟨(some (cf x<n/\0<=left/\left<=1048576),[⟨(.int .i64),dX (aL x) left⟩])⟩⟩
def Hf:aH:=⟨pe,[.r (.st .expr), .v (.int .i64)],λ (x:J) (left:Int)=>⟨(some (0<=left/\left<=1048576),[⟨(.int .i64),dX (aL x) left⟩])⟩⟩
def UU(x:J)(left:Int):Nat->aE:=(λ zb=>if Nat.beq zb 0 then .mk (Nat) (λ k=>k<=x.M.length) (λ k=>x.M.length - k) [] [4,6,7] (λ k=>[(5, .aI ⟨(.int .i64),((k:Int):Int)⟩),(1, .aI ⟨(.int .i64),(dX (1+aF aL (x.M.take k)) left:Int)⟩)]) [] (λ k=>[]) [] [] (λ k=>λ _ => .none) else .none)
abbrev Cx(n:Nat)(x:J)(left:Int)(k1:Nat):Prop:=(let v0:=dX (1+aF aL (x.M.take k1)) left;let v1:=dX (aL (x.M.getD k1 zE)) v0;(x.M.length<=140737488355328 ->
 (ak (k1:Int) x.M.length/\((cf (x.M.getD k1 zE)<n/\0<=v0/\v0<=1048576)/\(O v1 ->
 (O ((k1:Int)+(1:Int))/\(∃ k2:Nat,(k2<=x.M.length/\(x.M.length - k2<x.M.length - k1/\((x=x/\(v1=(dX (1+aF aL (x.M.take k2)) left)/\(((k1:Int)+(1:Int))=(k2:Int)/\True)))/\True))))))))))
def S3(n:Nat)(hE:aC [tP n]):aH.Good (tP (n+1)):=by
 refine⟨au nm rfl (by decide),?_⟩;show ∀ (x:J) (left:Int),(cf x<n+1/\0<=left/\left<=1048576)->bd prog pe [.ref ⟨(.st .expr),x⟩, .val ⟨(.int .i64),left⟩] (·=[⟨(.int .i64),dX (aL x) left⟩]);intro x left hp;refine aU (wr:=[]) (cl:=[]) (ro:=[]) hE nm MH (UU x left) (let v0:=(x.M.length:Int);((O (left - (1:Int))/\((∃ k1:Nat,(k1<=x.M.length/\((x=x/\((left - (1:Int))=(dX (1+aF aL (x.M.take k1)) left)/\((0:Int)=(k1:Int)/\True)))/\True)))/\(∀ k1:Nat,let v1:=dX (1+aF aL (x.M.take k1)) left;(k1<=x.M.length->(x.M.length<=140737488355328->(O v0->(((decide ((k1:Int)<v0))=true->(((decide ((0:Int)<=v1))=true->(Cx n x left k1))/\((decide ((0:Int)<=v1))=false->v1=(dX (aL x) left))))/\((decide ((k1:Int)<v0))=(!true)->((false=true->(Cx n x left k1))/\(false=false->v1=(dX (aL x) left))))))))))))) (by kernel_rfl) ?_;have f0:=dn x;have f1:=ij aL x.M;have f2:=dK (1+aF aL (x.M.take 0)) left;refine⟨?_,⟨0,?_,⟨rfl,?_,?_,U⟩,U⟩,λ k1 _=>have El:=ft aL zE x.M k1;have qO:=b9 aL x.M k1;have yD:=b9 aL x.M (k1+1);have Ir:=gZ aL x.M k1;have TJ:=cb zE x.M k1;have Wh:=dK (1+aF aL (x.M.take k1)) left;have Zv:=dK (1+aF aL (x.M.take (k1+1))) left;have Zw:=dK (aL (x.M.getD k1 zE)) (dX (1+aF aL (x.M.take k1)) left);have Zx:=dK (1+aF aL x.M) left;λ _ _=>⟨λ _=>⟨λ _ _=>⟨?_,?_,λ _=>⟨?_,k1+1,?_,?_,⟨rfl,?_,?_,U⟩,U⟩⟩,λ _=>?_⟩,λ _=>⟨λ _ _=>⟨?_,?_,λ _=>⟨?_,k1+1,?_,?_,⟨rfl,?_,?_,U⟩,U⟩⟩,λ _=>?_⟩⟩⟩;all_goals try and_intros
 all_goals try rw[Bj x]
 all_goals first|rfl|trivial|omega|(simp only[b3E,b3D,ak,O,bQ,cw,bI,aY] at *;omega)|(simp[ak,O] at *;omega)|grind
def Tw :∀ n,aC [tP n]
 | 0=>⟨⟨au nm rfl (by decide),λ _ _ h=>absurd h.1 (b4y _)⟩,U⟩
 | n+1=>by
  have ih:=Tw  n;exact⟨S3 n ⟨ih.1,U⟩,U⟩
def Nk :aH.Good Hf :=
 ⟨au nm rfl (by decide),λ x left hp=>(Tw  (cf x+1)).1.2 x left (⟨b4v _,hp⟩)⟩
def rN(n:Nat):aH:=⟨nH,[.r (.st .expr)],λ (x:J)=>⟨(some (cf x<n/\bO x<=1048576),[⟨(.int .i64),(bO x:Int)⟩])⟩⟩
def EY:aH:=⟨nH,[.r (.st .expr)],λ (x:J)=>⟨(some (bO x<=1048576),[⟨(.int .i64),(bO x:Int)⟩])⟩⟩
def Sq(x:J):Nat->aE:=(λ zb=>if Nat.beq zb 0 then .mk (Nat) (λ k=>k<=x.M.length) (λ k=>x.M.length - k) [] [2] (λ k=>[(4, .aI ⟨(.int .i64),((k:Int):Int)⟩),(3, .aI ⟨(.int .i64),((iK bO (x.M.take k):Int):Int)⟩)]) [] (λ k=>[]) [] [] (λ k=>λ _ => .none) else .none)
def QR(n:Nat)(hE:aC [rN n,rK]):aH.Good (rN (n+1)):=by
 refine⟨au lX rfl (by decide),?_⟩;show ∀ (x:J),(cf x<n+1/\bO x<=1048576)->bd prog nH [.ref ⟨(.st .expr),x⟩] (·=[⟨(.int .i64),(bO x:Int)⟩]);intro x hp;refine aU (wr:=[]) (cl:=[]) (ro:=[]) hE lX KP (Sq x) (let v0:=(x.M.length:Int);(((∃ k1:Nat,(k1<=x.M.length/\((x=x/\((0:Int)=(iK bO (x.M.take k1):Int)/\((0:Int)=(k1:Int)/\True)))/\True)))/\(∀ k1:Nat,let v1:=(iK bO (x.M.take k1):Int);let v3:=x.M.getD k1 zE;let v2:=(bO v3:Int);(k1<=x.M.length->(x.M.length<=140737488355328->(O v0->(((decide ((k1:Int)<v0))=true->(x.M.length<=140737488355328->(ak (k1:Int) x.M.length/\((cf v3<n/\bO v3<=1048576)/\(O v2->(O (max v1 v2)->(O ((k1:Int)+(1:Int))/\(∃ k2:Nat,(k2<=x.M.length/\(x.M.length - k2<x.M.length - k1/\((x=x/\((max v1 v2)=(iK bO (x.M.take k2):Int)/\(((k1:Int)+(1:Int))=(k2:Int)/\True)))/\True)))))))))))/\((decide ((k1:Int)<v0))=false->(O (v1+(1:Int))/\(v1+(1:Int))=(bO x:Int))))))))))) (by kernel_rfl) ?_;rw[gR x] at hp;have f0:=dn x;have f1:=XN bO x.M;refine⟨⟨0,?_,⟨rfl,?_,?_,U⟩,U⟩,λ k1 _=>have El:=ud bO zE x.M k1;have qO:=jc bO x.M k1;have yD:=jc bO x.M (k1+1);have Ir:=E9 bO x.M k1;have TJ:=cb zE x.M k1;have Wh:=uc bO zE x.M k1;λ _ _=>⟨λ _ _=>⟨?_,?_,λ _ _=>⟨?_,k1+1,?_,?_,⟨rfl,?_,?_,U⟩,U⟩⟩,λ _=>⟨?_,?_⟩⟩⟩;all_goals try and_intros
 all_goals try rw[gR x]
 all_goals first|rfl|trivial|omega|(simp only[b3E,b3D,ak,O,bQ,cw,bI,aY] at *;omega)|(simp[ak,O] at *;omega)|grind
def OU :∀ n,aC [rN n]
 | 0=>⟨⟨au lX rfl (by decide),λ _ h=>absurd h.1 (b4y _)⟩,U⟩
 | n+1=>by
  have ih:=OU  n;exact⟨QR n ⟨ih.1,Cm,U⟩,U⟩
def K6 :aH.Good EY :=
 ⟨au lX rfl (by decide),λ x hp=>(OU  (cf x+1)).1.2 x (⟨b4v _,hp⟩)⟩
def tS(n:Nat):aH:=⟨ph,[.v (.st .sig), .r (.st .expr)],λ (gg:aT) (x:J)=>⟨(some (cf x<n),[⟨.bool,bc (bu gg.az) (bu gg.bo) x⟩])⟩⟩
def Hh:aH:=⟨ph,[.v (.st .sig), .r (.st .expr)],λ (gg:aT) (x:J)=>⟨(none,[⟨.bool,bc (bu gg.az) (bu gg.bo) x⟩])⟩⟩
def UY(gg:aT)(x:J):Nat->aE:=(λ zb=>if Nat.beq zb 1 then .mk (Nat) (λ k=>k<=x.M.length/\bg (bc (bu gg.az) (bu gg.bo)) (x.M.take k)=true) (λ k=>x.M.length - k) [] [0,6,7,8,9,10,11,12,13,14,15,16,17,18,19,20,21,22,31,32,41,42,43,44,45,46,47,48,49,50,51,52,53,54,55,56,57,58,59,60,61] (λ k=>[(5, .aI ⟨(.int .i64),((k:Int):Int)⟩)]) [] (λ k=>[]) [] [] (λ k=>λ _ => .none) else .none)
abbrev Qj(n:Nat)(gg:aT)(x:J):Prop:=(let v0:=bu gg.bo;let v1:=bu gg.az;let v2:=(x.M.length:Int);((∃ k1:Nat,((k1<=x.M.length/\bg (bc v1 v0) (x.M.take k1)=true)/\((x=x/\(gg=gg/\((0:Int)=(k1:Int)/\True)))/\True)))/\(∀ k1:Nat,let v3 := !(bc v1 v0 (x.M.getD k1 zE));((k1<=x.M.length/\bg (bc v1 v0) (x.M.take k1)=true) ->
 (x.M.length<=140737488355328 ->
 (O v2 ->
 (((decide ((k1:Int)<v2))=true ->
 (ak (k1:Int) x.M.length/\(x.M.length<=140737488355328 ->
 (cf (x.M.getD k1 zE)<n/\((v3=true ->
 false=(bc v1 v0 x))/\(v3=false ->
 (O ((k1:Int)+(1:Int))/\(∃ k2:Nat,((k2<=x.M.length/\bg (bc v1 v0) (x.M.take k2)=true)/\(x.M.length - k2<x.M.length - k1/\((x=x/\(gg=gg/\(((k1:Int)+(1:Int))=(k2:Int)/\True)))/\True)))))))))))/\((decide ((k1:Int)<v2))=false ->
 true=(bc v1 v0 x)))))))))
def S6(n:Nat)(hE:aC [tS n,xK,gG,mI]):aH.Good (tS (n+1)):=by
 refine⟨au ns rfl (by decide),?_⟩;show ∀ (gg:aT) (x:J),(cf x<n+1)->bd prog ph [.val ⟨(.st .sig),gg⟩, .ref ⟨(.st .expr),x⟩] (·=[⟨.bool,bc (bu gg.az) (bu gg.bo) x⟩]);intro gg x hp;refine aU (wr:=[29,39]) (cl:=[]) (ro:=[2]) hE ns ML (UY gg x) (let v0:=bc (bu gg.az) (bu gg.bo) x;let v1 := !(decide (((x.M.length:Int))=(cS x.aq)));let v2:=Qj n gg x;let v3 := !(decide (x.aM=(0:Int)));((x.M.length<=140737488355328->(O ((x.M.length:Int))->(O x.aq->(O (cS x.aq)->((v1=true->false=v0)/\(v1=false->(O x.aq->(((decide (x.aq=(3:Int)))=true->(O x.aM->(O gg.az->((decide ((0:Int)<=x.aM/\x.aM<=(IntKind.wrap .i64 (gg.az - (1:Int)))))=v0))))/\((decide (x.aq=(3:Int)))=false->(((decide (x.aq=(4:Int)))=true->(O x.aM->(O gg.bo->((decide ((0:Int)<=x.aM/\x.aM<=(IntKind.wrap .i64 (gg.bo - (1:Int)))))=v0))))/\((decide (x.aq=(4:Int)))=false->(O x.aM->((v3=false->(O x.aq->(((decide (x.aq=(5:Int)))=true->(x.M.length<=140737488355328->(ak (0:Int) x.M.length/\(((!(bh (x.M.getD 0 zE)))=true->false=v0)/\((!(bh (x.M.getD 0 zE)))=false->v2)))))/\((decide (x.aq=(5:Int)))=(!true)->((false=true->false=v0)/\(false=false->v2))))))/\(v3=(!false)->((true=true->false=v0)/\(true=false->v2)))))))))))))))))) (by kernel_rfl) ?_;have f0:=dn x;have f1:=all_zero (bc (bu gg.az) (bu gg.bo)) x.M;refine λ _ _ _ _=>⟨λ _=>?_,λ _ _=>⟨λ _ _ _=>?_,λ _=>⟨λ _ _ _=>?_,λ _ _=>⟨λ _ _=>⟨λ _ _=>⟨?_,λ _=>?_,λ _=>⟨⟨0,?_,⟨rfl,rfl,?_,U⟩,U⟩,λ k1 _=>have b3e:=dk (bc (bu gg.az) (bu gg.bo)) zE x.M k1;have b3f:=dL (bc (bu gg.az) (bu gg.bo)) zE x.M k1;have b3g:=dU (bc (bu gg.az) (bu gg.bo)) x.M k1;have b3h:=cb zE x.M k1;λ _ _=>⟨λ _=>⟨?_,λ _=>⟨?_,λ _=>?_,λ _=>⟨?_,k1+1,?_,?_,⟨rfl,rfl,?_,U⟩,U⟩⟩⟩,λ _=>?_⟩⟩⟩,λ _=>⟨λ _=>?_,λ _=>⟨⟨0,?_,⟨rfl,rfl,?_,U⟩,U⟩,λ k1 _=>have b3a:=dk (bc (bu gg.az) (bu gg.bo)) zE x.M k1;have b3b:=dL (bc (bu gg.az) (bu gg.bo)) zE x.M k1;have b3c:=dU (bc (bu gg.az) (bu gg.bo)) x.M k1;have b3d:=cb zE x.M k1;λ _ _=>⟨λ _=>⟨?_,λ _=>⟨?_,λ _=>?_,λ _=>⟨?_,k1+1,?_,?_,⟨rfl,rfl,?_,U⟩,U⟩⟩⟩,λ _=>?_⟩⟩⟩⟩,λ _=>⟨λ _=>?_,λ _=>⟨⟨0,?_,⟨rfl,rfl,?_,U⟩,U⟩,λ k1 _=>have a3p:=dk (bc (bu gg.az) (bu gg.bo)) zE x.M k1;have a3q:=dL (bc (bu gg.az) (bu gg.bo)) zE x.M k1;have a3r:=dU (bc (bu gg.az) (bu gg.bo)) x.M k1;have a6W:=cb zE x.M k1;λ _ _=>⟨λ _=>⟨?_,λ _=>⟨?_,λ _=>?_,λ _=>⟨?_,k1+1,?_,?_,⟨rfl,rfl,?_,U⟩,U⟩⟩⟩,λ _=>?_⟩⟩⟩⟩⟩⟩⟩;all_goals try and_intros
 all_goals try rw[ik _ _ x]
 all_goals first|rfl|trivial|(simp only[decide_eq_true_eq,decide_eq_false_iff_not,ak,O] at *;omega)|(simp_all [pD,bu];done)|(simp_all [pD,bu,ak,O];omega)|grind [pD,bu,cS,ak,O]
def TA :∀ n,aC [tS n]
 | 0=>⟨⟨au ns rfl (by decide),λ _ _ h=>absurd h (b4y _)⟩,U⟩
 | n+1=>by
  have ih:=TA  n;exact⟨S6 n ⟨ih.1,Nj,gL,jv,U⟩,U⟩
def Nn :aH.Good Hh :=
 ⟨au ns rfl (by decide),λ gg x hp=>(TA  (cf x+1)).1.2 gg x (b4v _)⟩
end
end Go.Proofs.YtmjfpcajohhbeaaGreatDoor

set_option maxRecDepth 4000
set_option maxHeartbeats 4000000
namespace Go.Proofs.YtmjfpcajohhbeaaGreatDoor
noncomputable section
def bK(gg:aT):Bool:=decide (0<=gg.az/\gg.az<=3)&&decide (0<=gg.bo/\gg.bo<=4)
def JY(gg:aT)(x:J)(bP depth:Int):Bool:=bc (bu gg.az) (bu gg.bo) x&&decide ((aL x:Int)<=bP)&&decide ((bO x:Int)<=depth)
def Tq(gg:aT)(x:J)(bP depth:Int):Int:=bif JY gg x bP depth then bP - aL x else 0
def nA:aH:=⟨uf,[.v (.st .sig)],λ (gg:aT)=>⟨(none,[⟨.bool,bK gg⟩])⟩⟩
def Sh(gg:aT):Nat->aE:=λ _ => .none
def QH(hE:aC [fb]):aH.Good nA:=by
 refine⟨au BZ rfl (by decide),?_⟩;show ∀ (gg:aT),True->bd prog uf [.val ⟨(.st .sig),gg⟩] (·=[⟨.bool,bK gg⟩]);intro gg _;refine aU (wr:=[]) (cl:=[]) (ro:=[1]) hE BZ KC (Sh gg) (let v0:=decide ((0:Int)<=gg.az/\gg.az<=(3:Int));((O gg.az->(((v0=true)->(O gg.bo->((decide ((0:Int)<=gg.bo/\gg.bo<=(4:Int)))=(bK gg))))/\((v0=(!true))->false=(bK gg)))))) (by kernel_rfl) ?_;refine λ _=>⟨λ _ _=>?_,λ _=>?_⟩;all_goals try and_intros
 all_goals first|rfl|trivial|(simp_all [bK];done)|(simp_all [bK];omega)
def yJ:aH.Good nA:=QH ⟨eW,U⟩
def mJ:aH:=⟨Bd,[.v (.st .sig)],λ (gg:aT)=>⟨(none,[⟨.bool,bK gg⟩])⟩⟩
def XB(gg:aT):Nat->aE:=λ _ => .none
def Vu(hE:aC [gG]):aH.Good mJ:=by
 refine⟨au G5 rfl (by decide),?_⟩;show ∀ (gg:aT),True->bd prog Bd [.val ⟨(.st .sig),gg⟩] (·=[⟨.bool,bK gg⟩]);intro gg _;refine aU (wr:=[]) (cl:=[]) (ro:=[1]) hE G5 Pf (XB gg) (let v0:=decide ((0:Int)<=gg.az/\gg.az<=(3:Int));((O gg.az->(((v0=true)->(O gg.bo->((decide ((0:Int)<=gg.bo/\gg.bo<=(4:Int)))=(bK gg))))/\((v0=(!true))->false=(bK gg)))))) (by kernel_rfl) ?_;refine λ _=>⟨λ _ _=>?_,λ _=>?_⟩;all_goals try and_intros
 all_goals first|rfl|trivial|(simp_all [bK];done)|(simp_all [bK];omega)
def re:aH.Good mJ:=Vu ⟨gL,U⟩
end
end Go.Proofs.YtmjfpcajohhbeaaGreatDoor

set_option maxRecDepth 4000
set_option maxHeartbeats 4000000
namespace Go.Proofs.YtmjfpcajohhbeaaGreatDoor
noncomputable section
def JA(t a:Int)(x:J):Bool:=if x.aq=3 then decide (0<=x.aM/\x.aM<=t) else if x.aq=4 then decide (0<=x.aM/\x.aM<=a) else decide (x.aM=0)
def zn(t a:Int)(x:J):pD t a x=(decide (cS x.aq=(x.M.length:Int))&&JA t a x&&(!decide (x.aq=5)||bh (x.M.getD 0 ⟨0,0,[]⟩))):=rfl
def Bq(gg:aT)(x:J)(bP depth:Int) :
  (bc (bu gg.az) (bu gg.bo) x=true/\(aL x:Int)<=bP/\(bO x:Int)<=depth/\JY gg x bP depth=true/\Tq gg x bP depth=bP - aL x) \/
  ((bc (bu gg.az) (bu gg.bo) x=false\/bP<(aL x:Int)\/depth<(bO x:Int))/\JY gg x bP depth=false/\Tq gg x bP depth=0):=by
 unfold Tq JY;cases bc (bu gg.az) (bu gg.bo) x
 .right;simp
 .rcases b7D bP (aL x) with h|h
  .right;simp[h,Int.not_le.2 h]
  .rcases b7D depth (bO x) with h'|h'
   .right;simp[h',Int.not_le.2 h']
   .left;simp[h,h']
def xR(n:Nat):aH:=⟨r8,[.v (.st .sig), .v (.st .expr), .v (.int .i64), .v (.int .i64)],λ (gg:aT) (x:J) (bP:Int) (depth:Int)=>⟨(some (cf x<n/\0<=bP/\bP<=1048576/\0<=depth/\depth<=1048576),[⟨(.int .i64),Tq gg x bP depth⟩,⟨.bool,JY gg x bP depth⟩])⟩⟩
def Jb:aH:=⟨r8,[.v (.st .sig), .v (.st .expr), .v (.int .i64), .v (.int .i64)],λ (gg:aT) (x:J) (bP:Int) (depth:Int)=>⟨(some (0<=bP/\bP<=1048576/\0<=depth/\depth<=1048576),[⟨(.int .i64),Tq gg x bP depth⟩,⟨.bool,JY gg x bP depth⟩])⟩⟩
def Xu(gg:aT)(x:J)(bP:Int)(depth:Int):Nat->aE:=(λ zb=>if Nat.beq zb 100012 then .mk (Unit) (λ u=>cS x.aq=(x.M.length:Int)/\1<=bP/\1<=depth/\JA (bu gg.az) (bu gg.bo) x=true) (λ u=>0) [] [0,1,14,15,16,17,18,19,20,21,22,23,24,25,26,27,28] (λ u=>[]) [] (λ u=>[]) [] [] (λ u=>(λ zb=>if Nat.beq zb 100014 then .mk (Unit) (λ u=>pD (bu gg.az) (bu gg.bo) x=true/\1<=bP/\1<=depth) (λ u=>0) [] [] (λ u=>[]) [] (λ u=>[]) [] [] (λ u=>(λ zb=>if Nat.beq zb 1 then .mk (Nat) (λ k=>k<=x.M.length/\bg (bc (bu gg.az) (bu gg.bo)) (x.M.take k)=true/\1+(aF aL (x.M.take k):Int)<=bP/\1+(iK bO (x.M.take k):Int)<=depth) (λ k=>x.M.length - k) [] [5,63,64,65] (λ k=>[(68, .aI ⟨(.int .i64),((k:Int):Int)⟩),(2, .aI ⟨(.int .i64),(bP - (1+(aF aL (x.M.take k):Int)):Int)⟩)]) [] (λ k=>[]) [] [] (λ k=>λ _ => .none) else .none)) else .none)) else .none)
abbrev Sb(gg:aT)(x:J)(bP:Int)(depth:Int):Prop:=(∃ u1:Unit,((cS x.aq=(x.M.length:Int)/\1<=bP/\1<=depth/\JA (bu gg.az) (bu gg.bo) x=true)/\((bP=bP/\(depth=depth/\(gg=gg/\(x=x/\True))))/\True)))
abbrev Sc(gg:aT)(x:J)(bP:Int)(depth:Int):Prop:=(∃ u2:Unit,((pD (bu gg.az) (bu gg.bo) x=true/\1<=bP/\1<=depth)/\((bP=bP/\(depth=depth/\(gg=gg/\(x=x/\True))))/\True)))
abbrev EX(n:Nat)(gg:aT)(x:J)(bP:Int)(depth:Int):Prop:=(let v1:=(x.M.length:Int);let v6:=Sb gg x bP depth;let v7:=(0:Int);let v0:=v7=(Tq gg x bP depth)/\false=(JY gg x bP depth);let v8:=(1:Int);let v2:=depth - v8;let v3 := !(decide (v7<=x.aM/\x.aM<=(IntKind.wrap .i64 (gg.bo - v8))));let v4 := !(decide (v7<=x.aM/\x.aM<=(IntKind.wrap .i64 (gg.az - v8))));let v9:=bu gg.bo;let va:=Sc gg x bP depth;let vb:=bu gg.az;let v5:=bc vb v9;((O x.aq ->
 (((decide (x.aq=(3:Int)))=true ->
 (O x.aM ->
 (O gg.az ->
 (((v4=true) ->
 v0)/\((v4=false) ->
 v6)))))/\((decide (x.aq=(3:Int)))=false ->
 (((decide (x.aq=(4:Int)))=true ->
 (O x.aM ->
 (O gg.bo ->
 (((v3=true) ->
 v0)/\((v3=false) ->
 v6)))))/\((decide (x.aq=(4:Int)))=false ->
 (O x.aM ->
 (((!(decide (x.aM=v7)))=true ->
 v0)/\((!(decide (x.aM=v7)))=false ->
 v6))))))))/\(∀ u1:Unit,((cS x.aq=v1/\1<=bP/\1<=depth/\JA vb v9 x=true) ->
 ((O x.aq ->
 (((decide (x.aq=(5:Int)))=true ->
 (x.M.length<=140737488355328 ->
 (ak v7 x.M.length/\(((!(bh (x.M.getD 0 zE)))=true ->
 v0)/\((!(bh (x.M.getD 0 zE)))=false ->
 va)))))/\((decide (x.aq=(5:Int)))=(!true) ->
 ((false=true ->
 v0)/\(false=false ->
 va)))))/\(∀ u2:Unit,((pD vb v9 x=true/\1<=bP/\1<=depth) ->
 (O (bP - v8)/\(x.M.length<=140737488355328 ->
 (O (v1) ->
 ((∃ k3:Nat,let vc:=x.M.take k3;((k3<=x.M.length/\bg v5 vc=true/\1+(aF aL vc:Int)<=bP/\1+(iK bO vc:Int)<=depth)/\(((bP - v8)=(bP - (1+(aF aL vc:Int)))/\(depth=depth/\(gg=gg/\(x.M=x.M/\((v1)=(v1)/\(v7=(k3:Int)/\True))))))/\True)))/\(∀ k3:Nat,let vd:=aJ (x.M.getD k3 zE);let ve:=x.M.take k3;let vc:=bP - (1+(aF aL ve:Int));((k3<=x.M.length/\bg v5 ve=true/\1+(aF aL ve:Int)<=bP/\1+(iK bO ve:Int)<=depth) ->
 (((decide ((k3:Int)<(v1)))=true ->
 (ak (k3:Int) x.M.length/\(O v2/\((cf vd<n/\0<=vc/\vc<=1048576/\0<=v2/\v2<=1048576)/\(O (Tq gg vd vc v2) ->
 (((!(JY gg vd vc v2))=true ->
 v0)/\((!(JY gg vd vc v2))=false ->
 (O ((k3:Int)+v8)/\(∃ k4:Nat,let vf:=x.M.take k4;((k4<=x.M.length/\bg v5 vf=true/\1+(aF aL vf:Int)<=bP/\1+(iK bO vf:Int)<=depth)/\(x.M.length - k4<x.M.length - k3/\(((Tq gg vd vc v2)=(bP - (1+(aF aL vf:Int)))/\(depth=depth/\(gg=gg/\(x.M=x.M/\((v1)=(v1)/\(((k3:Int)+v8)=(k4:Int)/\True))))))/\True))))))))))))/\((decide ((k3:Int)<(v1)))=false ->
 (vc=(Tq gg x bP depth)/\true=(JY gg x bP depth)))))))))))))))))
abbrev Sd(n:Nat)(gg:aT)(x:J)(bP:Int)(depth:Int):Prop:=(let v0 := !(decide ((cS x.aq)=((x.M.length:Int))));(O x.aq ->
 (O (cS x.aq) ->
 (x.M.length<=140737488355328 ->
 (O ((x.M.length:Int)) ->
 ((v0=true ->
 ((0:Int)=(Tq gg x bP depth)/\false=(JY gg x bP depth)))/\(v0=false ->
 (EX n gg x bP depth))))))))
abbrev Se(n:Nat)(gg:aT)(x:J)(bP:Int)(depth:Int):Prop:=((true=true ->
 ((0:Int)=(Tq gg x bP depth)/\false=(JY gg x bP depth)))/\(true=false ->
 (EX n gg x bP depth)))
def Vn(n:Nat)(hE:aC [xR n,AT,fb,gp]):aH.Good (xR (n+1)):=by
 refine⟨au oU rfl (by decide),?_⟩;show ∀ (gg:aT) (x:J) (bP:Int) (depth:Int),(cf x<n+1/\0<=bP/\bP<=1048576/\0<=depth/\depth<=1048576)->bd prog r8 [.val ⟨(.st .sig),gg⟩, .val ⟨(.st .expr),x⟩, .val ⟨(.int .i64),bP⟩, .val ⟨(.int .i64),depth⟩] (·=[⟨(.int .i64),Tq gg x bP depth⟩,⟨.bool,JY gg x bP depth⟩]);intro gg x bP depth hp;refine aU (wr:=[40,49]) (cl:=[]) (ro:=[4,5]) hE oU O8 (Xu gg x bP depth) (let v0:=Sd n gg x bP depth;let v1:=Se n gg x bP depth;((((decide (bP=(0:Int)))=false->(((decide (depth=(0:Int)))=false->v0)/\((decide (depth=(0:Int)))=(!false)->v1)))/\((decide (bP=(0:Int)))=(!false)->((true=false->v0)/\(true=(!false)->v1)))))) (by kernel_rfl) ?_;have fs:=Bq gg x bP depth;rw[ik _ _ x,Bj x,gR x] at fs;have f0:=dn x;have f1:=ij aL x.M;have f2:=XN bO x.M;have f3:=all_zero (bc (bu gg.az) (bu gg.bo)) x.M;refine⟨λ _=>⟨λ _ _ _ _ _=>⟨λ _=>⟨?_,?_⟩,λ _=>⟨λ _=>⟨λ _ _ _=>⟨λ _=>⟨?_,?_⟩,λ _=>⟨(),?_,⟨rfl,rfl,rfl,rfl,U⟩,U⟩⟩,λ _=>⟨λ _ _ _=>⟨λ _=>⟨?_,?_⟩,λ _=>⟨(),?_,⟨rfl,rfl,rfl,rfl,U⟩,U⟩⟩,λ _ _=>⟨λ _=>⟨?_,?_⟩,λ _=>⟨(),?_,⟨rfl,rfl,rfl,rfl,U⟩,U⟩⟩⟩⟩,λ u1 _=>⟨λ _=>⟨λ _ _=>⟨?_,λ _=>⟨?_,?_⟩,λ _=>⟨(),?_,⟨rfl,rfl,rfl,rfl,U⟩,U⟩⟩,λ _=>⟨λ _=>⟨?_,?_⟩,λ _=>⟨(),?_,⟨rfl,rfl,rfl,rfl,U⟩,U⟩⟩⟩,λ u2 _=>⟨?_,λ _ _=>⟨⟨0,?_,⟨?_,rfl,rfl,rfl,rfl,?_,U⟩,U⟩,λ k3 _=>have a3p:=dk (bc (bu gg.az) (bu gg.bo)) zE x.M k3;have a3q:=dL (bc (bu gg.az) (bu gg.bo)) zE x.M k3;have a3r:=dU (bc (bu gg.az) (bu gg.bo)) x.M k3;have a6W:=cb zE x.M k3;have b0y:=ft aL zE x.M k3;have b0z:=b9 aL x.M (k3+1);have b0A:=gZ aL x.M k3;have b0B:=ud bO zE x.M k3;have b0C:=jc bO x.M (k3+1);have b0D:=E9 bO x.M k3;have a8M:=Bq gg (x.M.getD k3 zE) (bP - (1+(aF aL (x.M.take k3):Int))) (depth - 1);⟨λ _=>⟨?_,?_,?_,λ _=>⟨λ _=>⟨?_,?_⟩,λ _=>⟨?_,k3+1,?_,?_,⟨?_,rfl,rfl,rfl,rfl,?_,U⟩,U⟩⟩⟩,λ _=>⟨?_,?_⟩⟩⟩⟩⟩⟩⟩,λ _=>⟨λ _=>⟨?_,?_⟩,λ _=>⟨λ _=>⟨λ _ _ _=>⟨λ _=>⟨?_,?_⟩,λ _=>⟨(),?_,⟨rfl,rfl,rfl,rfl,U⟩,U⟩⟩,λ _=>⟨λ _ _ _=>⟨λ _=>⟨?_,?_⟩,λ _=>⟨(),?_,⟨rfl,rfl,rfl,rfl,U⟩,U⟩⟩,λ _ _=>⟨λ _=>⟨?_,?_⟩,λ _=>⟨(),?_,⟨rfl,rfl,rfl,rfl,U⟩,U⟩⟩⟩⟩,λ u1 _=>⟨λ _=>⟨λ _ _=>⟨?_,λ _=>⟨?_,?_⟩,λ _=>⟨(),?_,⟨rfl,rfl,rfl,rfl,U⟩,U⟩⟩,λ _=>⟨λ _=>⟨?_,?_⟩,λ _=>⟨(),?_,⟨rfl,rfl,rfl,rfl,U⟩,U⟩⟩⟩,λ u2 _=>⟨?_,λ _ _=>⟨⟨0,?_,⟨?_,rfl,rfl,rfl,rfl,?_,U⟩,U⟩,λ k3 _=>have a6X:=dk (bc (bu gg.az) (bu gg.bo)) zE x.M k3;have a6Y:=dL (bc (bu gg.az) (bu gg.bo)) zE x.M k3;have a6Z:=dU (bc (bu gg.az) (bu gg.bo)) x.M k3;have a9E:=cb zE x.M k3;have b1E:=ft aL zE x.M k3;have b1F:=b9 aL x.M (k3+1);have b1G:=gZ aL x.M k3;have b1H:=ud bO zE x.M k3;have b1I:=jc bO x.M (k3+1);have b1J:=E9 bO x.M k3;have b0E:=Bq gg (x.M.getD k3 zE) (bP - (1+(aF aL (x.M.take k3):Int))) (depth - 1);⟨λ _=>⟨?_,?_,?_,λ _=>⟨λ _=>⟨?_,?_⟩,λ _=>⟨?_,k3+1,?_,?_,⟨?_,rfl,rfl,rfl,rfl,?_,U⟩,U⟩⟩⟩,λ _=>⟨?_,?_⟩⟩⟩⟩⟩⟩⟩⟩,λ _=>⟨λ _ _ _ _ _=>⟨λ _=>⟨?_,?_⟩,λ _=>⟨λ _=>⟨λ _ _ _=>⟨λ _=>⟨?_,?_⟩,λ _=>⟨(),?_,⟨rfl,rfl,rfl,rfl,U⟩,U⟩⟩,λ _=>⟨λ _ _ _=>⟨λ _=>⟨?_,?_⟩,λ _=>⟨(),?_,⟨rfl,rfl,rfl,rfl,U⟩,U⟩⟩,λ _ _=>⟨λ _=>⟨?_,?_⟩,λ _=>⟨(),?_,⟨rfl,rfl,rfl,rfl,U⟩,U⟩⟩⟩⟩,λ u1 _=>⟨λ _=>⟨λ _ _=>⟨?_,λ _=>⟨?_,?_⟩,λ _=>⟨(),?_,⟨rfl,rfl,rfl,rfl,U⟩,U⟩⟩,λ _=>⟨λ _=>⟨?_,?_⟩,λ _=>⟨(),?_,⟨rfl,rfl,rfl,rfl,U⟩,U⟩⟩⟩,λ u2 _=>⟨?_,λ _ _=>⟨⟨0,?_,⟨?_,rfl,rfl,rfl,rfl,?_,U⟩,U⟩,λ k3 _=>have a3p:=dk (bc (bu gg.az) (bu gg.bo)) zE x.M k3;have a3q:=dL (bc (bu gg.az) (bu gg.bo)) zE x.M k3;have a3r:=dU (bc (bu gg.az) (bu gg.bo)) x.M k3;have a6W:=cb zE x.M k3;have b0y:=ft aL zE x.M k3;have b0z:=b9 aL x.M (k3+1);have b0A:=gZ aL x.M k3;have b0B:=ud bO zE x.M k3;have b0C:=jc bO x.M (k3+1);have b0D:=E9 bO x.M k3;have a8M:=Bq gg (x.M.getD k3 zE) (bP - (1+(aF aL (x.M.take k3):Int))) (depth - 1);⟨λ _=>⟨?_,?_,?_,λ _=>⟨λ _=>⟨?_,?_⟩,λ _=>⟨?_,k3+1,?_,?_,⟨?_,rfl,rfl,rfl,rfl,?_,U⟩,U⟩⟩⟩,λ _=>⟨?_,?_⟩⟩⟩⟩⟩⟩⟩,λ _=>⟨λ _=>⟨?_,?_⟩,λ _=>⟨λ _=>⟨λ _ _ _=>⟨λ _=>⟨?_,?_⟩,λ _=>⟨(),?_,⟨rfl,rfl,rfl,rfl,U⟩,U⟩⟩,λ _=>⟨λ _ _ _=>⟨λ _=>⟨?_,?_⟩,λ _=>⟨(),?_,⟨rfl,rfl,rfl,rfl,U⟩,U⟩⟩,λ _ _=>⟨λ _=>⟨?_,?_⟩,λ _=>⟨(),?_,⟨rfl,rfl,rfl,rfl,U⟩,U⟩⟩⟩⟩,λ u1 _=>⟨λ _=>⟨λ _ _=>⟨?_,λ _=>⟨?_,?_⟩,λ _=>⟨(),?_,⟨rfl,rfl,rfl,rfl,U⟩,U⟩⟩,λ _=>⟨λ _=>⟨?_,?_⟩,λ _=>⟨(),?_,⟨rfl,rfl,rfl,rfl,U⟩,U⟩⟩⟩,λ u2 _=>⟨?_,λ _ _=>⟨⟨0,?_,⟨?_,rfl,rfl,rfl,rfl,?_,U⟩,U⟩,λ k3 _=>have a6X:=dk (bc (bu gg.az) (bu gg.bo)) zE x.M k3;have a6Y:=dL (bc (bu gg.az) (bu gg.bo)) zE x.M k3;have a6Z:=dU (bc (bu gg.az) (bu gg.bo)) x.M k3;have a9E:=cb zE x.M k3;have b1E:=ft aL zE x.M k3;have b1F:=b9 aL x.M (k3+1);have b1G:=gZ aL x.M k3;have b1H:=ud bO zE x.M k3;have b1I:=jc bO x.M (k3+1);have b1J:=E9 bO x.M k3;have b0E:=Bq gg (x.M.getD k3 zE) (bP - (1+(aF aL (x.M.take k3):Int))) (depth - 1);⟨λ _=>⟨?_,?_,?_,λ _=>⟨λ _=>⟨?_,?_⟩,λ _=>⟨?_,k3+1,?_,?_,⟨?_,rfl,rfl,rfl,rfl,?_,U⟩,U⟩⟩⟩,λ _=>⟨?_,?_⟩⟩⟩⟩⟩⟩⟩⟩⟩;all_goals try and_intros
 all_goals try (first|with_reducible rfl|with_reducible assumption)
 all_goals try simp only[J.eta,ag.eta,ar.eta,aK,br,bG] at *
 all_goals ((try simp only[bu] at *);generalize IntKind.wrap .i64 (gg.az - 1)=T at *;generalize IntKind.wrap .i64 (gg.bo - 1)=A at *;first|rfl|trivial|(simp only[decide_eq_true_eq,decide_eq_false_iff_not,ak,O] at *;omega)|(rcases fs with ⟨t1,t2,t3,t4,t5⟩|⟨t1,t4,t5⟩<;>(try rw[t4])<;>(try rw[t5])<;>clear t4 t5<;>simp only[decide_eq_true_eq,decide_eq_false_iff_not,zn,JA,Bool.and_eq_true,Bool.and_eq_false_iff,Bool.not_eq_true',Bool.not_eq_false',O] at *<;>first|rfl|omega|grind|grind [cS]))
def LP :∀ n,aC [xR n]
 | 0=>⟨⟨au oU rfl (by decide),λ _ _ _ _ h=>absurd h.1 (b4y _)⟩,U⟩
 | n+1=>by
  have ih:=LP  n;exact⟨Vn n ⟨ih.1,PJ,eW,gA,U⟩,U⟩
def PM :aH.Good Jb :=
 ⟨au oU rfl (by decide),λ gg x bP depth hp=>(LP  (cf x+1)).1.2 gg x bP depth (⟨b4v _,hp⟩)⟩
end
end Go.Proofs.YtmjfpcajohhbeaaGreatDoor

namespace Go.Proofs.YtmjfpcajohhbeaaGreatDoor
noncomputable section
end
end Go.Proofs.YtmjfpcajohhbeaaGreatDoor

set_option maxRecDepth 4000
set_option maxHeartbeats 4000000
namespace Go.Proofs.YtmjfpcajohhbeaaGreatDoor
noncomputable section
def Yu(gg:aT):bK gg=true↔(0<=gg.az/\gg.az<=3)/\(0<=gg.bo/\gg.bo<=4):=by
 simp[bK]
def bW(gg:aT)(x:J):Bool:=JY gg x 200 40
def Bl(gg:aT)(x:J):Bool:=bK gg&&bW gg x
def rk(gg:aT)(x:J):bW gg x=true↔bc (bu gg.az) (bu gg.bo) x=true/\aL x<=200/\bO x<=40:=by
 simp only[bW,JY,b3J,b3E];constructor
 .rintro⟨⟨a,b⟩,c⟩;exact⟨a,by omega,by omega⟩
 .rintro⟨a,b,c⟩;exact⟨⟨a,by omega⟩,by omega⟩
def a2j(t a t' a':Int)(h1:t<=t')(h2:a<=a')(x:J)(h:pD t a x=true):pD t' a' x=true:=by
 rw[zn] at h ⊢;simp only[Bool.and_eq_true] at h ⊢;refine⟨⟨h.1.1,?_⟩,h.2⟩;have:=h.1.2;unfold JA at this ⊢;split
 .rename_i e;rw[b4n e] at this;simp only[b3E] at this ⊢;omega
 .rename_i e;rw[b3R e] at this;split
  .rename_i e';rw[b4n e'] at this;simp only[b3E] at this ⊢;omega
  .rename_i e';rw[b3R e'] at this;exact this
mutual
def J4(t a t' a':Int)(h1:t<=t')(h2:a<=a'):∀ x:J,bc t a x=true->bc t' a' x=true
 | ⟨k,n,ks⟩=>λ h=>by
  simp only[bc,b3J] at h ⊢;exact⟨a2j t a t' a' h1 h2 _ h.1,Rm t a t' a' h1 h2 ks h.2⟩
def Rm(t a t' a':Int)(h1:t<=t')(h2:a<=a'):∀ xs:List J,nL t a xs=true->nL t' a' xs=true
 | []=>λ _=>rfl
 | x::xs=>λ h=>by
  simp only[nL,b3J] at h ⊢;exact⟨J4 t a t' a' h1 h2 x h.1,Rm t a t' a' h1 h2 xs h.2⟩
end
def Zq(p:Nat->Bool):Nat->Bool
 | 0=>true
 | n+1=>Zq p n&&p n
def jz:aH:=⟨A4,[.v (.st .sig), .v (.st .expr)],λ (gg:aT) (x:J)=>⟨(none,[⟨.bool,bW gg x⟩])⟩⟩
def Xq(gg:aT)(x:J):Nat->aE:=λ _ => .none
def Vj(hE:aC [Jb]):aH.Good jz:=by
 refine⟨au GR rfl (by decide),?_⟩;show ∀ (gg:aT) (x:J),True->bd prog A4 [.val ⟨(.st .sig),gg⟩, .val ⟨(.st .expr),x⟩] (·=[⟨.bool,bW gg x⟩]);intro gg x _;refine aU (wr:=[]) (cl:=[]) (ro:=[2,3]) hE GR O4 (Xq gg x) (((0<=(200:Int)/\(200:Int)<=1048576/\0<=(40:Int)/\(40:Int)<=1048576)/\(O (Tq gg x (200:Int) (40:Int))->(JY gg x (200:Int) (40:Int))=(bW gg x)))) (by kernel_rfl) ?_;refine⟨?_,λ _=>?_⟩;all_goals try and_intros
 all_goals first|rfl|trivial|omega|(simp only[b3E,b3D,ak,O,bQ,cw,bI,aY] at *;omega)|(simp[ak,O] at *;omega)|grind
def lZ:aH.Good jz:=Vj ⟨PM,U⟩
def oO:aH:=⟨uS,[.v (.st .sig), .r (.st .expr)],λ (gg:aT) (x:J)=>⟨(none,[⟨.bool,Bl gg x⟩])⟩⟩
def Y6(gg:aT)(x:J):Nat->aE:=λ _ => .none
abbrev Hd(gg:aT)(x:J):Prop:=(let v0:=decide (((bO x:Int))<=(40:Int));(bO x<=1048576/\(O ((bO x:Int)) ->
 ((v0=true ->
 (bc (bu gg.az) (bu gg.bo) x)=(Bl gg x))/\(v0=(!true) ->
 false=(Bl gg x))))))
def Ya(hE:aC [mJ,Hf,EY,Hh]):aH.Good oO:=by
 refine⟨au Ip rfl (by decide),?_⟩;show ∀ (gg:aT) (x:J),True->bd prog uS [.val ⟨(.st .sig),gg⟩, .ref ⟨(.st .expr),x⟩] (·=[⟨.bool,Bl gg x⟩]);intro gg x _;refine aU (wr:=[]) (cl:=[]) (ro:=[2]) hE Ip RF (Y6 gg x) (let v0:=decide ((0:Int)<=(dX (aL x) (200:Int)));let v1:=bc (bu gg.az) (bu gg.bo) x;((((bK gg)=true->((0<=(200:Int)/\(200:Int)<=1048576)/\(O (dX (aL x) (200:Int))->((v0=true->(Hd gg x))/\(v0=(!true)->((false=true->v1=(Bl gg x))/\(false=(!true)->false=(Bl gg x))))))))/\((bK gg)=(!true)->((false=true->(Hd gg x))/\(false=(!true)->((false=true->v1=(Bl gg x))/\(false=(!true)->false=(Bl gg x))))))))) (by kernel_rfl) ?_;have f1:=dK (aL x) 200;have f2:=Pu x;have f3:Bl gg x=(bK gg&&(bc (bu gg.az) (bu gg.bo) x&&decide ((aL x:Int)<=200)&&decide ((bO x:Int)<=40))):=rfl;refine⟨λ _=>⟨?_,λ _=>⟨λ _=>⟨?_,λ _=>⟨λ _=>?_,λ _=>?_⟩⟩,λ _=>⟨λ _=>?_,λ _=>?_⟩⟩⟩,λ _=>⟨λ _=>⟨?_,λ _=>⟨λ _=>?_,λ _=>?_⟩⟩,λ _=>⟨λ _=>?_,λ _=>?_⟩⟩⟩;all_goals try and_intros
 all_goals try rw[f3]
 all_goals first|rfl|trivial|omega|(simp only[b3E,b3D,b3S,b4f] at *;omega)|grind
def nw:aH.Good oO:=Ya ⟨re,Nk,K6,Nn,U⟩
def gU:aH:=⟨pV,[.v (.st .sig), .v (.slice (.st .expr))],λ (gg:aT) (xs:List J)=>⟨(none,[⟨.bool,bg (bW gg) xs&&bK gg⟩])⟩⟩
def NO(gg:aT)(xs:List J):Nat->aE:=(λ zb=>if Nat.beq zb 0 then .mk (Nat) (λ k=>k<=xs.length/\bg (bW gg) (xs.take k)=true) (λ k=>xs.length - k) [] [0,1] (λ k=>[(9, .aI ⟨(.int .i64),((k:Int):Int)⟩)]) [] (λ k=>[]) [] [] (λ k=>λ _ => .none) else .none)
def Lx(hE:aC [jz,nA]):aH.Good gU:=by
 refine⟨au yv rfl (by decide),?_⟩;show ∀ (gg:aT) (xs:List J),True->bd prog pV [.val ⟨(.st .sig),gg⟩, .val ⟨(.slice (.st .expr)),xs⟩] (·=[⟨.bool,bg (bW gg) xs&&bK gg⟩]);intro gg xs _;refine aU (wr:=[]) (cl:=[]) (ro:=[2]) hE yv Hu (NO gg xs) (let v0:=(xs.length:Int);((O v0->((∃ k1:Nat,((k1<=xs.length/\bg (bW gg) (xs.take k1)=true)/\((gg=gg/\(xs=xs/\(v0=v0/\((0:Int)=(k1:Int)/\True))))/\True)))/\(∀ k1:Nat,let v1 := !(bW gg (aJ (xs.getD k1 zE)));((k1<=xs.length/\bg (bW gg) (xs.take k1)=true)->(((decide ((k1:Int)<v0))=true->(ak (k1:Int) xs.length/\((v1=true->false=(bg (bW gg) xs&&bK gg))/\(v1=false->(O ((k1:Int)+(1:Int))/\(∃ k2:Nat,((k2<=xs.length/\bg (bW gg) (xs.take k2)=true)/\(xs.length - k2<xs.length - k1/\((gg=gg/\(xs=xs/\(v0=v0/\(((k1:Int)+(1:Int))=(k2:Int)/\True))))/\True)))))))))/\((decide ((k1:Int)<v0))=false->(bK gg)=(bg (bW gg) xs&&bK gg))))))))) (by kernel_rfl) ?_;have f1:=all_zero (bW gg) xs;refine λ _=>⟨⟨0,?_,⟨rfl,rfl,rfl,?_,U⟩,U⟩,λ k1 _=>have Is:=dk (bW gg) zE xs k1;have It:=dL (bW gg) zE xs k1;have Iu:=dU (bW gg) xs k1;⟨λ _=>⟨?_,λ _=>?_,λ _=>⟨?_,k1+1,?_,?_,⟨rfl,rfl,rfl,?_,U⟩,U⟩⟩,λ _=>?_⟩⟩;all_goals try and_intros
 all_goals try (first|with_reducible rfl|with_reducible assumption)
 all_goals try simp only[J.eta,ag.eta,ar.eta,aK,br,bG] at *
 all_goals first|rfl|trivial|(simp only[b3E,b3D,ak,O] at *;omega)|(simp_all;done)|(simp_all [ak,O];omega)
def ly:aH.Good gU:=Lx ⟨lZ,yJ,U⟩
end
end Go.Proofs.YtmjfpcajohhbeaaGreatDoor

namespace Go.Proofs.YtmjfpcajohhbeaaGreatDoor
noncomputable section
mutual
def cQ(ts as_:List J):J->J
 | ⟨k,n,ks⟩=>if k=3 then ts.getD n.toNat zE else if k=4 then as_.getD n.toNat zE else ⟨k,n,jV ts as_ ks⟩
def jV(ts as_:List J):List J->List J
 | []=>[]
 | x::xs=>cQ ts as_ x::jV ts as_ xs
end
mutual
def dh:J->Int×Int
 | ⟨k,n,ks⟩=>if k=3 then (n+1,0) else if k=4 then (0,n+1) else bM ks
def bM:List J->Int×Int
 | []=>(0,0)
 | x::xs=>(max (dh x).1 (bM xs).1,max (dh x).2 (bM xs).2)
end
def ZO(ts as_:List J):∀ xs,jV ts as_ xs=xs.map (cQ ts as_)
 | []=>by rw[jV];rfl
 | x::xs=>by rw[jV,ZO ts as_ xs];rfl
def a0P(ts as_:List J)(x:J):cQ ts as_ x=if x.aq=3 then ts.getD x.aM.toNat zE else if x.aq=4 then as_.getD x.aM.toNat zE else ⟨x.aq,x.aM,x.M.map (cQ ts as_)⟩:=by
 cases x with
 | mk k n ks=>rw[cQ,ZO]
def Fl(x:J):dh x=if x.aq=3 then (x.aM+1,0) else if x.aq=4 then (0,x.aM+1) else bM x.M:=by
 cases x with
 | mk k n ks=>rw[dh]
structure eV(ts as_:List J)(x:J):Prop where
 t:(dh x).1<=(ts.length:Int)
 a:(dh x).2<=(as_.length:Int)
def PD(ts as_:List J)(xs:List J):Prop:=(bM xs).1<=(ts.length:Int)/\(bM xs).2<=(as_.length:Int)
def a0O(ts as_:List J)(x:J)(xs:List J):PD ts as_ (x::xs)↔eV ts as_ x/\PD ts as_ xs:=by
 have e:eV ts as_ x↔(dh x).1<=(ts.length:Int)/\(dh x).2<=(as_.length:Int):=⟨λ h=>⟨h.t,h.a⟩,λ h=>⟨h.1,h.2⟩⟩;rw[e];unfold PD;rw[bM];dsimp only;omega
def a3D{ts as_:List J}{x:J}(h:eV ts as_ x)(h3:¬ x.aq=3)(h4:¬ x.aq=4):PD ts as_ x.M:=by
 have h1:=h.t;have h2:=h.a;rw[Fl,b3R h3,b3R h4] at h1 h2;exact⟨h1,h2⟩
def ZN{ts as_:List J}:∀ {xs:List J},PD ts as_ xs->∀ x∈xs,eV ts as_ x
 | [],_,_,h=>by cases h
 | y::ys,h,x,hx=>by
  rw[a0O] at h;rcases b3Z.1 hx with rfl|hx
  .exact h.1
  .exact ZN h.2 x hx
def a4T{ts as_:List J}{x:J}(h:eV ts as_ x)(h3:x.aq=3):x.aM<(ts.length:Int):=by
 have:=h.t;rw[Fl,if_pos h3] at this;dsimp only at this;omega
def a4S{ts as_:List J}{x:J}(h:eV ts as_ x)(h4:x.aq=4):x.aM<(as_.length:Int):=by
 have:=h.a;rw[Fl,if_neg (by omega),if_pos h4] at this;dsimp only at this;omega
mutual
def eO(ts as_:List J):J->Int->J×Int
 | ⟨k,n,ks⟩,l=>if l - 1<0 then (zE,l - 1) else
   if k=3\/k=4 then (let e:=(if k=4 then as_ else ts).getD n.toNat zE;(e,l - 1 - ((aL e:Int) - 1))) else
   (⟨k,n,(dS ts as_ ks (l - 1)).1⟩,(dS ts as_ ks (l - 1)).2)
def dS(ts as_:List J):List J->Int->List J×Int
 | [],l=>([],l)
 | x::xs,l=>((eO ts as_ x l).1::(dS ts as_ xs (eO ts as_ x l).2).1,(dS ts as_ xs (eO ts as_ x l).2).2)
end
def CX(x:J):1<=aL x:=by cases x;rw[aL];omega
mutual
def a2N(ts as_:List J):∀ (x:J) (l:Int),(eO ts as_ x l).2<=l - 1/\(0<=(eO ts as_ x l).2->(eO ts as_ x l).1=cQ ts as_ x/\(eO ts as_ x l).2=l - (aL (cQ ts as_ x):Int))/\((eO ts as_ x l).2<0->l<(aL (cQ ts as_ x):Int))
 | ⟨k,n,ks⟩,l=>by
  rw[eO,cQ];have hp:=CX;by_cases h0:l - 1<0
  .rw[if_pos h0];have:=hp (if k=3 then ts.getD n.toNat zE else if k=4 then as_.getD n.toNat zE else ⟨k,n,jV ts as_ ks⟩);refine⟨Int.le_refl _,λ h=>by dsimp only at h;omega,λ _=>by omega⟩
  .rw[b3R h0];by_cases h3:k=3
   .subst h3;have:=hp (ts.getD n.toNat zE);rw[if_pos (Or.inl rfl:(3:Int)=3\/(3:Int)=4),if_pos rfl,if_neg (show ¬ (3:Int)=4 by decide)];dsimp only;exact⟨by omega,λ h=>⟨rfl,by omega⟩,λ h=>by omega⟩
   .by_cases h4:k=4
    .subst h4;have:=hp (as_.getD n.toNat zE);rw[if_pos (Or.inr rfl:(4:Int)=3\/(4:Int)=4),if_neg h3,if_pos rfl,if_pos rfl];dsimp only;exact⟨by omega,λ h=>⟨rfl,by omega⟩,λ h=>by omega⟩
    .rw[b3R (by omega),b3R h3,b3R h4,aL];obtain⟨s1,s2,s3⟩:=Kp ts as_ ks (l - 1);refine⟨s1,λ h=>?_,λ h=>?_⟩
     .obtain⟨g1,g2⟩:=s2 h;rw[g1];exact⟨rfl,by rw[g2];omega⟩
     .have:=s3 (by omega) h;omega
def Kp(ts as_:List J):∀ (xs:List J) (l:Int),(dS ts as_ xs l).2<=l/\(0<=(dS ts as_ xs l).2->(dS ts as_ xs l).1=jV ts as_ xs/\(dS ts as_ xs l).2=l - (c9 (jV ts as_ xs):Int))/\(0<=l->(dS ts as_ xs l).2<0->l<(c9 (jV ts as_ xs):Int))
 | [],l=>by
  rw[dS,jV,c9];exact⟨Int.le_refl _,λ _=>⟨rfl,by dsimp only;omega⟩,λ h h'=>by dsimp only at h';omega⟩
 | x::xs,l=>by
  rw[dS,jV,c9];obtain⟨a1,a2,a3⟩:=a2N ts as_ x l;obtain⟨b1,b2,b3⟩:=Kp ts as_ xs (eO ts as_ x l).2;dsimp only;refine⟨by omega,λ h=>?_,λ h h'=>?_⟩
  .obtain⟨c1,c2⟩:=b2 h;obtain⟨d1,d2⟩:=a2 (by omega);rw[c1,d1];exact⟨rfl,by omega⟩
  .rcases b7D (eO ts as_ x l).2 0 with g|g
   .have:=a3 g;omega
   .have:=b3 g h';obtain⟨d1,d2⟩:=a2 g;omega
end
def VP(gg:aT)(ts as_:List J)(x:J):(decide (0<=(eO ts as_ x 200).2)&&bW gg (eO ts as_ x 200).1)=bW gg (cQ ts as_ x)/\(0<=(eO ts as_ x 200).2->(eO ts as_ x 200).1=cQ ts as_ x):=by
 obtain⟨s1,s2,s3⟩:=a2N ts as_ x 200;refine⟨?_,λ h=>(s2 h).1⟩;by_cases h:0<=(eO ts as_ x 200).2
 .rw[b4l h,(s2 h).1,b4T]
 .have:=s3 (by omega);have e:bW gg (cQ ts as_ x)=false:=by
   unfold bW JY;rw[show decide ((aL (cQ ts as_ x):Int)<=200)=false from decide_eq_false (by omega)];simp
  rw[b3Q h,e];rfl
def fS(y:J):J->List Int->J
 | _,[]=>y
 | x,k::ks=>⟨x.aq,x.aM,x.M.set k.toNat (fS y (x.M.getD k.toNat zE) ks)⟩
structure DY(x:J)(ks:List Int)(k:Nat):Prop where
 le:k<=ks.length
 ok:er x (ks.take k)=true
def DY.zero(x:J)(ks:List Int):DY x ks 0:=⟨b4O _,rfl⟩
def DY.bad{x:J}{ks:List Int}{k:Nat}(h:DY x ks k)(hk:k<ks.length)(hb:¬ (0<=ks.getD k 0/\ks.getD k 0<=((dN x (ks.take k)).M.length:Int) - 1)):er x ks=false :=
 a5j x ks (k+1) (by rw[(Bi x ks k hk).1,show R7 (dN x (ks.take k)) (ks.getD k 0)=false from b3Q hb,b5c])
def DY.next{x:J}{ks:List Int}{k:Nat}(h:DY x ks k)(hk:k<ks.length)(hb:0<=ks.getD k 0/\ks.getD k 0<=((dN x (ks.take k)).M.length:Int) - 1):DY x ks (k+1) :=
 ⟨hk,by rw[(Bi x ks k hk).1,show R7 (dN x (ks.take k)) (ks.getD k 0)=true from b4l hb,h.ok];rfl⟩
def DY.done{x:J}{ks:List Int}{k:Nat}(h:DY x ks k)(hk:ks.length<=k):er x ks=true:=by rw[<-(a1i x ks k hk).1];exact h.ok
end
end Go.Proofs.YtmjfpcajohhbeaaGreatDoor

set_option maxRecDepth 4000
set_option maxHeartbeats 4000000
namespace Go.Proofs.YtmjfpcajohhbeaaGreatDoor
noncomputable section
def Dx:aH:=⟨Gu,[.v (.int .i64), .v (.int .i64)],λ (k:Int) (m:Int)=>⟨(none,[⟨(.st .expr),J.mk k m []⟩])⟩⟩
def Y8(k:Int)(m:Int):Nat->aE:=λ _ => .none
def Yc(hE:aC [])(hO:cO [])(hM:cT [])(hS:cR []):aH.bX Dx:=by
 refine⟨au LQ rfl (by decide),?_⟩;show ∀ (k:Int) (m:Int),True->cY prog Gu [.val ⟨(.int .i64),k⟩, .val ⟨(.int .i64),m⟩] [⟨(.st .expr),J.mk k m []⟩];intro k m _;refine cj (own:=[]) (wr:=[]) (cl:=[]) (ro:=[]) hE hO hM hS LQ Us (Y8 k m) ((J.mk k m [])=(J.mk k m [])) (by kernel_rfl) ?_;refine rfl;all_goals try and_intros
 all_goals first|rfl|trivial|omega|(simp only[b3E,b3D,ak,O,bQ,cw,bI,aY] at *;omega)|(simp[ak,O] at *;omega)|grind
def SI:aH.bX Dx:=Yc trivial trivial trivial trivial
def uO:aH:=⟨r9,[.v (.int .i64), .o (.slice (.st .expr))],λ (k:Int) (ks:List J)=>⟨(none,[⟨(.st .expr),J.mk k 0 ks⟩])⟩⟩
def Y9(k:Int)(ks:List J):Nat->aE:=λ _ => .none
def Yd(hE:aC [])(hO:cO [])(hM:cT [])(hS:cR []):aH.bX uO:=by
 refine⟨au uJ rfl (by decide),?_⟩;show ∀ (k:Int) (ks:List J),True->cY prog r9 [.val ⟨(.int .i64),k⟩, .own ⟨(.slice (.st .expr)),ks⟩] [⟨(.st .expr),J.mk k 0 ks⟩];intro k ks _;refine cj (own:=[]) (wr:=[]) (cl:=[]) (ro:=[]) hE hO hM hS uJ G9 (Y9 k ks) ((J.mk k (0:Int) ks)=(J.mk k 0 ks)) (by kernel_rfl) ?_;refine ?_;all_goals try and_intros
 all_goals first|rfl|trivial|omega|(simp only[b3E,b3D,ak,O,bQ,cw,bI,aY] at *;omega)|(simp[ak,O] at *;omega)|grind
def Fe:aH.bX uO:=Yd trivial trivial trivial trivial
def pQ(n:Nat):aH:=⟨nF,[.v (.st .expr)],λ (e:J)=>⟨(some (cf e<n/\av e<=1048576),[⟨(.st .expr),e⟩])⟩⟩
def iF:aH:=⟨nF,[.v (.st .expr)],λ (e:J)=>⟨(some (av e<=1048576),[⟨(.st .expr),e⟩])⟩⟩
def Qs(e:J):Nat->aE:=(λ zb=>if Nat.beq zb 0 then .mk (Nat) (λ i=>i<=e.M.length) (λ i=>e.M.length - i) [] [0,1,6,7,8,9,10,11] (λ i=>[(14, .aI ⟨(.int .i64),((i:Int):Int)⟩)]) [2] (λ i=>[(3, .box [.aI ⟨(.int .i64),(e.aq:Int)⟩, .aI ⟨(.int .i64),(e.aM:Int)⟩, .aw 2400]),(2400, .aw (.st .expr) (e.M.take i:List J))]) [] [] (λ i=>λ _ => .none) else .none)
def Oc(n:Nat)(hE:aC [])(hO:cO [pQ n])(hM:cT [])(hS:cR []):aH.bX (pQ (n+1)):=by
 refine⟨au lS rfl (by decide),?_⟩;show ∀ (e:J),(cf e<n+1/\av e<=1048576)->cY prog nF [.val ⟨(.st .expr),e⟩] [⟨(.st .expr),e⟩];intro e hp;refine cj (own:=[21,22,23]) (wr:=[]) (cl:=[]) (ro:=[1]) hE hO hM hS lS KE (Qs e) (let v0:=(e.M.length:Int);let v1:=((0:Int)=(0:Int)/\((0:Int)=(0:Int)/\(True/\True)))/\True;let v2:=(3:Nat)=3/\(2:Nat)=2;let v3:=e.aq=e.aq/\(e.aM=e.aM/\(True/\True));((O e.aq->(O e.aM->(e.M.length<=140737488355328->(O v0->((∃ i1:Nat,(i1<=e.M.length/\((True/\(True/\(e.M=e.M/\(v0=v0/\((0:Int)=(i1:Int)/\True)))))/\(v3/\((e.M.take i1)=[]/\v1)))))/\(∀ i1:Nat,let v4:=e.M.getD i1 zE;(i1<=e.M.length->(((decide ((i1:Int)<v0))=true->(ak (i1:Int) e.M.length/\(v2/\((2400:Nat)=2400/\((v4.aq=v4.aq/\(v4.aM=v4.aM/\(v4.M=v4.M/\True)))/\((cf (aJ v4)<n/\av (aJ v4)<=1048576)/\(v2/\((2400:Nat)=2400/\(v2/\((2400:Nat)=2400/\(aY ((e.M.take i1).length+([(aJ v4)]).length) 40/\(O ((i1:Int)+(1:Int))/\(∃ i2:Nat,(i2<=e.M.length/\(e.M.length - i2<e.M.length - i1/\((True/\(True/\(e.M=e.M/\(v0=v0/\(((i1:Int)+(1:Int))=(i2:Int)/\True)))))/\(v3/\(((e.M.take i1)++([(aJ v4)]))=(e.M.take i2)/\v1))))))))))))))))))/\((decide ((i1:Int)<v0))=false->(J.mk e.aq e.aM (e.M.take i1))=e))))))))))) (by kernel_rfl) ?_;rw[j8] at hp;have f0:=dn e;have f1:=λ i (h:i<e.M.length)=>eJ av zE e.M i h;have f2:=λ i (h:i<e.M.length)=>cb zE e.M i h;have f3:=λ i (h:i<e.M.length)=>cr zE e.M i h;have f4:e.M.take 0=[]:=by simp
 have f5:∀ i,e.M.length<=i->e.M.take i=e.M:=λ i h=>b4a h;have f6:∀ i,(e.M.take i).length<=e.M.length:=λ i=>by simp;omega
 have f7:∀ ks,ks=e.M->J.mk e.aq e.aM ks=e:=λ ks h=>by subst h;cases e;rfl
 refine λ _ _ _ _=>⟨⟨0,?_,⟨U,U,rfl,rfl,?_,U⟩,⟨rfl,rfl,U,U⟩,?_,⟨rfl,rfl,U,U⟩,U⟩,λ i1 _=>⟨λ _=>⟨?_,⟨?_,?_⟩,?_,⟨rfl,rfl,rfl,?_⟩,?_,⟨?_,?_⟩,?_,⟨?_,?_⟩,?_,?_,?_,i1+1,?_,?_,⟨U,U,rfl,rfl,?_,U⟩,⟨rfl,rfl,U,U⟩,?_,⟨rfl,rfl,U,U⟩,U⟩,λ _=>?_⟩⟩;all_goals try and_intros
 all_goals try (first|with_reducible rfl|with_reducible assumption)
 all_goals try simp only[J.eta,ag.eta,ar.eta,aK,br,bG] at *
 all_goals first|rfl|trivial|omega|(simp only[b3E,b3D,ak,O,aY,b3P,b4b] at *;first|omega|(have:=f6 i1;omega)|exact f7 _ (f5 _ (by omega))|grind)|grind
def TB:∀ n,cO [pQ n]
 | 0=>⟨⟨au lS rfl (by decide),λ _ h=>absurd h.1 (b4y _)⟩,U⟩
 | n+1=>by
  have ih:=TB n;exact⟨Oc n trivial ⟨ih.1,U⟩ trivial trivial,U⟩
def iN:aH.bX iF :=
 ⟨au lS rfl (by decide),λ e hp=>(TB (cf e+1)).1.2 e (⟨b4v _,hp⟩)⟩
end
end Go.Proofs.YtmjfpcajohhbeaaGreatDoor

set_option maxRecDepth 4000
set_option maxHeartbeats 4000000
namespace Go.Proofs.YtmjfpcajohhbeaaGreatDoor
noncomputable section
def tY(n:Nat):aH:=⟨mT,[.r (.st .expr)],λ (e:J)=>⟨(some (cf e<n/\av e<=1048576),[⟨(.st .expr),e⟩])⟩⟩
def gb:aH:=⟨mT,[.r (.st .expr)],λ (e:J)=>⟨(some (av e<=1048576),[⟨(.st .expr),e⟩])⟩⟩
def Vb(e:J):Nat->aE:=(λ zb=>if Nat.beq zb 0 then .mk (Nat) (λ i=>i<=e.M.length) (λ i=>e.M.length - i) [] [5,6,7,8,9,10,11,12,13] (λ i=>[(4, .aI ⟨(.int .i64),((i:Int):Int)⟩)]) [2] (λ i=>[(3, .box [.aI ⟨(.int .i64),(e.aq:Int)⟩, .aI ⟨(.int .i64),(e.aM:Int)⟩, .aw 3400]),(3400, .aw (.st .expr) (e.M.take i:List J))]) [] [] (λ i=>λ _ => .none) else .none)
def Th(n:Nat)(hE:aC [])(hO:cO [tY n])(hM:cT [])(hS:cR []):aH.bX (tY (n+1)):=by
 refine⟨au oX rfl (by decide),?_⟩;show ∀ (e:J),(cf e<n+1/\av e<=1048576)->cY prog mT [.ref ⟨(.st .expr),e⟩] [⟨(.st .expr),e⟩];intro e hp;refine cj (own:=[31,32,33]) (wr:=[]) (cl:=[]) (ro:=[]) hE hO hM hS oX Pe (Vb e) (let v0:=((0:Int)=(0:Int)/\((0:Int)=(0:Int)/\(True/\True)))/\True;let v1:=(3:Nat)=3/\(2:Nat)=2;let v2:=e.aq=e.aq/\(e.aM=e.aM/\(True/\True));let v3:=(e.M.length:Int);((O e.aq->(O e.aM->((∃ i1:Nat,(i1<=e.M.length/\((e=e/\(True/\(True/\((0:Int)=(i1:Int)/\True))))/\(v2/\((e.M.take i1)=[]/\v0)))))/\(∀ i1:Nat,let v4:=e.M.getD i1 zE;let v5:=(i1:Int);(i1<=e.M.length->(e.M.length<=140737488355328->(O v3->(((decide (v5<v3))=true->(e.M.length<=140737488355328->(O v5->(ak v5 e.M.length/\(v1/\((3400:Nat)=3400/\(e=e/\(e=e/\(e.M=e.M/\(e.M=e.M/\(v5=v5/\(ak v5 e.M.length/\(v4=v4/\((cf v4<n/\av v4<=1048576)/\(v1/\((3400:Nat)=3400/\(v1/\((3400:Nat)=3400/\(aY ((e.M.take i1).length+([(aJ v4)]).length) 40/\(O (v5+(1:Int))/\(∃ i2:Nat,(i2<=e.M.length/\(e.M.length - i2<e.M.length - i1/\((e=e/\(True/\(True/\((v5+(1:Int))=(i2:Int)/\True))))/\(v2/\(((e.M.take i1)++([(aJ v4)]))=(e.M.take i2)/\v0))))))))))))))))))))))))))/\((decide (v5<v3))=false->(J.mk e.aq e.aM (e.M.take i1))=e))))))))))) (by kernel_rfl) ?_;rw[j8] at hp;have f0:=dn e;have f1:=λ i (h:i<e.M.length)=>eJ av zE e.M i h;have f2:=λ i (h:i<e.M.length)=>cb zE e.M i h;have f3:=λ i (h:i<e.M.length)=>cr zE e.M i h;have f4:e.M.take 0=[]:=by simp
 have f5:∀ i,e.M.length<=i->e.M.take i=e.M:=λ i h=>b4a h;have f6:∀ i,(e.M.take i).length<=e.M.length:=λ i=>by simp;omega
 have f7:∀ ks,ks=e.M->J.mk e.aq e.aM ks=e:=λ ks h=>by subst h;cases e;rfl
 refine λ _ _=>⟨⟨0,?_,⟨rfl,U,U,?_,U⟩,⟨rfl,rfl,U,U⟩,?_,⟨rfl,rfl,U,U⟩,U⟩,λ i1 _ _ _=>⟨λ _ _ _=>⟨?_,⟨?_,?_⟩,?_,rfl,rfl,rfl,rfl,rfl,?_,rfl,?_,⟨?_,?_⟩,?_,⟨?_,?_⟩,?_,?_,?_,i1+1,?_,?_,⟨rfl,U,U,?_,U⟩,⟨rfl,rfl,U,U⟩,?_,⟨rfl,rfl,U,U⟩,U⟩,λ _=>?_⟩⟩;all_goals try and_intros
 all_goals try (first|with_reducible rfl|with_reducible assumption)
 all_goals try simp only[J.eta,ag.eta,ar.eta,aK,br,bG] at *
 all_goals first|rfl|trivial|omega|(simp only[b3E,b3D,ak,O,aY,b3P,b4b] at *;first|omega|(have:=f6 i1;omega)|exact f7 _ (f5 _ (by omega))|grind)|grind
def V0:∀ n,cO [tY n]
 | 0=>⟨⟨au oX rfl (by decide),λ _ h=>absurd h.1 (b4y _)⟩,U⟩
 | n+1=>by
  have ih:=V0 n;exact⟨Th n trivial ⟨ih.1,U⟩ trivial trivial,U⟩
def gW:aH.bX gb :=
 ⟨au oX rfl (by decide),λ e hp=>(V0 (cf e+1)).1.2 e (⟨b4v _,hp⟩)⟩
def Cn:aH.Good gb:=gW.plain
mutual
def Kv:∀ x:J,av x+1=aL x
 | ⟨_,_,ks⟩=>by
  have:=Yz ks;simp only[av,aL];omega
def Yz:∀ xs:List J,xs.length+zu xs=c9 xs
 | []=>rfl
 | x::xs=>by
  have h1:=Kv x;have h2:=Yz xs;simp only[zu,c9,b3P];omega
end
def rl(gg:aT)(x:J)(h:bW gg x=true):av x<=1048576:=by
 rw[rk] at h;have:=Kv x;omega
end
end Go.Proofs.YtmjfpcajohhbeaaGreatDoor

namespace Go.Proofs
open Go.Shelf
def Tryz.Qp:Go.Shelf.Ren:=⟨λ|169=>157|n=>n,λ|70=>193|9=>9|0=>0|72=>196|37=>194|127=>212|3=>3|5=>5|n=>n,λ|n=>n⟩
def Tryz.a7R:Go.Proofs.Lays.n169 Tryz.prog Tryz.Qp:={
 mixed:=by kernel_rfl
 f169:=Tryz.func157.trans (congrArg some (by kernel_rfl))
 t0:=Tryz.underlying0
 a0:=Tryz.isAgg0
 z0:=Tryz.sizeOf0
 v0:=Tryz.zeroValue0
 t3:=Tryz.underlying3
 a3:=Tryz.isAgg3
 z3:=Tryz.sizeOf3
 v3:=Tryz.zeroValue3
 t9:=Tryz.underlying9
 a9:=Tryz.isAgg9
 z9:=Tryz.sizeOf9
 v9:=Tryz.zeroValue9
 t37:=Tryz.underlying194
 a37:=Tryz.isAgg194
 z37:=Tryz.sizeOf194
 v37:=Tryz.zeroValue194
 t70:=Tryz.underlying193
 a70:=Tryz.isAgg193
 z70:=Tryz.sizeOf193
 v70:=Tryz.zeroValue193
 t72:=Tryz.underlying196
 a72:=Tryz.isAgg196
 z72:=Tryz.sizeOf196
 v72:=Tryz.zeroValue196
 t127:=Tryz.underlying212
 a127:=Tryz.isAgg212
 z127:=Tryz.sizeOf212
 v127:=Tryz.zeroValue212 }
def Tryz.Mp:Builder.Extra Tryz.prog Tryz.Qp:={
 sizeBuilder:=by kernel_rfl
 liesBuilder:=by kernel_rfl
 t5:=Tryz.underlying5
 a5:=Tryz.isAgg5
 z5:=Tryz.sizeOf5
 v5:=Tryz.zeroValue5
 infoByte:=by kernel_rfl
 cellsByte:=by kernel_rfl
 sizeByte:=by kernel_rfl
 neB5:=by decide }
open Go.RowKit in
def Tryz.Builder_String_any(B b:Nat)(l:List UInt8)(w:World)(h:Lib.IsBuilder 196 5 B b (Lib.byteCells l) w)(iV:B<=w.heap.size) :
  Calls Tryz.prog 157 #[.pointer (some ⟨b,0,none⟩)] w λ e w'=>e = .returned (.string ⟨l.toArray⟩)/\Below B w w':=Any.Builder_String_any Tryz.a7R Tryz.Mp B b l w h iV
def Tryz.a1d:Go.Shelf.Ren:=⟨λ|246=>175|283=>176|284=>177|285=>178|286=>179|129=>181|317=>180|318=>182|319=>183|320=>184|337=>185|338=>186|n=>n,λ|2=>2|3=>3|9=>9|4=>4|171=>220|0=>0|53=>221|37=>194|5=>5|173=>224|212=>227|51=>213|20=>20|213=>228|46=>203|232=>232|233=>233|n=>n,λ|17=>1|18=>2|19=>3|n=>n⟩
def Tryz.a7S:Go.Proofs.Lays.n246 Tryz.prog Tryz.a1d:={
 mixed:=by kernel_rfl
 f129:=Tryz.func181.trans (congrArg some (by kernel_rfl))
 f246:=Tryz.func175.trans (congrArg some (by kernel_rfl))
 f283:=Tryz.func176.trans (congrArg some (by kernel_rfl))
 f284:=Tryz.func177.trans (congrArg some (by kernel_rfl))
 f285:=Tryz.func178.trans (congrArg some (by kernel_rfl))
 f286:=Tryz.func179.trans (congrArg some (by kernel_rfl))
 f317:=Tryz.func180.trans (congrArg some (by kernel_rfl))
 f318:=Tryz.func182.trans (congrArg some (by kernel_rfl))
 f319:=Tryz.func183.trans (congrArg some (by kernel_rfl))
 f320:=Tryz.func184.trans (congrArg some (by kernel_rfl))
 f337:=Tryz.func185.trans (congrArg some (by kernel_rfl))
 f338:=Tryz.func186.trans (congrArg some (by kernel_rfl))
 t0:=Tryz.underlying0
 a0:=Tryz.isAgg0
 z0:=Tryz.sizeOf0
 v0:=Tryz.zeroValue0
 t2:=Tryz.underlying2
 a2:=Tryz.isAgg2
 z2:=Tryz.sizeOf2
 v2:=Tryz.zeroValue2
 t3:=Tryz.underlying3
 a3:=Tryz.isAgg3
 z3:=Tryz.sizeOf3
 v3:=Tryz.zeroValue3
 t4:=Tryz.underlying4
 a4:=Tryz.isAgg4
 z4:=Tryz.sizeOf4
 v4:=Tryz.zeroValue4
 t5:=Tryz.underlying5
 a5:=Tryz.isAgg5
 z5:=Tryz.sizeOf5
 v5:=Tryz.zeroValue5
 t9:=Tryz.underlying9
 a9:=Tryz.isAgg9
 z9:=Tryz.sizeOf9
 v9:=Tryz.zeroValue9
 t20:=Tryz.underlying20
 a20:=Tryz.isAgg20
 z20:=Tryz.sizeOf20
 v20:=Tryz.zeroValue20
 t37:=Tryz.underlying194
 a37:=Tryz.isAgg194
 z37:=Tryz.sizeOf194
 v37:=Tryz.zeroValue194
 t46:=Tryz.underlying203
 a46:=Tryz.isAgg203
 z46:=Tryz.sizeOf203
 v46:=Tryz.zeroValue203
 t51:=Tryz.underlying213
 a51:=Tryz.isAgg213
 z51:=Tryz.sizeOf213
 v51:=Tryz.zeroValue213
 t53:=Tryz.underlying221
 a53:=Tryz.isAgg221
 z53:=Tryz.sizeOf221
 v53:=Tryz.zeroValue221
 t171:=Tryz.underlying220
 a171:=Tryz.isAgg220
 z171:=Tryz.sizeOf220
 v171:=Tryz.zeroValue220
 t173:=Tryz.underlying224
 a173:=Tryz.isAgg224
 z173:=Tryz.sizeOf224
 v173:=Tryz.zeroValue224
 t212:=Tryz.underlying227
 a212:=Tryz.isAgg227
 z212:=Tryz.sizeOf227
 v212:=Tryz.zeroValue227
 t213:=Tryz.underlying228
 a213:=Tryz.isAgg228
 z213:=Tryz.sizeOf228
 t232:=Tryz.underlying232
 a232:=Tryz.isAgg232
 z232:=Tryz.sizeOf232
 v232:=Tryz.zeroValue232
 t233:=Tryz.underlying233
 a233:=Tryz.isAgg233
 z233:=Tryz.sizeOf233
 v233:=Tryz.zeroValue233
 g17:=by kernel_rfl
 g18:=by kernel_rfl
 g19:=by kernel_rfl }
open Go.RowKit Go.Sort Go.Lib in
def Tryz.internal_strconv_FormatInt_10_small(i:Nat)(hi:i<100)(w:World) :
  Calls Tryz.prog 175 #[.int .i64 i, .int .i64 10] w λ e w'=>e = .returned (.string ⟨(Lib.decDigits i).toArray⟩)/\w'=w:=Any.internal_strconv_FormatInt_10_small Tryz.a7S i hi w
end Go.Proofs



set_option maxRecDepth 4000
set_option maxHeartbeats 4000000
namespace Go.Proofs.YtmjfpcajohhbeaaGreatDoor
open Go.RowKit Go.Proofs
def a1K:(Tryz.prog.info? 196).map (·.size)=some 2:=by kernel_rfl
def a7b:liesAt Tryz.prog Tryz.prog.depth 196 (2 / Tryz.prog.cellsOf 196) 0 196 1=true:=by kernel_rfl
def a7a:(Tryz.prog.info? 5).map (λ i=>(i.zero,i.size,i.bytes))=some (some (.int .u8 0),1,1):=by kernel_rfl
def jn(b:Nat)(w w':World):Prop:=∀ k cs T fz,w.heap[k]?=some (.cells cs T fz)->T≠5->k≠b->w'.heap[k]?=w.heap[k]?
def jn.refl(b:Nat)(w:World):jn b w w:=λ _ _ _ _ _ _ _=>rfl
def jn.trans{b:Nat}{w w1 w2:World}(h:jn b w w1)(k:jn b w1 w2):jn b w w2:=λ i cs T fz hi hT hb=>by
 have e:=h i cs T fz hi hT hb;rw[k i cs T fz (e.trans hi) hT hb,e]
def jn.setCell{b:Nat}{w w1:World}(h:jn b w w1)(o:Nat)(v:Value):jn b w (w1.setCell ⟨b,o,none⟩ v):=λ i cs T fz hi hT hb=>by
 rw[Below.heap_setCell w1 _ v i hb];exact h i cs T fz hi hT hb
def bD{w:World}{k:Nat}{x:Obj}(h:w.heap[k]?=some x):k<w.heap.size:=by
 rcases b4J k w.heap.size with h'|h'
 .exact h'
 .simp[b5d h'] at h
def jn.alloc{b:Nat}{w w1:World}(h:jn b w w1)(o:Obj):jn b w (w1.alloc o):=λ i cs T fz hi hT hb=>by
 have e:=h i cs T fz hi hT hb;rw[<-e];exact Lib.alloc_old w1 o i (bD (e.trans hi))
set_option maxRecDepth 100000 in
def Ut(b:Nat)(w:World)(h0:w.cell? ⟨b,0,none⟩=some (.pointer (some ⟨b,0,none⟩))) :
  Calls Tryz.prog 172 #[.pointer (some ⟨b,0,none⟩)] w λ e w'=>e = .returned (.tuple #[])/\w'=w:=by
 obtain⟨j,hj,_⟩:=b4D.1 a1K;go_enter Tryz.func172,Tryz.ntmps172;go_wp2;rw[Lib.run_neq_ptr_same w _ Tryz.underlying193 hj];go_wp2;go_end0;exact⟨rfl,rfl⟩
set_option maxRecDepth 100000 in
def RN(b:Nat)(w:World)(h0:w.cell? ⟨b,0,none⟩=some (.pointer none))(HM:w.shape? b=some (196,2))(hfz:w.frozen? ⟨b,0,none⟩=false) :
  Calls Tryz.prog 172 #[.pointer (some ⟨b,0,none⟩)] w λ e w'=>e = .returned (.tuple #[])/\w'=w.setCell ⟨b,0,none⟩ (.pointer (some ⟨b,0,none⟩)):=by
 obtain⟨j,hj,hjs⟩:=b4D.1 a1K;go_enter Tryz.func172,Tryz.ntmps172;go_wp2;rw[Lib.run_to_unsafe w ⟨b,0,none⟩ Tryz.underlying193 Tryz.underlying217 hj (by rw[hjs];decide) HM (Nat.zero_lt_succ 1)];simp only[Result.andThen];rw[b7l];go_wp2;rw[run_callFunc_extern Tryz.func174 (by kernel_rfl) (by kernel_rfl) (by kernel_rfl) (e:=Extern.AbiNoEscape.same) (by kernel_rfl)];rw[Lib.run_noEscape];simp only[Result.andThen];rw[b7l];go_wp2;rw[Lib.run_from_unsafe w ⟨b,0,none⟩ Tryz.underlying217 Tryz.underlying193 hj HM a7b];simp only[Result.andThen];rw[b7l];go_wp2;go_end0;exact⟨rfl,rfl⟩
def a3z(B b:Nat)(bs:List Value)(w:World)(h:Lib.IsBuilder 196 5 B b bs w) :
  Calls Tryz.prog 172 #[.pointer (some ⟨b,0,none⟩)] w λ e w'=>e = .returned (.tuple #[])/\(Lib.BuilderAt 196 5 B b (.pointer (some ⟨b,0,none⟩)) bs w'/\Below B w w'/\jn b w w'):=by
 rcases h with h|h
 .refine (RN b w h.cell0 h.shape h.frozen0).mono ?_;rintro e w' ⟨rfl,rfl⟩;exact⟨rfl,h.used _,(b7d B w).setCell (p:=⟨b,0,none⟩) h.1 _,(jn.refl b w).setCell 0 _⟩
 .refine (Ut b w h.cell0).mono ?_;rintro e w' ⟨rfl,rfl⟩;exact⟨rfl,h,b7d B _,jn.refl b _⟩
set_option maxRecDepth 100000 in
def writeString(B b:Nat)(bs:List Value)(s:ByteArray)(w:World)(h:Lib.IsBuilder 196 5 B b bs w)(hlen:bs.length+s.size<=140737488355328)(iV:B<=w.heap.size) :
  Calls Tryz.prog 167 #[.pointer (some ⟨b,0,none⟩), .string s] w λ e w'=>e = .returned (.tuple #[.int .i64 s.size, .nilIface])/\(Lib.IsBuilder 196 5 B b (bs++Lib.strCells s) w'/\Below B w w'/\jn b w w'):=by
 obtain⟨i0,hi,hz⟩:=b4D.1 a7a;simp only[b3F] at hz;obtain⟨hz0,Y1,hz2⟩:=hz;go_enter Tryz.func167,Tryz.ntmps167;go_wp2_with (go_at_call 172;refine (a3z B b bs _ h).mono ?_);rintro e w1 ⟨rfl,h1,F3,R2⟩;obtain⟨hB,v,hbk,oM,eZ⟩:=h1;have c0:w1.cell? ⟨b,0,none⟩=some (.pointer (some ⟨b,0,none⟩)):=by rw[b6n hbk];rfl
 have c1:w1.cell? ⟨b,1,none⟩=some v:=by rw[b6n hbk];rfl
 go_wp2_with (at_builtin;refine Lib.wpList_append_own_string _ rfl _ _ 194 9 rfl B 5 i0 Tryz.underlying194 Tryz.underlying9 hi hz0 Y1 hz2 _ _ _ rfl oM s rfl ?c3 ?c4 ?c5 ?_);case c3=>unfold maxLen;omega
 case c4=>omega
 case c5=>have:=F3.size;omega
 intro v' w2 a7E ND _;have bN:b<w1.heap.size:=bD hbk;have Nx:w2.heap[b]?=some (.cells #[.pointer (some ⟨b,0,none⟩),v] 196 (0,0)):=by
  rw[ND.block b bN (λ e=>eZ e.symm)];exact hbk
 have d0:w2.cell? ⟨b,0,none⟩=some (.pointer (some ⟨b,0,none⟩)):=by rw[b6n Nx];rfl
 have d1:w2.cell? ⟨b,1,none⟩=some v:=by rw[b6n Nx];rfl
 have f1:w2.frozen? ⟨b,1,none⟩=false:=Lib.frozen_of_heap Nx 1;have hk2:jn b w1 w2:=λ i cs T fz hi hT hib=>ND.block i (bD hi) λ e=>by
  rcases oM.2 with ⟨hv,_⟩|⟨g,cap,cur,hv,_,hg,_⟩
  .rw[hv] at e;cases e
  .rw[hv] at e;injection e with e;subst e;rw[hg] at hi;simp only[b3C,Obj.cells.injEq] at hi;exact hT hi.2.1.symm
 obtain⟨ao,n',cap,rfl⟩:∃ ao n' cap,v' = .slice ao n' cap:=by
  rcases a7E.2 with ⟨hv,_⟩|⟨g,cap,cur,hv,_⟩
  .exact⟨_,_,_,hv⟩
  .exact⟨_,_,_,hv⟩
 go_wp2;go_ret2;refine⟨rfl,?_,?_,?_⟩
 .exact Or.inr (Lib.BuilderAt.put (T:=196) (e:=5) hB Nx (bs':=bs++Lib.strCells s) (by simpa [Lib.strCells_length] using a7E) (by decide))
 .exact (F3.grown ND (by have:=F3.size;omega) (λ k hk=>(oM.lt k hk).1)).setCell (p:=⟨b,1,none⟩) hB _
 .exact (R2.trans hk2).setCell 1 _
end Go.Proofs.YtmjfpcajohhbeaaGreatDoor

set_option maxRecDepth 4000
set_option maxHeartbeats 4000000
namespace Go.Proofs.YtmjfpcajohhbeaaGreatDoor
noncomputable section
open Go.RowKit Go.Proofs
def bt(n:Int):UInt8:=UInt8.ofNat n.toNat
def eM:aH:=⟨eN,[.v .str, .v .str],λ (s:List UInt8) (p:List UInt8)=>⟨(none,[⟨.bool,decide (p.length<=s.length)&&decide (s.take p.length=p)⟩])⟩⟩
def qG(s:List UInt8)(p:List UInt8):Nat->aE:=λ _ => .none
def p8(hE:aC []):aH.Good eM:=by
 refine⟨au gQ rfl (by decide),?_⟩;show ∀ (s:List UInt8) (p:List UInt8),True->bd prog eN [.val ⟨.str,s⟩, .val ⟨.str,p⟩] (·=[⟨.bool,decide (p.length<=s.length)&&decide (s.take p.length=p)⟩]);intro s p _;refine aU (wr:=[]) (cl:=[]) (ro:=[]) hE gQ nR (qG s p) (let v0:=(p.length:Int);let v1:=decide (p.length<=s.length)&&decide (s.take p.length=p);let v2:=decide (v0<=((s.length:Int)));((O ((s.length:Int))->(O v0->((v2=true->(O v0->(cw (0:Int) v0 s.length/\(decide (((s.take (Int.toNat v0)).drop 0)=p))=v1)))/\(v2=(!true)->false=v1)))))) (by kernel_rfl) ?_;refine λ _ _=>⟨λ _ _=>⟨?_,?_⟩,λ _=>?_⟩;all_goals try and_intros
 all_goals first|rfl|trivial|omega|(simp only[b3E,b3D,ak,O,cw,aY,b3U,b3P,b4b] at *;first|omega|grind)|grind
def n7:aH.Good eM:=p8 trivial
def mK:aH:=⟨mV,[.v .str, .v .str],λ (s:List UInt8) (p:List UInt8)=>⟨(none,[⟨.bool,decide (p.length<=s.length)&&decide (s.take p.length=p)⟩])⟩⟩
def Jl(s:List UInt8)(p:List UInt8):Nat->aE:=λ _ => .none
def H7(hE:aC [eM]):aH.Good mK:=by
 refine⟨au sJ rfl (by decide),?_⟩;show ∀ (s:List UInt8) (p:List UInt8),True->bd prog mV [.val ⟨.str,s⟩, .val ⟨.str,p⟩] (·=[⟨.bool,decide (p.length<=s.length)&&decide (s.take p.length=p)⟩]);intro s p _;refine aU (wr:=[]) (cl:=[]) (ro:=[]) hE sJ Es (Jl s p) (let v0:=decide (p.length<=s.length)&&decide (s.take p.length=p);(v0=v0)) (by kernel_rfl) ?_;refine ?_;all_goals try and_intros
 all_goals first|rfl|trivial|omega|(simp only[b3E,b3D,ak,O,bQ,cw,bI,aY] at *;omega)|(simp[ak,O] at *;omega)|grind
def EJ:aH.Good mK:=H7 ⟨n7,U⟩
end
end Go.Proofs.YtmjfpcajohhbeaaGreatDoor

set_option maxRecDepth 4000
set_option maxHeartbeats 4000000
namespace Go.Proofs.YtmjfpcajohhbeaaGreatDoor
noncomputable section
def fD(b:UInt8):Bool:=decide (48<=b.toNat)&&decide (b.toNat<=57)
def gF(s:List UInt8):Int:=s.foldl (λ n b=>n * 10+((b.toNat:Int) - 48)) 0
def mW(m:Int)(s:List UInt8):Bool:=decide (1<=s.length)&&decide ((s.length:Int)<=m) && !(decide (1<s.length)&&decide ((s.getD 0 0).toNat=48))&&bg fD s
def jY(m:Int)(s:List UInt8):Int:=bif mW m s then gF s else 0
def Wv(s:List UInt8)(k:Nat)(h:k<s.length):gF (s.take (k+1))=gF (s.take k) * 10+(((s.getD k 0).toNat:Int) - 48):=by
 rw[cr 0 s k h];simp[gF,List.foldl_append]
def a1U:∀ (k:Nat) (s:List UInt8),k<=s.length->bg fD (s.take k)=true->0<=gF (s.take k)/\gF (s.take k)<10 ^ k
 | 0,s,_,_=>by simp[gF]
 | k+1,s,h,ha=>by
  have h1:=dk fD 0 s k (by omega);rw[ha] at h1;have h1':=h1.symm;simp only[b3J] at h1';obtain⟨h2,h3⟩:=h1';have ih:=a1U k s (by omega) h2;rw[Wv s k (by omega)];simp only[fD,b3J,b3E] at h3;have:(10:Int) ^ (k+1)=10 ^ k * 10:=by rw[Int.pow_succ]
  omega
def a1V(s:List UInt8)(k:Nat)(h:k<=s.length)(h9:s.length<=9)(ha:bg fD (s.take k)=true):0<=gF (s.take k)/\gF (s.take k)<=1000000000:=by
 have:=a1U k s h ha;have h2:(10:Int) ^ k<=10 ^ 9:=by
  have:(10:Nat) ^ k<=10 ^ 9:=Nat.pow_le_pow_right (by decide) (by omega);exact_mod_cast this
 omega
def a4R(s:List UInt8)(k:Nat):fD (s.getD k 0)=(decide (48<=(s.getD k 0).toNat)&&decide ((s.getD k 0).toNat<=57)):=rfl
def a9w:IntKind.u8.min=0:=rfl
def a9v:IntKind.u8.max=255:=rfl
def a3S(n:Int):bQ .u8 n↔0<=n/\n<=255:=b5G
def a0Y(n:Int):bQ .i64 n↔O n:=b5G
def Fb(m:Int)(s:List UInt8):mW m s=(decide (1<=s.length)&&decide ((s.length:Int)<=m) && !(decide (1<s.length)&&decide ((s.getD 0 0).toNat=48))&&bg fD s):=rfl
def a5k(m:Int)(s:List UInt8)(h:¬ (1<=s.length/\(s.length:Int)<=m/\¬ (1<s.length/\(s.getD 0 0).toNat=48))):jY m s=0/\mW m s=false:=by
 have e:mW m s=false:=by
  cases hb:mW m s with
  | false=>rfl
  | true =>
   rw[Fb] at hb;simp only[b3J,b3E,b3S,b6f,b3D] at hb;exact absurd ⟨hb.1.1.1,hb.1.1.2,λ h=>by rcases hb.1.2 with g|g<;>omega⟩ h
 exact⟨by simp[jY,e],e⟩
structure JB(m:Int)(s:List UInt8)(k:Nat):Prop where
 len:k<=s.length/\s.length<=9
 ok:1<=s.length/\(s.length:Int)<=m/\¬ (1<s.length/\(s.getD 0 0).toNat=48)
 all:bg fD (s.take k)=true
def a6d(m:Int)(s:List UInt8)(h:1<=s.length/\(s.length:Int)<=m/\¬ (1<s.length/\(s.getD 0 0).toNat=48))(hm:m<=9):JB m s 0 :=
 ⟨⟨by omega,by omega⟩,h,by simp[bg]⟩
def a2C(m:Int)(s:List UInt8)(k:Nat)(h:JB m s k)(hk:k<s.length)(hb:(s.getD k 0).toNat<48\/57<(s.getD k 0).toNat):jY m s=0/\mW m s=false:=by
 have e:bg fD s=false:=dL fD 0 s k hk (by rw[a4R,b6f,b3D,b3D];omega);have e':mW m s=false:=by rw[Fb,e];simp
 exact⟨by simp[jY,e'],e'⟩
def SH(m:Int)(s:List UInt8)(k:Nat)(h:JB m s k)(hk:k<s.length)(h1:48<=(s.getD k 0).toNat)(h2:(s.getD k 0).toNat<=57):JB m s (k+1)/\gF (s.take (k+1))=gF (s.take k) * 10+(((s.getD k 0).toNat:Int) - 48) :=
 ⟨⟨⟨hk,h.len.2⟩,h.ok,by rw[dk fD 0 s k hk,h.all,a4R,b4l h1,b4l h2];rfl⟩,Wv s k hk⟩
def a2D(m:Int)(s:List UInt8)(k:Nat)(h:JB m s k)(hk:s.length<=k):jY m s=gF (s.take k)/\mW m s=true:=by
 have e:s.take k=s:=b4a hk;have ha:=h.all;rw[e] at ha;have e':mW m s=true:=by
  rw[Fb,ha];have:=h.ok;simp only[b3J,b3E,b3S,b6f,b3D];exact⟨⟨⟨this.1,this.2.1⟩,(b4J 1 s.length).elim (λ g => .inr (by omega)) (λ g => .inl (by omega))⟩,U⟩
 exact⟨by rw[e];simp[jY,e'],e'⟩
def a9i(m:Int)(s:List UInt8)(k:Nat)(h:JB m s k):k<=s.length/\0<=gF (s.take k)/\gF (s.take k)<=1000000000 :=
 ⟨h.len.1,a1V s k h.len.1 h.len.2 h.all⟩
def rL:aH:=⟨sj,[.v .str],λ (s:List UInt8)=>⟨(none,[⟨(.int .i64),jY 9 s⟩,⟨.bool,mW 9 s⟩])⟩⟩
def Qo(s:List UInt8):Nat->aE:=(λ zb=>if Nat.beq zb 0 then .mk (Nat) (λ k=>JB 9 s k) (λ k=>s.length - k) [] [6,7,8,9,10,11,12,13,14,15,16,17,18,19,20,21,22,23] (λ k=>[(5, .aI ⟨(.int .i64),((k:Int):Int)⟩),(4, .aI ⟨(.int .i64),(gF (s.take k):Int)⟩)]) [] (λ k=>[]) [] [] (λ k=>λ _ => .none) else .none)
abbrev yM(s:List UInt8)(k1:Nat):Prop:=(let v0:=(((s.getD k1 0).toNat:Int)) - (48:Int);let v1:=(gF (s.take k1)) * (10:Int);(O v1/\(ak (k1:Int) s.length/\(bQ .u8 v0/\(O v0/\(O (v1+v0)/\(O ((k1:Int)+(1:Int))/\(∃ k2:Nat,(JB 9 s k2/\(s.length - k2<s.length - k1/\((s=s/\((v1+v0)=(gF (s.take k2))/\(((k1:Int)+(1:Int))=(k2:Int)/\True)))/\True)))))))))))
abbrev ji(s:List UInt8):Prop:=(let v0:=(0:Int)=(jY 9 s)/\false=(mW 9 s);let v1:=(s.length:Int);((∃ k1:Nat,(JB 9 s k1/\((s=s/\((0:Int)=(gF (s.take k1))/\((0:Int)=(k1:Int)/\True)))/\True)))/\(∀ k1:Nat,let v2:=((s.getD k1 0).toNat:Int);(JB 9 s k1 ->
 (O v1 ->
 (((decide ((k1:Int)<v1))=true ->
 (ak (k1:Int) s.length/\(((decide (v2<(48:Int)))=false ->
 (ak (k1:Int) s.length/\(((decide ((57:Int)<v2))=true ->
 v0)/\((decide ((57:Int)<v2))=false ->
 (yM s k1)))))/\((decide (v2<(48:Int)))=(!false) ->
 ((true=true ->
 v0)/\(true=false ->
 (yM s k1)))))))/\((decide ((k1:Int)<v1))=false ->
 ((gF (s.take k1))=(jY 9 s)/\true=(mW 9 s)))))))))
abbrev yN(s:List UInt8):Prop:=(let v0:=decide ((((s.getD 0 0).toNat:Int))=(48:Int));let v1:=(0:Int)=(jY 9 s)/\false=(mW 9 s);let v2:=decide ((1:Int)<((s.length:Int)));(ak (0:Int) s.length/\((v0=true ->
 (O ((s.length:Int)) ->
 ((v2=true ->
 v1)/\(v2=false ->
 (ji s)))))/\(v0=(!true) ->
 ((false=true ->
 v1)/\(false=false ->
 (ji s)))))))
def Ob(hE:aC []):aH.Good rL:=by
 refine⟨au zJ rfl (by decide),?_⟩;show ∀ (s:List UInt8),True->bd prog sj [.val ⟨.str,s⟩] (·=[⟨(.int .i64),jY 9 s⟩,⟨.bool,mW 9 s⟩]);intro s _;refine aU (wr:=[]) (cl:=[]) (ro:=[]) hE zJ IE (Qo s) (let v0:=(s.length:Int);let v1:=(0:Int)=(jY 9 s)/\false=(mW 9 s);((O v0->(((decide (v0<(1:Int)))=false->(O v0->(((decide ((9:Int)<v0))=false->(yN s))/\((decide ((9:Int)<v0))=(!false)->((true=true->v1)/\(true=false->(ji s)))))))/\((decide (v0<(1:Int)))=(!false)->((true=false->(yN s))/\(true=(!false)->((true=true->v1)/\(true=false->(ji s)))))))))) (by kernel_rfl) ?_;have f1:gF (s.take 0)=0:=by simp[gF]
 refine λ _=>⟨λ _ _=>⟨λ _=>⟨?_,λ _ _=>⟨λ _=>⟨?_,?_⟩,λ _=>⟨⟨0,?_,⟨rfl,?_,?_,U⟩,U⟩,λ k1 _ _=>⟨λ _=>⟨?_,λ _=>⟨?_,λ _=>⟨?_,?_⟩,λ _=>⟨?_,?_,?_,?_,?_,?_,k1+1,?_,?_,⟨rfl,?_,?_,U⟩,U⟩⟩,λ _=>⟨λ _=>⟨?_,?_⟩,λ _=>⟨?_,?_,?_,?_,?_,?_,k1+1,?_,?_,⟨rfl,?_,?_,U⟩,U⟩⟩⟩,λ _=>⟨?_,?_⟩⟩⟩⟩,λ _=>⟨λ _=>⟨?_,?_⟩,λ _=>⟨⟨0,?_,⟨rfl,?_,?_,U⟩,U⟩,λ k1 _ _=>⟨λ _=>⟨?_,λ _=>⟨?_,λ _=>⟨?_,?_⟩,λ _=>⟨?_,?_,?_,?_,?_,?_,k1+1,?_,?_,⟨rfl,?_,?_,U⟩,U⟩⟩,λ _=>⟨λ _=>⟨?_,?_⟩,λ _=>⟨?_,?_,?_,?_,?_,?_,k1+1,?_,?_,⟨rfl,?_,?_,U⟩,U⟩⟩⟩,λ _=>⟨?_,?_⟩⟩⟩⟩⟩,λ _=>⟨λ _=>⟨?_,?_⟩,λ _=>⟨⟨0,?_,⟨rfl,?_,?_,U⟩,U⟩,λ k1 _ _=>⟨λ _=>⟨?_,λ _=>⟨?_,λ _=>⟨?_,?_⟩,λ _=>⟨?_,?_,?_,?_,?_,?_,k1+1,?_,?_,⟨rfl,?_,?_,U⟩,U⟩⟩,λ _=>⟨λ _=>⟨?_,?_⟩,λ _=>⟨?_,?_,?_,?_,?_,?_,k1+1,?_,?_,⟨rfl,?_,?_,U⟩,U⟩⟩⟩,λ _=>⟨?_,?_⟩⟩⟩⟩⟩,λ _=>⟨λ _=>⟨?_,λ _ _=>⟨λ _=>⟨?_,?_⟩,λ _=>⟨⟨0,?_,⟨rfl,?_,?_,U⟩,U⟩,λ k1 _ _=>⟨λ _=>⟨?_,λ _=>⟨?_,λ _=>⟨?_,?_⟩,λ _=>⟨?_,?_,?_,?_,?_,?_,k1+1,?_,?_,⟨rfl,?_,?_,U⟩,U⟩⟩,λ _=>⟨λ _=>⟨?_,?_⟩,λ _=>⟨?_,?_,?_,?_,?_,?_,k1+1,?_,?_,⟨rfl,?_,?_,U⟩,U⟩⟩⟩,λ _=>⟨?_,?_⟩⟩⟩⟩,λ _=>⟨λ _=>⟨?_,?_⟩,λ _=>⟨⟨0,?_,⟨rfl,?_,?_,U⟩,U⟩,λ k1 _ _=>⟨λ _=>⟨?_,λ _=>⟨?_,λ _=>⟨?_,?_⟩,λ _=>⟨?_,?_,?_,?_,?_,?_,k1+1,?_,?_,⟨rfl,?_,?_,U⟩,U⟩⟩,λ _=>⟨λ _=>⟨?_,?_⟩,λ _=>⟨?_,?_,?_,?_,?_,?_,k1+1,?_,?_,⟨rfl,?_,?_,U⟩,U⟩⟩⟩,λ _=>⟨?_,?_⟩⟩⟩⟩⟩,λ _=>⟨λ _=>⟨?_,?_⟩,λ _=>⟨⟨0,?_,⟨rfl,?_,?_,U⟩,U⟩,λ k1 _ _=>⟨λ _=>⟨?_,λ _=>⟨?_,λ _=>⟨?_,?_⟩,λ _=>⟨?_,?_,?_,?_,?_,?_,k1+1,?_,?_,⟨rfl,?_,?_,U⟩,U⟩⟩,λ _=>⟨λ _=>⟨?_,?_⟩,λ _=>⟨?_,?_,?_,?_,?_,?_,k1+1,?_,?_,⟨rfl,?_,?_,U⟩,U⟩⟩⟩,λ _=>⟨?_,?_⟩⟩⟩⟩⟩⟩;all_goals try and_intros
 all_goals first|rfl|trivial|omega|((try simp only[b3K,b3I,b3E,b3D,ak,a3S,a0Y,O,a9w,a9v] at *);first|omega|exact (a5k 9 s (by omega)).1.symm|exact (a5k 9 s (by omega)).2.symm|exact a6d 9 s (by omega) (by omega)|(have hq:JB 9 s k1:=(by with_reducible assumption);have hl:=a9i 9 s k1 hq;first|omega|exact (a2C 9 s k1 hq (by omega) (by omega)).1.symm|exact (a2C 9 s k1 hq (by omega) (by omega)).2.symm|exact (SH 9 s k1 hq (by omega) (by omega) (by omega)).1|exact (SH 9 s k1 hq (by omega) (by omega) (by omega)).2.symm|(rw[(SH 9 s k1 hq (by omega) (by omega) (by omega)).2];omega)|exact (a2D 9 s k1 hq (by omega)).1.symm|exact (a2D 9 s k1 hq (by omega)).2.symm))
def IX:aH.Good rL:=Ob trivial
def vT(b n:Int):Bool:=decide (0<=n/\n<=b - 1)
def a7I(b n:Int):vT b n=decide (0<=n/\n<=b - 1):=rfl
def xw:aH:=⟨x6,[.v (.slice (.int .i64)), .v (.int .i64)],λ (xs:List Int) (below:Int)=>⟨(some (0<=below/\below<=4096),[⟨.bool,bg (vT below) xs⟩])⟩⟩
def UH(xs:List Int)(below:Int):Nat->aE:=(λ zb=>if Nat.beq zb 0 then .mk (Nat) (λ k=>k<=xs.length/\bg (vT below) (xs.take k)=true) (λ k=>xs.length - k) [] [0] (λ k=>[(9, .aI ⟨(.int .i64),((k:Int):Int)⟩)]) [] (λ k=>[]) [] [] (λ k=>λ _ => .none) else .none)
def SN(hE:aC [fb]):aH.Good xw:=by
 refine⟨au D5 rfl (by decide),?_⟩;show ∀ (xs:List Int) (below:Int),(0<=below/\below<=4096)->bd prog x6 [.val ⟨(.slice (.int .i64)),xs⟩, .val ⟨(.int .i64),below⟩] (·=[⟨.bool,bg (vT below) xs⟩]);intro xs below hp;refine aU (wr:=[]) (cl:=[]) (ro:=[]) hE D5 Mx (UH xs below) (let v0:=(xs.length:Int);let v1:=(0:Int);let v2:=vT below;let v3:=below - (1:Int);((O v0->((∃ k1:Nat,((k1<=xs.length/\bg v2 (xs.take k1)=true)/\((below=below/\(xs=xs/\(v0=v0/\(v1=(k1:Int)/\True))))/\True)))/\(∀ k1:Nat,let v4 := !(decide (v1<=(xs.getD k1 v1)/\(xs.getD k1 v1)<=v3));((k1<=xs.length/\bg v2 (xs.take k1)=true)->(((decide ((k1:Int)<v0))=true->(ak (k1:Int) xs.length/\(O (xs.getD k1 v1)->(O v3/\(((v4=true)->false=(bg v2 xs))/\((v4=false)->(O ((k1:Int)+(1:Int))/\(∃ k2:Nat,((k2<=xs.length/\bg v2 (xs.take k2)=true)/\(xs.length - k2<xs.length - k1/\((below=below/\(xs=xs/\(v0=v0/\(((k1:Int)+(1:Int))=(k2:Int)/\True))))/\True)))))))))))/\((decide ((k1:Int)<v0))=false->true=(bg v2 xs))))))))) (by kernel_rfl) ?_;have f0:=all_zero (vT below) xs;refine λ _=>⟨⟨0,?_,⟨rfl,rfl,rfl,?_,U⟩,U⟩,λ k1 _=>have Is:=dk (vT below) 0 xs k1;have It:=dL (vT below) 0 xs k1;have Iu:=dU (vT below) xs k1;have Wi:=a7I below (xs.getD k1 0);⟨λ _=>⟨?_,λ _=>⟨?_,λ _=>?_,λ _=>⟨?_,k1+1,?_,?_,⟨rfl,rfl,rfl,?_,U⟩,U⟩⟩⟩,λ _=>?_⟩⟩;all_goals try and_intros
 all_goals first|rfl|trivial|omega|(simp only[decide_eq_true_eq,decide_eq_false_iff_not,ak,O] at *;first|omega|grind)|grind [ak,O]
def M8:aH.Good xw:=SN ⟨eW,U⟩
end
end Go.Proofs.YtmjfpcajohhbeaaGreatDoor

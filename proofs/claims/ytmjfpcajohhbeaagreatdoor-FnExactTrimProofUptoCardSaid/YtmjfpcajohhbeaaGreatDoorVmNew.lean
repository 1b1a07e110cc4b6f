/- VmDraw2, VmDraw3, VmFrz, VmMix, VmDraw4, VmGuard, VmCode, VmFun, VmOwnFun, VmStFun, VmTab, VmNew. -/
import Derived.Test.YtmjfpcajohhbeaaGreatDoorVmDraw
import Derived.Eval
import Derived.Deep.LoopGhost
import Derived.Test.YtmjfpcajohhbeaaGreatDoorChecked
import Derived.WalkKit
import Derived.Deep.QuietTactic
import Derived.BigQuiet
import Derived.LoopTactic
set_option linter.all false
set_option maxHeartbeats 4000000
set_option maxRecDepth 4000
namespace Go.Proofs.YtmjfpcajohhbeaaGreatDoor
def b7u:=@List.singleton_append
def b6Y:=@List.length_erase_of_mem
def b7e:=@List.length_pos_of_mem
def b8n:=@List.any_eq_false
def b5Z:=@Array.getElem?_eq_some_iff
def b7r:=@List.eq_nil_iff_forall_not_mem
def b6q:=@Array.size_setIfInBounds
def b6L:=@of_decide_eq_false
def b7v:=@Nat.testBit_two_pow_sub_one
def b8F:=@Classical.not_forall
def b8o:=@Classical.not_imp
def b6Z:=@List.mem_append_left
def b8O:=@List.map_congr_left
def b7z:=@List.not_mem_nil
def b8G:=@or_false
def b8v:=@forall_eq_or_imp
def b6p:=@Array.getElem?_eq_none
def b5a:=@Bool.not_eq_true'
def b4M:=@decide_eq_false_iff_not
def b6U:=@List.mem_filterMap
def b8D:=@List.foldl_nil
def b8q:=@Nat.blt_eq
def b5M:=@true_and
def b8w:=@List.filter_cons
def b6m:=@List.mem_filter
def b6y:=@List.mem_of_mem_erase
def b8H:=@List.perm_cons_erase
def b7A:=@List.Sublist.map
def b8e:=@List.erase_sublist
def b7h:=@List.mem_erase_of_ne
def b4R:=@Bool.not_false
def b6e:=@Bool.true_and
def b8P:=@List.filter_sublist
def b8I:=@Bool.or_eq_false_iff
def b4T:=@Bool.not_true
def b8L:=@Bool.false_or
def b7P:=@Go.wp_mono
def b7Q:=@Array.getElem?_toList
def b8c:=@Go.calls_of_wp
def b6H:=@Array.mapM_eq_mapM_toList
def b8A:=@Go.Sem.run_map
def b8j:=@Array.getElem?_append_left
def b8b:=@Bool.and_assoc
def b6j:=@Bool.false_and
def b7l:=@List.map_eq_nil_iff
def b5c:=@decide_eq_false
def b6n:=@Bool.and_false
def b5B:=@decide_eq_true
theorem xA(l:List Oper)(es:List Ru)(s0:aj)(π:List Nat)(i:Nat):dR l es s0 (π++[i])=(dR l es s0 π).jF (cF l i) (es.getD i ⟨false, .any,none⟩).v (es.getD i ⟨false, .any,none⟩).ob:=by
 simp[dR,List.foldl_append]
theorem Z7{E:Env}{l:List Oper}{m:Nat}{ck:List Nat}{s0:aj}:∀ (r:List Oper) (i:Nat) (es B5:List Ru) (s s':aj),Trace E l m ck i r es s s'->(∀ j o,r[j]?=some o->l[i+j]?=some o)->B5.length=i ->
  s=dR l (B5++es) s0 (List.range i) ->
  (∀ j o,r[j]?=some o->Vx E l m (ck.getD (i+j) 0) (dR l (B5++es) s0 (List.range (i+j))) o ((B5++es).getD (i+j) ⟨false, .any,none⟩))/\s'=dR l (B5++es) s0 (List.range (i+r.length))
 | [],i,[],B5,s,s',h,_,_,hs=>by
  have h:s=s':=h;subst h;exact⟨by simp,by simpa using hs⟩
 | o::r,i,e::es,B5,s,s',h,hl,h0,hs=>by
  obtain⟨h1,h2⟩:=h;have ho:l[i]?=some o:=hl 0 o rfl;have TF:(B5++e::es).getD i ⟨false, .any,none⟩=e:=by simp[b5b,<-h0]
  have cw:s.jF o.dst e.v e.ob=dR l ((B5++[e])++es) s0 (List.range (i+1)):=by
   rw[b5O,List.range_succ,xA,b7u,TF,<-hs];simp[cF,ho]
  have ih:=Z7 r (i+1) es (B5++[e]) _ s' h2 (λ j p hj=>by
   have:=hl (j+1) p (by simpa using hj);rwa [show i+(j+1)=i+1+j by omega] at this) (by simp[h0]) cw
  rw[b5O,b7u] at ih;refine⟨λ j p hj=>?_,by rw[ih.2];congr 2;simp;omega⟩;cases j with
  | zero =>
   simp at hj;subst hj;rw[b6R,TF,<-hs];exact h1
  | succ j =>
   have:=ih.1 j p (by simpa using hj);rwa [show i+1+j=i+(j+1) by omega] at this
 | [],_,_::_,_,_,_,h,_,_,_=>h.elim
 | _::_,_,[],_,_,_,h,_,_,_=>h.elim
theorem xx:∀ (m:Nat) (π:List Nat),π.Nodup->(∀ k∈π,k<m)->π.length<=m
 | 0,π,_,h=>by
  cases π with
  | nil=>simp
  | cons k r=>exact absurd (h k (by simp)) (by omega)
 | m+1,π,hn,h=>by
  by_cases hm:m∈π
  .have h1:=xx m (π.erase m) (hn.erase m) (λ k hk=>by
    have h2:=(hn.mem_erase_iff).1 hk;have:=h k h2.2;have:=h2.1;omega)
   have h3:=b6Y hm;have:0<π.length:=b7e hm;omega
  .have:=xx m π hn (λ k hk=>by
    have:=h k hk;have:k≠m:=λ e=>by subst e;exact hm hk
    omega)
   omega
section
variable {c:Ctx} {G:Gh} {s:aj} {a:Act} {w w':World}
theorem C1.ej{lk:Nat->Option aB}{v:AV}{x:Value}(h:C1 c G lk w v x){d:Nat}(hr:v.refs d=true):lk d≠none:=by
 cases v with
 | ptr i o =>
  have:=b4O (show Nat.beq i d=true from hr);subst this;obtain⟨_,_,_,h3⟩:=h;intro e;rw[e] at h3;cases h3
 | row i =>
  have:=b4O (show Nat.beq i d=true from hr);subst this;obtain⟨_,h3,_⟩:=h;intro e;rw[e] at h3;cases h3
 | eH i k o =>
  have:=b4O (show Nat.beq i d=true from hr);subst this;obtain⟨_,_,_,_,_,_,_,h3,_⟩:=h;intro e;rw[e] at h3;cases h3
 | av i =>
  have:=b4O (show Nat.beq i d=true from hr);subst this;intro e;have h1:=h.1;rw[e] at h1;cases h1
 | sub i k o z =>
  have:=b4O (show Nat.beq i d=true from hr);subst this;intro e;have h1:=h.1;rw[e] at h1;cases h1
 | eP i k o z =>
  have:=b4O (show Nat.beq i d=true from hr);subst this;intro e;have h1:=h.1;rw[e] at h1;cases h1
 | mp i =>
  have:=b4O (show Nat.beq i d=true from hr);subst this;intro e;have h1:=h.2.1;rw[e] at h1;cases h1
 | agg cs=>exact h.elim
 | iS cs=>exact h.elim
 | dc f cs=>exact h.elim
 | _=>cases hr
theorem pK{d:Nat}:∀ {cs:List AV},AV.gl d cs=true->∃ v∈cs,v.refs d=true
 | v::r,h=>by
  simp only[AV.gl] at h;split at h
  .rename_i hv;exact⟨v,by simp,hv⟩
  .obtain⟨u,hu,hr⟩:=pK h;exact⟨u,by simp[hu],hr⟩
theorem aT.mem_left{α β:Type}{R:α->β->Prop}:∀ {Z9:List α} {bs:List β},aT R Z9 bs->∀ x∈Z9,∃ y,R x y
 | _::_,b::_,h,x,hx=>by
  rcases b5h.1 hx with rfl|hx
  .exact⟨b,h.1⟩
  .exact aT.mem_left h.2 x hx
theorem VR.ej{lk:Nat->Option aB}{v:AV}{x:Value}(h:VR c G lk w v x){d:Nat}(hr:v.refs d=true):lk d≠none:=by
 cases v with
 | aH u=>cases hr
 | agg cs =>
  obtain⟨l,_,hl⟩:=h;obtain⟨u,hu,IU⟩:=pK (show AV.gl d cs=true from hr);obtain⟨y,hy⟩:=hl.mem_left u hu;exact hy.ej IU
 | iS vs =>
  obtain⟨l,_,hl⟩:=h;obtain⟨u,hu,IU⟩:=pK (show AV.gl d vs=true from hr);obtain⟨y,hy⟩:=hl.mem_left u hu;cases u with
  | av i=>exact C1.ej (c:=c) (G:=G) (w:=w) (v := .av i) hy IU
  | agg cs =>
   obtain⟨l,_,hl⟩:=hy;obtain⟨u,hu,IU⟩:=pK (show AV.gl d cs=true from IU);obtain⟨y,hy⟩:=hl.mem_left u hu;exact hy.ej IU
  | _=>first|(cases IU;done)|exact hy.elim
 | dc f vs =>
  obtain⟨l,_,hl⟩:=h;obtain⟨u,hu,IU⟩:=pK (show AV.gl d vs=true from hr);obtain⟨y,hy⟩:=hl.mem_left u hu;rcases hy.inv with ⟨v,rfl,_⟩|⟨cs,l,rfl,_,hl⟩|h1
  .cases IU
  .obtain⟨u,hu,IU⟩:=pK (show AV.gl d cs=true from IU);obtain⟨y,hy⟩:=hl.mem_left u hu;exact hy.ej IU
  .exact h1.ej IU
 | ptr i o=>exact C1.ej (c:=c) (G:=G) (w:=w) (v := .ptr i o) h hr
 | row i=>exact C1.ej (c:=c) (G:=G) (w:=w) (v := .row i) h hr
 | eH i k o=>exact C1.ej (c:=c) (G:=G) (w:=w) (v := .eH i k o) h hr
 | av i=>exact C1.ej (c:=c) (G:=G) (w:=w) (v := .av i) h hr
 | sub i k o z=>exact C1.ej (c:=c) (G:=G) (w:=w) (v := .sub i k o z) h hr
 | eP i k o z=>exact C1.ej (c:=c) (G:=G) (w:=w) (v := .eP i k o z) h hr
 | mp i=>exact C1.ej (c:=c) (G:=G) (w:=w) (v := .mp i) h hr
 | _=>cases hr
theorem Inv.XI(h:Inv c G s a w){d:Nat}(hd:s.ah d=none):(∀ i,(s.sl i).refs d=false)/\∀ i o,s.ah i=some o->o.refs d=false:=by
 refine⟨λ i=>?_,λ i o ho=>?_⟩
 .cases hr:(s.sl i).refs d with
  | false=>rfl
  | true=>exact absurd hd ((h.aC i).ej hr)
 .cases o with
  | row e τ xs=>rfl
  | av τ xs=>rfl
  | map m=>rfl
  | box cs =>
   cases hr:aB.refs d (.box cs) with
   | false=>rfl
   | true =>
    obtain⟨b,l,t,_,_,k3⟩:=h.aJ i _ ho;obtain⟨u,hu,IU⟩:=pK (show AV.gl d cs=true from hr);obtain⟨y,hy⟩:=k3.mem_left u hu;exact absurd hd (hy.ej IU)
theorem TL(h0:Inv c G s a w){d:Option Nat}{v:AV}{ob:Option aB}{a':Act}(Nz:uE d=true)(vF:∀ i o,d=some i->ob=some o->s.ah i=none)(h:Ay c G s.sl s.aC.length s.ah d a w v ob a' w') :
  ∃ G',Inv c G' (s.jF d v ob) a' w':=by
 obtain⟨x,S',rfl,hI,hx⟩:=h;cases ob with
 | none =>
  refine⟨⟨S',G.η,G.φ⟩,?_⟩;have:s.jF d v none=s.put d v:=by cases d<;>rfl
  rw[this];exact Inv.put (s:=s) hI hx
 | some o =>
  obtain⟨hL,hN,hb⟩:=hx;have hd:∃ i,d=some i:=by cases o<;>first|exact⟨_,hL.choose_spec.1⟩|exact hL.elim
  obtain⟨i,rfl⟩:=hd;have hi:=vF i o rfl rfl;have Ap:Inv c ⟨S',G.η,G.φ⟩ s a w':=hI;obtain⟨WE,YA⟩:=Ap.XI hi;have hor:o.refs i=false:=by
   cases o with
   | row e τ xs=>rfl
   | av τ xs=>rfl
   | map m=>rfl
   | box cs =>
    cases hr:aB.refs i (.box cs) with
    | false=>rfl
    | true =>
     obtain⟨b,l,t,_,_,k3⟩:=hN;obtain⟨u,hu,IU⟩:=pK (show AV.gl i cs=true from hr);obtain⟨y,hy⟩:=k3.mem_left u hu;exact absurd hi (hy.ej IU)
  have rC:OR c ⟨S',λ j=>if j=i then x else G.η j,G.φ⟩ (λ j=>if j=i then some o else s.ah j) w' i o:=by
   cases o with
   | box cs =>
    obtain⟨b,l,t,k1,k2,k3⟩:=hN;refine⟨b,l,t,by simp[k1],k2,k3.imp λ u y hu hy=>hy.mono (λ j hj=>?_) (λ _ h=>h) (λ _ _=>rfl)⟩;have eR:j≠i:=λ e=>by
     subst e;have:=my hu hj;rw[show AV.gl j cs=aB.refs j (.box cs) from rfl,hor] at this;cases this
    simp only[b4Z eR];exact⟨eK.refl _,ae⟩
   | row e τ xs =>
    obtain⟨l,k1,k2,k3⟩:=hN;exact⟨l,by simpa using k1,k2,k3⟩
   | av τ xs=>exact hN.elim
   | map m =>
    obtain⟨b,es,clock,k1,k2,k3⟩:=hN;exact⟨b,es,clock,by simp[k1],k2,k3⟩
  have hot:cx (some o)=false:=by
   cases o with
   | av τ xs=>exact hN.elim
   | _=>rfl
  have h4:=bw.newObj Ap i o x hi WE YA hor rC hot (.inr (b5R Nz)) (λ b IL=>by
   obtain⟨q1,q2,q3⟩:=hb b IL;have hle:=h0.aR.size;refine⟨by omega,q3,q2,λ j p hjp Um=>?_,λ j τ xs hj Um=>?_⟩
   .have:=(h0.place j p b hjp Um).2.2;omega
   .have:=(h0.aL.pl j τ xs b hj Um).2.2.1;omega)
  refine⟨⟨S',λ j=>if j=i then x else G.η j,G.φ⟩,?_⟩;unfold Inv;have ct:(s.jF (some i) v (some o)).ah=λ j=>if j=i then some o else s.ah j:=by
   funext j;rw[Fy];by_cases hj:j=i
   .subst hj;simp
   .have:¬ (some i=some j):=by simp;exact λ e=>hj e.symm
    rw[b4Z this,b4Z hj]
  rw[Q9,ct,SA];refine bw.put h4 ?_;cases o with
  | box cs =>
   obtain⟨j,hj,rfl⟩:=hL;simp only[b4L] at hj;subst hj;obtain⟨b,l,t,k1,k2,k3⟩:=hN;exact⟨b,by simp[k1],k1,by simp[gi]⟩
  | row e τ xs =>
   obtain⟨j,hj,rfl⟩:=hL;simp only[b4L] at hj;subst hj;obtain⟨l,k1,k2,k3⟩:=hN;refine⟨by simp,by simp[isRow],?_⟩;rcases k1.2 with ⟨rfl,_⟩|⟨g,cap,cur,rfl,_⟩
   .exact⟨_,_,_,rfl⟩
   .exact⟨_,_,_,rfl⟩
  | av τ xs=>exact hN.elim
  | map m =>
   obtain⟨j,hj,rfl⟩:=hL;simp only[b4L] at hj;subst hj;obtain⟨b,es,clock,k1,k2,k3⟩:=hN;exact⟨by simp,by simp[NM],b,k1⟩
theorem a3E(h:Inv c G s a w)(o:Oper):Inv c G (s.fresh o) a w:=by
 unfold aj.fresh;split
 .rename_i d _ _;obtain⟨h1,_,_⟩:=h.clear d;have ct:aj.ah { s.cq d with aJ:=bS d (s.cq d).aJ }=λ i=>if i=d then none else (s.cq d).ah i:=by
   funext i;exact eI d _ i
  unfold Inv;show bw c G (s.cq d).sl (s.cq d).aC.length (aj.ah { s.cq d with aJ:=bS d (s.cq d).aJ }) a w;rw[ct,show (s.cq d).aC.length=s.aC.length from by simp[aj.cq]];exact h1
 .exact h
theorem a1Q(s:aj)(o:Oper)(j:Nat):(s.ah j=none->(s.fresh o).ah j=none)/\(xZ o.op=true->o.dst=some j->(s.fresh o).ah j=none):=by
 unfold aj.fresh;split
 .rename_i d hc hd;have ct:aj.ah { s.cq d with aJ:=bS d (s.cq d).aJ } j=if j=d then none else (s.ah j).map (aB.kill d):=by
   show ah (bS d (s.cq d).aJ) j=_;rw[eI];have:=congrFun (en s d) j;show (if j=d then none else (s.cq d).ah j)=_;rw[this]
  rw[ct];refine⟨λ h=>by rw[h];simp,λ _ hj=>?_⟩;rw[hd] at hj;simp only[b4L] at hj;rw[b5u hj.symm]
 .rename_i fM;exact⟨λ h=>h,λ hc hd=>(fM j hc hd).elim⟩
theorem Fa:∀ (l:List Oper) {s:aj},Inv c G s a w->Inv c G (l.foldl aj.fresh s) a w
 | [],_,h=>h
 | o::r,_,h=>Fa r (a3E h o)
theorem Ce:∀ (l:List Oper) (s:aj) (j:Nat),(s.ah j=none->(l.foldl aj.fresh s).ah j=none)/\(∀ o∈l,xZ o.op=true->o.dst=some j->(l.foldl aj.fresh s).ah j=none)
 | [],s,j=>⟨λ h=>h,by simp⟩
 | o::r,s,j=>by
  obtain⟨h1,h2⟩:=Ce r (s.fresh o) j;obtain⟨h3,h4⟩:=a1Q s o j;refine⟨λ h=>h1 (h3 h),λ p hp hc hd=>?_⟩;rcases b5h.1 hp with rfl|hp
  .exact h1 (h4 hc hd)
  .exact h2 p hp hc hd
theorem VY{E:Env}{lk:Nat->Option aB}{f:FuncId}{Ts:List TypeId}{vs:List AV}{vc:Vc}{v:AV}{ob:Option aB}(h:J5 E lk f Ts vs=some (vc,v,ob)):ob=none:=by
 unfold J5 at h;repeat' split at h
 all_goals first
  | (simp only[b4L,b4P] at h;exact h.2.2.symm)
  | cases h
theorem Tq{E:Env}{lk:Nat->Option aB}{g:AV}{Ts:List TypeId}{vs:List AV}{vc:Vc}{v:AV}{ob:Option aB}(h:Dh E lk g Ts vs=some (vc,v,ob)):ob=none:=by
 unfold Dh at h;split at h
 .rename_i r hr;repeat' split at hr
  all_goals first
   | (simp only[b4L] at hr h;subst hr;simp only[b4P] at h;exact h.2.2.symm)
   | cases hr
 .repeat' split at h
  all_goals first
   | (simp only[b4L,b4P] at h;exact h.2.2.symm)
   | cases h
theorem QZ{E:Env}{lk:Nat->Option aB}{ev:Operand->AV}{o:Oper}{vc:Vc}{v:AV}{ob:aB}(h:Ol E lk ev o=some (vc,v,some ob)):xZ o.op=true:=by
 unfold Ol at h;split at h;case h_4 T bz=>rw[bz];rfl
 case h_5 T x bz=>rw[bz];rfl
 case h_7 T n ps bz=>rw[bz];rfl
 case h_21 T bz=>rw[bz];rfl
 case h_19 T x y bz=>rw[bz];rfl
 case h_20 cl bz =>
  split at h
  .repeat' split at h
   all_goals first
    | (simp at h;done)
    | cases h
  .rename_i fZ;rw[bz];simp[xZ,fZ]
  .rename_i fZ;repeat' (split at h)
   all_goals first|cases h|skip
  .exact absurd (VY h) (by simp)
  .split at h
   .exact absurd (VY h) (by simp)
   .exact absurd (Tq h) (by simp)
   .exact absurd (Tq h) (by simp)
   .cases h
  .cases h
 all_goals (repeat' split at h)
 all_goals first
  | (simp at h;done)
  | cases h
end
theorem HU{l:List Oper}{D:Nat->Prop}(hD:∀ (k:Nat),D k->∀ (o:Oper),l[k]?=some o->∀ e∈o.after.toList,Region.binds .any e=true->D e.on):∀ (i:Nat) (o:Oper),l[i]?=some o->(∀ e∈o.after.toList,Region.binds .any e=true->D e.on) ->
  ∀ k,Nat.testBit ((bW l []).getD i 0) k=true->D k:=by
 obtain⟨r,h1,h2,h3⟩:=Az l [];rw[h1];simp only[List.nil_append,List.length_nil,Nat.zero_add] at h3 ⊢;intro i;induction i using Nat.strongRecOn with
 | _ i ih =>
  intro o ho b3t k hk;obtain⟨e,he,hb,h⟩:=h3 i o ho k hk;have hde:=b3t e he hb;rcases h with rfl|⟨bK,h⟩
  .exact hde
  .have hll:i<l.length:=(b5K.1 ho).1;have hp:l[e.on]?=some (l[e.on]'(by omega)):=b5p (by omega);exact ih e.on bK _ hp (λ e' Dy cA=>hD e.on hde _ hp e' Dy cA) k h
theorem cj{l:List Oper}(h:backward l=true):∀ (i:Nat) (o:Oper),l[i]?=some o->∀ e∈o.after.toList,Region.binds .any e=true->e.on<i:=by
 intro i o ho e he hb;unfold backward at h;rw[List.all_eq_true] at h;have hi:i<l.length:=(List.getElem?_eq_some_iff.1 ho).1;have:=h i (by simpa using hi);rw[ho] at this;simp only[List.all_eq_true] at this;have:=this e he;rw[hb] at this;simpa [Nat.blt_eq] using this
theorem Iw:∀ {ds:List (Option Nat)},distinct ds=true->(∀ d∈ds,∃ t,d=some t)/\∀ (j k t:Nat),ds[j]?=some (some t)->ds[k]?=some (some t)->j=k
 | [],_=>⟨by simp,by simp⟩
 | none::_,h=>by cases h
 | some d::r,h=>by
  simp only[distinct] at h;split at h
  .cases h
  .rename_i a1S;obtain⟨h1,h2⟩:=Iw h;have fM:∀ x∈r,x≠some d:=by
    intro x hx e;subst e;rw[b8n] at a1S;have:=a1S _ hx;simp at this
   refine⟨λ x hx=>?_,λ j k t hj hk=>?_⟩
   .rcases b5h.1 hx with rfl|hx
    .exact⟨d,rfl⟩
    .exact h1 x hx
   .cases j with
    | zero =>
     simp at hj;subst hj;cases k with
     | zero=>rfl
     | succ k=>exact absurd rfl (fM _ (List.mem_of_getElem? (by simpa using hk)))
    | succ j =>
     cases k with
     | zero =>
      simp at hk;subst hk;exact absurd rfl (fM _ (List.mem_of_getElem? (by simpa using hj)))
     | succ k=>rw[h2 j k t (by simpa using hj) (by simpa using hk)]
theorem mem_ready{ops:Array Oper}{listed:Array Bool}{i:Nat}(hs:listed.size=ops.size):i∈Region.ready .any ops listed↔∃ o,ops[i]?=some o/\listed.getD i false=false/\∀ e∈o.after.toList,Region.binds .any e=true->listed.getD e.on false=true:=by
 unfold Region.ready;simp only[List.mem_filter,List.mem_range,Bool.and_eq_true,Bool.not_eq_true'];constructor
 .rintro⟨hi,h1,h2⟩;have ho:ops[i]?=some ops[i]:=b6c hi;rw[ho] at h2;simp only[b7o,b7y] at h2;refine⟨_,ho,?_,λ e he hb=>?_⟩
  .have:i<listed.size:=by omega
   simpa [Array.getD_eq_getD_getElem?,this] using h1
  .rw[Array.all_eq_true_iff_forall_mem] at h2;have:=h2 e (by simpa using he);simpa [hb] using this
 .rintro⟨o,ho,h1,h2⟩;have hi:i<ops.size:=(b5Z.1 ho).1;refine⟨hi,?_,?_⟩
  .have:i<listed.size:=by omega
   simpa [Array.getD_eq_getD_getElem?,this] using h1
  .rw[ho];simp only[b7o,b7y];rw[Array.all_eq_true_iff_forall_mem];intro e he;cases hb:Region.binds .any e with
   | false=>simp
   | true=>simp[h2 e (by simpa using he) hb]
theorem uc{listed:Array Bool}{i k:Nat}(hi:i<listed.size):(listed.setIfInBounds i true).getD k false=true↔listed.getD k false=true\/k=i:=by
 rw[b5I,b5I,b7Y];by_cases h:i=k
 .subst h;simp[hi]
 .simp[h,Ne.symm h]
section
variable {c:Ctx} {G:Gh} {s:aj} {a:Act} {w w':World}
theorem Ps(hE:bF c.P c.E){ops:Array Oper}{m:Nat}(dL:backward ops.toList=true)(qs:∀ j o,m<=j->ops.toList[j]?=some o->∀ k,k<j->Nat.testBit ((bW ops.toList []).getD j 0) k=true)
  {Q:aj->Prop} {Q':Exit->Act->World->Prop} (hQ:∀ G s a w,Inv c G s a w->Q s->Q' .normal a w) :
  ∀ (fuel j:Nat) (kn:List (Nat×Bool)) (G:Gh) (s:aj) (a:Act) (w:World) (listed:Array Bool),m<=j->ops.size<=j+fuel->listed.size=ops.size->(∀ k,k<ops.size->(listed.getD k false=true↔k<j)) ->
   Inv c G s a w->ft c.E ops (ops.toList.drop j) kn Q s->wpAny c.P .any ops Q' fuel listed a w:=by
 intro fuel;induction fuel with
 | zero =>
  intro j kn G s a w listed hmj hf cK hl hI hr;have tG:ops.toList.drop j=[]:=b7d (by simp;omega);rw[tG] at hr;refine⟨?_,hQ _ _ _ _ hI hr⟩;apply b7r.2;intro i hi;obtain⟨o,ho,h1,_⟩:=(mem_ready cK).1 hi;have bK:=(b5Z.1 ho).1;have:=(hl i bK).2 (by omega);rw[h1] at this;cases this
 | succ fuel ih =>
  intro j kn G s a w listed hmj hf cK hl hI hr;by_cases hj:j<ops.size
  .have ho:ops[j]?=some ops[j]:=b6c hj;have b1I:ops.toList.drop j=ops[j]::ops.toList.drop (j+1):=by
    rw[List.drop_eq_getElem_cons (by simpa using hj)];simp
   rw[b1I] at hr;constructor
   .intro tG;have:j∈Region.ready .any ops listed:=(mem_ready cK).2 ⟨_,ho,by
     cases hb:listed.getD j false with
     | false=>rfl
     | true=>have:=(hl j hj).1 hb;omega,λ e he hb=>by
     have:=cj dL j ops[j] (by simp) e he hb;exact (hl e.on (by omega)).2 this⟩
    rw[tG] at this;cases this
   .intro i hi;obtain⟨o,cG,h1,h2⟩:=(mem_ready cK).1 hi;have L0:=(b5Z.1 cG).1;have hge:j<=i:=by
     rcases b5Q i j with h|h
     .have:=(hl i L0).2 h;rw[h1] at this;cases this
     .exact h
    have DA:i=j:=by
     rcases b5Q j i with h|h
     .have eA:=HU (l:=ops.toList) (D:=λ k=>k<j) (λ k hk o' cP e he hb=>by
       have:=cj dL k o' cP e he hb;omega) i o (by simpa using cG) (λ e he hb=>by
        have bK:=cj dL i o (by simpa using cG) e he hb;exact (hl e.on (by omega)).1 (h2 e he hb)) j (qs i o (by omega) (by simpa using cG) j h)
      omega
     .omega
    subst DA;have hoe:o=ops[i]:=by rw[ho] at cG;exact (b7E cG).symm
    have yJ:∀ k,k<ops.size->((listed.setIfInBounds i true).getD k false=true↔k<i+1):=λ k hk=>by
     rw[uc (by omega),hl k hk];omega
    unfold wpOp;simp only[ho];have lg:=EP hE hI hr;split at lg
    .rename_i hw;rw[b5u hw];exact .inl (b6u (λ a' w' ⟨G',s',oY,h1,h2⟩=>ih (i+1) oY G' s' a' w' _ (by omega) (by omega) (by rw[b6q];exact cK) yJ h1 h2) (lg Q'))
    .rename_i hw;rw[b4Z hw];obtain⟨G',s',oY,h1,h2⟩:=lg;exact ih (i+1) oY G' s' _ w _ (by omega) (by omega) (by rw[b6q];exact cK) yJ h1 h2
  .have tG:ops.toList.drop j=[]:=b7d (by simp;omega);rw[tG] at hr;have ib:Region.ready .any ops listed=[]:=by
    apply b7r.2;intro i hi;obtain⟨o,ho,h1,_⟩:=(mem_ready cK).1 hi;have bK:=(b5Z.1 ho).1;have:=(hl i bK).2 (by omega);rw[h1] at this;cases this
   exact⟨λ _=>hQ _ _ _ _ hI hr,λ i hi=>by rw[ib] at hi;cases hi⟩
theorem LX{l:List Oper}{ops:Array Oper}(hl:ops.toList=l){bits:Nat}{o:Oper}{LA:Bool}(h:Inv c G s a w)(hg:gq l bits s o LA):Region.wanted o (yielded ops a.tmps)=LA:=by
 unfold gq at hg;split at hg
 .rename_i hn;simp[Region.wanted,hn,hg]
 .rename_i g want hn;obtain⟨t,v,h1,_,h3,h4⟩:=hg;have hx:=bp h (.tmp t);rw[h3] at hx;have hs:yB ops g=some t:=by
   unfold yB;rw[<-h1];unfold cF;rw[<-hl];simp
  unfold GV at h4;split at h4
  .have hy:=Nx (s:=s) hs hx;simp[Region.wanted,hn,hy,h4]
  .have hy:=IJ (s:=s) hs hx;simp[Region.wanted,hn,hy,h4]
  .exact h4.elim
theorem a3h(hE:bF c.P c.E){ops:Array Oper}{m:Nat}{es:List Ru}{s0:aj}(dL:backward ops.toList=true)(hm:m<=ops.size)
  (qs:∀ j o,m<=j->ops.toList[j]?=some o->∀ k,k<j->Nat.testBit ((bW ops.toList []).getD j 0) k=true)
  (qt:∀ j k t,j<m->k<m->cF ops.toList j=some t->cF ops.toList k=some t->j=k)
  (a7H:∀ i o,i<m->ops.toList[i]?=some o->Vx c.E ops.toList m ((bW ops.toList []).getD i 0) (dR ops.toList es s0 (List.range i)) o (es.getD i ⟨false, .any,none⟩))
  (Nz:∀ i o,i<m->ops.toList[i]?=some o->uE o.dst=true) (sw:∀ i o t,i<m->ops.toList[i]?=some o->xZ o.op=true->o.dst=some t->s0.ah t=none)
  {Q:aj->Prop} {Q':Exit->Act->World->Prop} (hQ:∀ G s a w,Inv c G s a w->Q s->Q' .normal a w) {kn:List (Nat×Bool)} (LY:∀ G a w,Inv c G (dR ops.toList es s0 (List.range m)) a w->ft c.E ops (ops.toList.drop m) kn Q (dR ops.toList es s0 (List.range m))) :
  ∀ (fuel:Nat) (π:List Nat) (G:Gh) (a:Act) (w:World) (listed:Array Bool),ops.size=π.length+fuel->π.Nodup->(∀ k∈π,k<m)->listed.size=ops.size->(∀ k,k<ops.size->(listed.getD k false=true↔k∈π)) ->
   (∀ k∈π,∀ o,ops.toList[k]?=some o->∀ e∈o.after.toList,Region.binds .any e=true->e.on∈π)->Inv c G (dR ops.toList es s0 π) a w->wpAny c.P .any ops Q' fuel listed a w:=by
 intro fuel;induction fuel with
 | zero =>
  intro π G a w listed hf hn bK cK hl yG hI;have hlen:=xx m π hn bK;have ji:∀ k,k<m->k∈π:=λ k hk=>by
   cases hb:decide (k∈π) with
   | true=>exact b5E hb
   | false =>
    have:=xx m (k::π) (b5G.2 ⟨b6L hb,hn⟩) (λ j hj=>by
     rcases b5h.1 hj with rfl|hj
     .exact hk
     .exact bK j hj)
    simp at this;omega
  suffices Ap:Inv c G (dR ops.toList es s0 (List.range m)) a w from Ps hE dL qs hQ 0 m kn G (dR ops.toList es s0 (List.range m)) a w listed (b5w _) (by omega) cK (λ k hk=>by rw[hl k hk];exact⟨bK k,ji k⟩) Ap (LY G a w Ap)
  have heq:∀ t,(dR ops.toList es s0 π).sl t=(dR ops.toList es s0 (List.range m)).sl t/\(dR ops.toList es s0 π).ah t=(dR ops.toList es s0 (List.range m)).ah t:=λ t =>
   X0 (bits:=2 ^ m - 1) qt bK (by simp) hn List.nodup_range (λ k hk _=>⟨ji k hk,by simpa using hk⟩) t (by
    unfold hidden;rw[List.any_eq_false];intro k hk;simp only[List.mem_range] at hk;split
    .split
     .simp[b7v,hk]
     .simp
    .simp)
  unfold Inv at hI ⊢;rw[Qy] at hI ⊢;rw[<-funext λ t=>(heq t).1,<-funext λ t=>(heq t).2];exact hI
 | succ fuel ih =>
  intro π G a w listed hf hn bK cK hl yG hI;by_cases ji:∀ k,k<m->k∈π
  .suffices Ap:Inv c G (dR ops.toList es s0 (List.range m)) a w from Ps hE dL qs hQ (fuel+1) m kn G (dR ops.toList es s0 (List.range m)) a w listed (b5w _) (by have:=xx m π hn bK;omega) cK (λ k hk=>by rw[hl k hk];exact⟨bK k,ji k⟩) Ap (LY G a w Ap)
   have heq:∀ t,(dR ops.toList es s0 π).sl t=(dR ops.toList es s0 (List.range m)).sl t/\(dR ops.toList es s0 π).ah t=(dR ops.toList es s0 (List.range m)).ah t:=λ t =>
    X0 (bits:=2 ^ m - 1) qt bK (by simp) hn List.nodup_range (λ k hk _=>⟨ji k hk,by simpa using hk⟩) t (by
     unfold hidden;rw[List.any_eq_false];intro k hk;simp only[List.mem_range] at hk;split
     .split
      .simp[b7v,hk]
      .simp
     .simp)
   unfold Inv at hI ⊢;rw[Qy] at hI ⊢;rw[<-funext λ t=>(heq t).1,<-funext λ t=>(heq t).2];exact hI
  ·
   have hex:∃ k,k<m/\k∉π/\∀ j,j<k->j∈π:=by
    have:∀ n,(∃ k,k<n/\k<m/\k∉π)->∃ k,k<m/\k∉π/\∀ j,j<k->j∈π:=by
     intro n;induction n with
     | zero=>rintro⟨k,hk,_⟩;omega
     | succ n ihn =>
      rintro⟨k,hk,hkm,Ch⟩;by_cases hs:∃ k,k<n/\k<m/\k∉π
      .exact ihn hs
      .refine⟨k,hkm,Ch,λ j hj=>?_⟩;cases hb:decide (j∈π) with
       | true=>exact b5E hb
       | false=>exact absurd ⟨j,by omega,by omega,b6L hb⟩ hs
    refine this m ?_;have h1:∃ k,¬ (k<m->k∈π):=b8F.1 ji;obtain⟨k,hk⟩:=h1;have h2:=b8o.1 hk;exact⟨k,h2.1,h2.1,h2.2⟩
   obtain⟨k0,a5f,tF,a1Y⟩:=hex;have a1V:ops[k0]?=some (ops[k0]'(by omega)):=b6c (by omega);constructor
   .intro tG;have:k0∈Region.ready .any ops listed:=(mem_ready cK).2 ⟨_,a1V,by
     cases hb:listed.getD k0 false with
     | false=>rfl
     | true=>exact absurd ((hl k0 (by omega)).1 hb) tF,λ e he hb=>by
     have a1X:=cj dL k0 ops[k0] (by simp) e he hb;exact (hl e.on (by omega)).2 (a1Y e.on a1X)⟩
    rw[tG] at this;cases this
   .intro i hi;obtain⟨o,cG,h1,h2⟩:=(mem_ready cK).1 hi;have L0:=(Array.getElem?_eq_some_iff.1 cG).1;have eF:ops.toList[i]?=some o:=by simpa using cG
    have xg:i∉π:=λ hh=>by
     have:=(hl i L0).2 hh;rw[h1] at this;cases this
    have Wz:∀ e∈o.after.toList,Region.binds .any e=true->e.on∈π:=λ e he hb=>by
     have a1X:=cj dL i o eF e he hb;exact (hl e.on (by omega)).1 (h2 e he hb)
    have Gb:=HU (l:=ops.toList) (D:=λ k=>k∈π) (λ k hk o' cP e he hb=>yG k hk o' cP e he hb) i o eF Wz;have tE:i<m:=by
     rcases b5Q i m with h|h
     .exact h
     .exact absurd (Gb k0 (qs i o h eF k0 (by omega))) tF
    have P7:=HU (l:=ops.toList) (D:=λ k=>k<i) (λ k hk o' cP e he hb=>by
     have:=cj dL k o' cP e he hb;omega) i o eF (λ e he hb=>cj dL i o eF e he hb)
    have NJ:=λ t hh=>X0 (l:=ops.toList) (es:=es) (s0:=s0) (m:=m) (bits:=(bW ops.toList []).getD i 0) (π:=π) (π':=List.range i) qt bK (by intro k hk;simp at hk;omega) hn b7N
     (λ k hk hb=>⟨Gb k hb,by simpa using P7 k hb⟩) t hh
    obtain⟨hg,cI,a3O⟩:=a7H i o tE eF;have cU:Yq ops.toList m ((bW ops.toList []).getD i 0) (dR ops.toList es s0 (List.range i))=Yq ops.toList m ((bW ops.toList []).getD i 0) (dR ops.toList es s0 π):=by
     funext x;cases x with
     | tmp t =>
      simp only[Yq];split
      .rfl
      .rename_i hh;exact ((NJ t hh).1).symm
     | _=>rfl
    have ct:US ops.toList m ((bW ops.toList []).getD i 0) (dR ops.toList es s0 (List.range i))=US ops.toList m ((bW ops.toList []).getD i 0) (dR ops.toList es s0 π):=by
     funext t;simp only[US];split
     .rfl
     .rename_i hh;exact ((NJ t hh).2).symm
    have hg':gq ops.toList ((bW ops.toList []).getD i 0) (dR ops.toList es s0 π) o (es.getD i ⟨false, .any,none⟩).LA:=by
     unfold gq at hg ⊢;split
     .rename_i Ci;simpa [Ci] using hg
     .rename_i g want Ci;simp only[Ci] at hg;obtain⟨t,b,q1,q2,q3,q4⟩:=hg;refine⟨t,b,q1,q2,?_,q4⟩;have hgm:g<m:=Nat.lt_trans (P7 g q2) tE;have hh:hidden ops.toList m ((bW ops.toList []).getD i 0) t=false:=by
       unfold hidden;rw[List.any_eq_false];intro k hk;simp only[List.mem_range] at hk;split
       .rename_i d hd;split
        .rename_i IM;have IM:=b4O IM;subst IM;have:=qt k g d hk hgm hd q1;subst this;rw[q2];simp
        .simp
       .simp
      exact ((NJ t hh).1).trans q3
    have hw:=LX (ops:=ops) rfl hI hg';have yH:∀ (G':Gh) (a':Act) (w':World),Inv c G' (dR ops.toList es s0 (π++[i])) a' w'->wpAny c.P .any ops Q' fuel (listed.setIfInBounds i true) a' w':=by
     intro G' a' w' Ap;refine ih (π++[i]) G' a' w' _ (by simp;omega) ?_ ?_ (by rw[b6q];exact cK) ?_ ?_ Ap
     .rw[b5s];exact⟨hn,by simp,λ x hx y hy=>by simp at hy;subst hy;exact λ e=>xg (e ▸ hx)⟩
     .intro k hk;rcases b4Q.1 hk with hk|hk
      .exact bK k hk
      .simp at hk;omega
     .intro k hk;rw[uc (by omega),hl k hk];simp
     .intro k hk o' cP e he hb;rcases b4Q.1 hk with hk|hk
      .exact b6Z _ (yG k hk o' cP e he hb)
      .simp at hk;subst hk;rw[eF] at cP;simp only[b4L] at cP;subst cP;exact b6Z _ (Wz e he hb)
    have R1:cF ops.toList i=o.dst:=by simp[cF,eF]
    unfold wpOp;simp only[cG];cases Qj:(es.getD i ⟨false, .any,none⟩).LA with
    | true =>
     rw[Qj] at hw;rw[b5u hw];obtain⟨vc,hq,eb⟩:=cI Qj;rw[cU,ct] at hq;refine .inl (b6u ?_ (Om hE hI (lk':=US ops.toList m ((bW ops.toList []).getD i 0) (dR ops.toList es s0 π)) ?_ ?_ hq eb))
     .intro a' w' hd;obtain⟨G',mV⟩:=TL hI (Nz i o tE eF) (λ t ob IM Un=>by
       rw[Un] at hq;have hcr:=QZ hq;have h0:=sw i o t tE eF hcr IM;have DB:=(gK ops.toList es t π s0 (λ k hk hkd=>by
        have:=qt k i t (bK k hk) tE hkd (by rw[R1];exact IM);subst this;exact xg hk)).2
       rw[DB,h0]) hd
      refine yH G' a' w' ?_;rw[xA,R1];exact mV
     .intro id ob aY;unfold US at aY;split at aY
      .cases aY
      .exact aY
     .intro x;cases x with
      | tmp t =>
       simp only[Yq];split
       .trivial
       .exact bp hI (.tmp t)
      | const v=>exact bp hI (.const v)
      | global g=>exact bp hI (.global g)
      | func f=>exact bp hI (.func f)
    | false =>
     rw[Qj] at hw;rw[hw];obtain⟨hv,Un⟩:=a3O Qj;refine yH G _ w ?_;rw[xA,R1,hv,Un,Sz];exact Inv.put (v := .ep) hI rfl
theorem WY{l:List Oper}{K:Prop}(h:Inv c G s a w):xw l s K->K:=by
 induction l with
 | nil=>exact λ h=>h
 | cons o r ih =>
  intro hk;simp only[xw] at hk;split at hk
  .exact ih (Kg (h.aC _) hk)
  .exact ih hk
theorem VS(hE:bF c.P c.E)(gH:c.P.follows .mixedOrders=true){id:Nat}{ops:Array Oper}{Q:aj->Prop}{Q':Exit->Act->World->Prop}(hQ:∀ G s a w,Inv c G s a w->Q s->Q' .normal a w)
  (h:Inv c G s a w) (hd:VQ c.E ops Q s):(Code.region id ops true).wp c.P Q' a w:=by
 unfold VQ at hd;simp only at hd;split at hd;case h_2=>exact hd.elim
 case h_1 hb =>
  simp only[Bool.and_eq_true] at hb;obtain⟨P8,yD,dL⟩:=hb;obtain⟨r,ha1,ha2,_⟩:=Az ops.toList [];have Wv:(bW ops.toList []).length=ops.size:=by rw[ha1];simpa using ha2
  obtain⟨hm1,_,hm3⟩:=CB (bW ops.toList []) 0 0 (b5w _);simp only[b6w] at hm1 hm3;rw[Wv] at hm1;generalize hmd:oh (bW ops.toList []) 0 0=m at *
  have qs:∀ j o,m<=j->ops.toList[j]?=some o->∀ k,k<j->Nat.testBit ((bW ops.toList []).getD j 0) k=true:=by
   intro j o hmj ho k hk;have hj:j<ops.size:=by have:=(List.getElem?_eq_some_iff.1 ho).1;simpa using this
   have hg:(bW ops.toList [])[j]?=some ((bW ops.toList [])[j]'(by omega)):=List.getElem?_eq_getElem (by omega);have:=hm3 j _ hg hmj;rw[List.getD_eq_getElem?_getD,hg,Option.getD_some,show (bW ops.toList [])[j]'(by omega)=2 ^ j - 1 by omega,Nat.testBit_two_pow_sub_one];simpa using hk
  obtain⟨_,R1⟩:=Iw yD;have qt:∀ j k t,j<m->k<m->cF ops.toList j=some t->cF ops.toList k=some t->j=k:=by
   have get:∀ j t,j<m->cF ops.toList j=some t->((ops.toList.take m).map (·.dst))[j]?=some (some t):=by
    intro j t hj Qd;unfold cF at Qd;simp only[Option.bind_eq_some_iff] at Qd;obtain⟨o,ho,hot⟩:=Qd;rw[List.getElem?_map,List.getElem?_take,if_pos hj,ho];simp[hot]
   intro j k t hj hk Qd hkt;exact R1 j k t (get j t hj Qd) (get k t hk hkt)
  obtain⟨es,oY,s',Hx,hq⟩:=sW hd;have hlen:(ops.toList.take m).length=m:=by simp;omega
  have yI:∀ j o,(ops.toList.take m)[j]?=some o->ops.toList[0+j]?=some o:=λ j o ho=>by
   rw[b6o] at ho;split at ho
   .simpa using ho
   .cases ho
  obtain⟨YF,ht2⟩:=Z7 (ops.toList.take m) 0 es [] _ s' Hx yI rfl rfl;simp only[b5q,b6w,hlen] at YF ht2;subst ht2;have hI0:Inv c G ((ops.toList.take m).foldl aj.fresh s) a w.drew:=Fa _ (bw.drew h);refine wp_region_any gH ?_;refine a3h hE (m:=m) (es:=es) (s0:=(ops.toList.take m).foldl aj.fresh s) dL hm1 qs qt ?_ (λ i o tE ho=>b5F.1 P8 o (b6t (by rw[b6o,b5u tE];exact ho))) ?_ hQ (kn:=oY) (λ G a w hI=>WY hI hq) ops.size [] G a _ _ (by simp) (by simp) (by simp) (by simp) ?_ (by simp) hI0
  .intro i o tE ho;exact YF i o (by rw[b6o,b5u tE];exact ho)
  .intro i o t tE ho hc IM;exact (Ce (ops.toList.take m) s t).2 o (b6t (by rw[b6o,b5u tE];exact ho)) hc IM
  .intro k hk;simp[hk]
end
section
variable {w w':World}
theorem Vw.ctx{c c':Ctx}{S:Nat->Prop}{v:Arg}{x:Value}(h:Vw c S w v x)(cw:∀ b,St c S b->St c' S b):Vw c' S w v x:=by
 cases v with
 | ref v=>obtain⟨b,o,cs,h1,h2,h3⟩:=h;exact⟨b,o,cs,h1,cw b h2,h3⟩
 | val v=>exact h
 | fn f=>exact h
 | dc v=>exact h
 | own v=>exact h
 | box k=>exact h
theorem C1.ctx{c c':Ctx}(hP:c'.P=c.P){G:Gh}{lk:Nat->Option aB}{v:AV}{x:Value}(h:C1 c G lk w v x)(cw:∀ b,St c G.S b->St c' G.S b):C1 c' G lk w v x:=by
 cases v with
 | cX v=>obtain⟨b,o,cs,h1,h2,h3⟩:=h;exact⟨b,o,cs,h1,cw b h2,h3⟩
 | iF v=>obtain⟨f,eE,l,h1,h2,h3⟩:=h;exact⟨f,eE,l,h1,hP ▸ h2,h3.imp λ _ _ _ q=>q.ctx cw⟩
 | _=>exact h
theorem TR.ctx{c c':Ctx}(hP:c'.P=c.P){G:Gh}{lk:Nat->Option aB}{v:AV}{x:Value}(h:TR c G lk w v x)(cw:∀ b,St c G.S b->St c' G.S b):TR c' G lk w v x:=by
 cases v with
 | av id=>exact (show C1 c G lk w (.av id) x from h).ctx hP cw
 | cX v=>exact (show C1 c G lk w (.cX v) x from h).ctx hP cw
 | agg cs=>obtain⟨l,h1,h2⟩:=h;exact⟨l,h1,h2.imp λ _ _ _ q=>q.ctx hP cw⟩
 | aH v=>exact h
 | any=>trivial
 | _=>exact h.elim
theorem CR.ctx{c c':Ctx}(hP:c'.P=c.P){G:Gh}{lk:Nat->Option aB}{v:AV}{x:Value}(h:CR c G lk w v x)(cw:∀ b,St c G.S b->St c' G.S b):CR c' G lk w v x:=by
 cases v with
 | aH v=>exact h
 | agg cs=>obtain⟨l,h1,h2⟩:=h;exact⟨l,h1,h2.imp λ _ _ _ q=>q.ctx hP cw⟩
 | any=>exact (show C1 c G lk w (.any) x from h).ctx hP cw
 | ep=>exact (show C1 c G lk w (.ep) x from h).ctx hP cw
 | nil=>exact (show C1 c G lk w (.nil) x from h).ctx hP cw
 | cX v=>exact (show C1 c G lk w (.cX v) x from h).ctx hP cw
 | ptr i o=>exact (show C1 c G lk w (.ptr i o) x from h).ctx hP cw
 | row i=>exact (show C1 c G lk w (.row i) x from h).ctx hP cw
 | eH i j o=>exact (show C1 c G lk w (.eH i j o) x from h).ctx hP cw
 | iS vs=>exact (show C1 c G lk w (.iS vs) x from h).ctx hP cw
 | fn f=>exact (show C1 c G lk w (.fn f) x from h).ctx hP cw
 | av i=>exact (show C1 c G lk w (.av i) x from h).ctx hP cw
 | sub i j o z=>exact (show C1 c G lk w (.sub i j o z) x from h).ctx hP cw
 | eP i j o z=>exact (show C1 c G lk w (.eP i j o z) x from h).ctx hP cw
 | dc f cs=>exact (show C1 c G lk w (.dc f cs) x from h).ctx hP cw
 | iF v=>exact (show C1 c G lk w (.iF v) x from h).ctx hP cw
 | mp i=>exact (show C1 c G lk w (.mp i) x from h).ctx hP cw
theorem VR.ctx{c c':Ctx}(hP:c'.P=c.P){G:Gh}{lk:Nat->Option aB}{v:AV}{x:Value}(h:VR c G lk w v x)(cw:∀ b,St c G.S b->St c' G.S b):VR c' G lk w v x:=by
 cases v with
 | aH v=>exact h
 | agg cs=>obtain⟨l,h1,h2⟩:=h;exact⟨l,h1,h2.imp λ _ _ _ q=>q.ctx hP cw⟩
 | iS vs=>obtain⟨l,h1,h2⟩:=h;exact⟨l,h1,h2.imp λ _ _ _ q=>q.ctx hP cw⟩
 | dc f cs=>obtain⟨l,h1,h2⟩:=h;exact⟨l,h1,h2.imp λ _ _ _ q=>q.ctx hP cw⟩
 | any=>exact (show C1 c G lk w (.any) x from h).ctx hP cw
 | ep=>exact (show C1 c G lk w (.ep) x from h).ctx hP cw
 | nil=>exact (show C1 c G lk w (.nil) x from h).ctx hP cw
 | cX v=>exact (show C1 c G lk w (.cX v) x from h).ctx hP cw
 | ptr i o=>exact (show C1 c G lk w (.ptr i o) x from h).ctx hP cw
 | row i=>exact (show C1 c G lk w (.row i) x from h).ctx hP cw
 | eH i j o=>exact (show C1 c G lk w (.eH i j o) x from h).ctx hP cw
 | fn f=>exact (show C1 c G lk w (.fn f) x from h).ctx hP cw
 | av i=>exact (show C1 c G lk w (.av i) x from h).ctx hP cw
 | sub i j o z=>exact (show C1 c G lk w (.sub i j o z) x from h).ctx hP cw
 | eP i j o z=>exact (show C1 c G lk w (.eP i j o z) x from h).ctx hP cw
 | iF v=>exact (show C1 c G lk w (.iF v) x from h).ctx hP cw
 | mp i=>exact (show C1 c G lk w (.mp i) x from h).ctx hP cw
theorem OR.ctx{c c':Ctx}(hP:c'.P=c.P){G:Gh}{lk:Nat->Option aB}{id:Nat}{o:aB}(h:OR c G lk w id o)(cw:∀ b,St c G.S b->St c' G.S b):OR c' G lk w id o:=by
 cases o with
 | box cs=>obtain⟨b,l,t,h1,h2,h3⟩:=h;exact⟨b,l,t,h1,h2,h3.imp λ _ _ _ q=>q.ctx hP cw⟩
 | row e τ xs=>exact h
 | av τ xs=>exact h
 | map m=>exact h
def Ctx.fz(c:Ctx)(w:World)(S:Nat->Prop)(Z:Nat->Prop):Ctx :=
 { c with w0:=w,X:=λ b=>((c.w0.heap.size<=b/\b<w.heap.size)\/c.X b)/\¬ Z b,S0:=S,Z:=λ b=>Z b\/c.Z b }
theorem Inv.fz{c:Ctx}{G:Gh}{s:aj}{a:Act}(h:Inv c G s a w){Z:Nat->Prop}(hZ:∀ b,Z b->wY c G s.ah w b):Inv (c.fz w G.S Z) G s a w:=by
 have cw:∀ b,St c G.S b->St (c.fz w G.S Z) G.S b:=λ b hb=>by
  rcases hb with hb|⟨h1,h2,h3⟩
  .exact .inl hb
  .refine .inr ⟨b5i h1 h.aR.size,λ q=>q.1.elim (λ q=>by omega) h2,λ q=>q.elim (λ z=>(hZ b z).1.elim (λ q=>by omega) h2) h3⟩
 exact {
  defers:=h.defers,size:=h.size
  aR:=bD.refl _ _
  jf:=⟨λ b hb=>hb.1.elim (λ q=>q.2) λ q=>b5i (h.jf.1 b q) h.aR.size,λ g hg=>by
   obtain⟨_,h2,h3,_⟩:=h.jf.2 g hg;obtain⟨g1,g2⟩:=h.sOk.2 g hg;exact⟨g1,λ q=>q.1.elim (λ q=>by omega) h2,h.dB g g1,g2⟩⟩
  dT:=λ b _ _=>b6P
  sX:=λ b hb=>hb
  dB:=h.dB
  aC:=λ i=>(h.aC i).ctx (c:=c) (c':=c.fz w G.S Z) rfl cw
  aJ:=λ id o ho=>(h.aJ id o ho).ctx (c:=c) (c':=c.fz w G.S Z) rfl cw
  place:=λ id o b ho hb=>by
   obtain⟨h1,h2,h3⟩:=h.place id o b ho hb;exact⟨.inr ⟨h1.imp (λ q=>⟨q,h3⟩) (λ q=>q),λ z=>(hZ b z).2.2.2.1 id o ho hb⟩,h2,h3⟩
  apart:=h.apart
  aL:={
   tr:=h.aL.tr,nd:=h.aL.nd,ap:=h.aL.ap
   pl:=λ id τ xs b ht hb=>by
    obtain⟨h1,h2,h3,h4⟩:=h.aL.pl id τ xs b ht hb;exact⟨.inr ⟨h1.imp (λ q=>⟨q,h3⟩) (λ q=>q),λ z=>(hZ b z).2.2.2.2 id τ xs ht hb⟩,h2,h3,h4⟩ }
  root:=h.root,ic:=h.ic,dm:=h.dm,eN:=h.eN }
theorem Inv.b4g{c:Ctx}{G:Gh}{s:aj}{a:Act}{G':Gh}{s':aj}{a':Act}(h:Inv c G s a w){Z:Nat->Prop}(hZ:∀ b,Z b->wY c G s.ah w b)(h':Inv (c.fz w G.S Z) G' s' a' w') :
  Inv c G' s' a' w'/\∀ b,Z b->w'.heap[b]?=w.heap[b]?/\wY c G' s'.ah w' b:=by
 have cw:∀ b,St (c.fz w G.S Z) G'.S b->St c G'.S b:=λ b hb=>by
  rcases hb with hb|⟨h1,h2,h3⟩
  .exact .inl hb
  .have hz:¬ Z b:=λ z=>h3 (.inl z);refine .inr ⟨?_,λ q=>h2 ⟨.inr q,hz⟩,λ q=>h3 (.inr q)⟩;rcases b5Q b c.w0.heap.size with q|q
   .exact q
   .exact absurd ⟨.inl ⟨q,h1⟩,hz⟩ h2
 have back:∀ b,(w.heap.size<=b\/(c.fz w G.S Z).X b)->c.w0.heap.size<=b\/c.X b:=λ b hb=>by
  have:=h.aR.size;exact hb.elim (λ q => .inl (by omega)) λ q=>q.1.elim (λ q => .inl q.1) .inr
 refine⟨{
  defers:=h'.defers,size:=h'.size
  aR:=h.aR.trans h'.aR λ i hi hx=>hx.1.elim (λ q=>by omega) (λ q=>q)
  jf:=h.jf
  dT:=λ b hb hx=>(h'.dT b (b5i hb h.aR.size) (λ q=>q.1.elim (λ q=>by omega) hx)).trans (h.dT b hb hx)
  sX:=λ b hb=>h'.sX b (h.sX b hb)
  dB:=h'.dB
  aC:=λ i=>(h'.aC i).ctx (c:=c.fz w G.S Z) (c':=c) rfl cw
  aJ:=λ id o ho=>(h'.aJ id o ho).ctx (c:=c.fz w G.S Z) (c':=c) rfl cw
  place:=λ id o b ho hb=>by
   obtain⟨h1,h2,h3⟩:=h'.place id o b ho hb;exact⟨back b h1,h2,h3⟩
  apart:=h'.apart
  aL:={
   tr:=h'.aL.tr,nd:=h'.aL.nd,ap:=h'.aL.ap
   pl:=λ id τ xs b ht hb=>by
    obtain⟨h1,h2,h3,h4⟩:=h'.aL.pl id τ xs b ht hb;exact⟨back b h1,h2,h3,h4⟩ }
  root:=h'.root,ic:=h'.ic,dm:=h'.dm,eN:=h'.eN },λ b z=>?_⟩
 obtain⟨z1,z2,z3,z4,z5⟩:=hZ b z;have WI:¬ (c.fz w G.S Z).X b:=λ q=>q.2 z;have fM:¬ (w.heap.size<=b\/(c.fz w G.S Z).X b):=λ q=>q.elim (λ q=>by omega) WI;exact⟨h'.aR.block b z3 WI,z1,λ q=>z2 ((h'.dT b z3 WI).1 q),b5i z3 h'.aR.size,λ i o cG hb=>fM (h'.place i o b cG hb).1,λ j τ xs hj hb=>fM (h'.aL.pl j τ xs b hj hb).1⟩
end
theorem zm{α β:Type}{f g:α->β}{l:Array α}(h:∀ x∈l.toList,f x=g x):l.map f=l.map g:=by
 apply b8E;rw[b6S,b6S];exact b8O h
theorem execOp_congr{o:Oper}{ρ ρ':Operand->Value}{l:List Operand}(h:a0V o.op=some l)(he:∀ x∈l,ρ x=ρ' x):execOp ρ o=execOp ρ' o:=by
 have parts:∀ ps:Array (Nat×Operand),l=ps.toList.map (·.2)->(ps.map λ (i,x)=>(i,ρ x))=ps.map λ (i,x)=>(i,ρ' x):=λ ps hl=>zm λ x hx=>by
  obtain⟨i,x⟩:=x;simp only;rw[he x (by rw[hl];exact b4W.2 ⟨(i,x),hx,rfl⟩)]
 unfold a0V at h;split at h;case h_21=>cases h
 case h_20 T x l hh m bz =>
  simp only[b4L] at h;subst h;have key:∀ q:Option Operand,(∀ y∈q.toList,ρ y=ρ' y)->q.map ρ=q.map ρ':=λ q hq=>by
   cases q with
   | none=>rfl
   | some y=>rw[b7o,b7o,hq y (by simp)]
  simp only[execOp,bz,he x (by simp),key l (λ y hy=>he y (by simp at hy;simp[hy])),key hh (λ y hy=>he y (by simp at hy;simp[hy])),key m (λ y hy=>he y (by simp at hy;simp[hy]))]
 case h_18 c bz =>
  split at h;case h_3=>cases h
  case h_1 f hc =>
   simp only[b4L] at h;subst h;have ha:c.args.map ρ=c.args.map ρ':=zm λ x hx=>he x (by simp[hx]);simp only[execOp,bz,resolve,hc,ha,he f (by simp)]
  case h_2 b hc =>
   simp only[b4L] at h;subst h;have ha:c.args.map ρ=c.args.map ρ':=zm λ x hx=>he x hx;simp only[execOp,bz,resolve,hc,ha]
 all_goals
  rename_i bz
  simp only[b4L] at h
  first
   | (have:=parts _ h.symm;simp only[execOp,bz,this];done)
   | (subst h;simp only[execOp,bz];done)
   | (subst h;simp only[execOp,bz,b7T];done)
   | (subst h;simp only[b5h,b7z,b8G,b8v,forall_eq] at he;simp only[execOp,bz,he];done)
   | (subst h;simp only[b5h,b7z,b8G,b8v,forall_eq] at he;simp only[execOp,bz,he.1,he.2];done)
   | (subst h;simp only[b5h,b7z,b8G,b8v,forall_eq] at he;simp only[execOp,bz,he.1,he.2.1,he.2.2];done)
theorem a3a{u v:TV}(h:Aa u v):u=v:=by
 unfold Aa at h;split at h
 .rename_i x hx;have:=TV.aU hx;rw[this,h]
 .exact h.elim
theorem Tm{v u:AV}(h:O2 v u):v=u:=by
 unfold O2 at h;split at h
 .rw[a3a h]
 .rw[a3a h]
 .rw[h]
 .rw[h]
 .rw[h.1,h.2]
 .rfl
 .rfl
 .exact h.elim
theorem JN{c:Ctx}{G:Gh}{lk:Nat->Option aB}{a:Act}{w:World}{o:Oper}{v:AV}{x:Value}(hr:(execOp a.eval o).run c.P w = .ok (.value x) w)(hv:VR c G lk w v x) :
  ∃ x,(execOp a.eval o).run c.P w = .ok (.value x) w/\VR c G lk w v x:=⟨x,hr,hv⟩
theorem a4v{c:Ctx}{G:Gh}{sl:Nat->AV}{n:Nat}{lk:Nat->Option aB}{a:Act}{w:World}(hE:bF c.P c.E)(hI:bw c G sl n lk a w){lk':Nat->Option aB}(ct:∀ id o,lk' id=some o->lk id=some o){ev:Operand->AV}(cU:∀ x,VR c G lk w (ev x) (a.eval x))
  {o:Oper} {vc:Vc} {v:AV} {ob:Option aB} (hq:Ol c.E lk' ev o=some (vc,v,ob)) (eb:vc.ok) (a0B:reads o.op=true) :
  ∃ x,(execOp a.eval o).run c.P w = .ok (.value x) w/\VR c G lk w v x:=by
 unfold Ol at hq;split at hq;case h_1 x bz =>
  simp only[b4L,b4P] at hq;obtain⟨rfl,rfl,rfl⟩:=hq;exact JN (by simp[execOp,bz]) (cU x)
 case h_8 T ad bz =>
  split at hq
  .rename_i τ r hT;split at hq
   .rename_i u hu;simp only[b4L,b4P] at hq;obtain⟨rfl,rfl,rfl⟩:=hq;obtain⟨b,o',cs,h1,h2,h3,h4⟩:=qL hI.aJ ct hu (cU ad);refine JN ?_ h4;simp only[execOp,bz,h1,b5x,jS hE hT h2 h3,b5r,b5A]
   .cases hq
  .cases hq
 case h_9 x bz =>
  have key:∀ u,ev x=u->(∃ b o,a.eval x = .pointer (some ⟨b,o,none⟩))->vc = .none->v=u->ob=none->∃ x,(execOp a.eval o).run c.P w = .ok (.value x) w/\VR c G lk w v x:=by
   rintro u hu ⟨b,o',hx⟩ _ rfl rfl;refine JN (x:=a.eval x) ?_ (hu ▸ cU x);simp only[execOp,bz,hx,b5A]
  have hx:=cU x;split at hq
  .rename_i u hu;simp only[b4L,b4P] at hq;rw[hu] at hx;obtain⟨b,o',cs,h1,_⟩:=hx;exact key _ hu ⟨b,o',h1⟩ hq.1.symm hq.2.1.symm hq.2.2.symm
  .rename_i id off hu;simp only[b4L,b4P] at hq;rw[hu] at hx;obtain⟨b,_,h1,_⟩:=hx;exact key _ hu ⟨b,off,h1⟩ hq.1.symm hq.2.1.symm hq.2.2.symm
  .rename_i id i off hu;simp only[b4L,b4P] at hq;rw[hu] at hx;obtain⟨b,_,_,_,_,_,_,_,_,h1⟩:=hx;exact key _ hu ⟨b,_,h1⟩ hq.1.symm hq.2.1.symm hq.2.2.symm
  .cases hq
 case h_10 T x i bz =>
  split at hq
  .rename_i s r hT;have hx:=cU x;split at hq
   .rename_i u hu;rw[hu] at hx;split at hq
    .rename_i y hy;have e:=TV.aU hy;subst e;split at hq
     .rename_i f hf;simp only[b4L,b4P] at hq;obtain⟨rfl,rfl,rfl⟩:=hq;obtain⟨b,o',cs,h1,h2,h3,h4⟩:=hx;have bK:i<s.fX.length:=by
       have:=(b5K.1 hf).1;rw[<-aV.AX s y,b5g];exact this
      refine JN (x := .pointer (some ⟨b,o'+s.fu i,none⟩)) ?_ ?_
      .simp only[execOp,bz,h1,b5x,kE hE hT bK,b5r,b5A]
      .refine⟨b,o'+s.fu i,(cs.drop (s.fu i)).take f.τ.size,rfl,h2,h3.part _ _,?_⟩;exact Iy hf h4
     .cases hq
    .cases hq
   .rename_i id off hu;rw[hu] at hx;split at hq
    .rename_i bK;simp only[Option.some.injEq,Prod.mk.injEq] at hq;obtain⟨rfl,rfl,rfl⟩:=hq;have bK:i<s.fX.length:=by simpa [Nat.blt_eq] using bK
     obtain⟨b,h1,h2,h3⟩:=hx;refine JN (x := .pointer (some ⟨b,off+s.fu i,none⟩)) ?_ ⟨b,h1,rfl,h3⟩;simp only[execOp,bz,h2,b5x,kE hE hT bK,b5r,b5A]
    .cases hq
   .rename_i id k off hu;rw[hu] at hx;split at hq
    .rename_i bK;simp only[Option.some.injEq,Prod.mk.injEq] at hq;obtain⟨rfl,rfl,rfl⟩:=hq;have bK:i<s.fX.length:=by simpa [Nat.blt_eq] using bK
     obtain⟨b,m,cap,e,τ,xs,h1,h2,h3,h4⟩:=hx;refine JN (x := .pointer (some ⟨b,k * τ.size+(off+s.fu i),none⟩)) ?_ ⟨b,m,cap,e,τ,xs,h1,h2,h3,rfl⟩;simp only[execOp,bz,h4,b5x,kE hE hT bK,b5r,b5A,b7L]
    .cases hq
   .cases hq
  .cases hq
 case h_12 T x ix bz =>
  split at hq
  .rename_i τ r hT;split at hq
   .rename_i k i hi;have vG:=cU ix;rw[hi] at vG;obtain⟨vG,_⟩:=vG;simp only[b4X,b5d] at vG;have hx:=cU x;split at hq
    .rename_i u hu;rw[hu] at hx;split at hq
     .rename_i xs lh;have e:=TV.aU lh;subst e;simp only[b4L,b4P] at hq;obtain⟨rfl,rfl,rfl⟩:=hq;obtain⟨h0,h1⟩:=eb;obtain⟨ad,cap,h2,h3,h4,h5⟩:=jT hx;rcases h5 with h5|⟨b,o',h5,h6,h7⟩
      .subst h5;simp only[b5j] at h1;omega
      .subst h5;have bK:i.toNat<xs.length:=by omega
       obtain⟨cs,m1,m2,m3⟩:=dw.at_ (n:=τ.size) _ b o' h7 (by
        intro d hd;obtain⟨y,_,rfl⟩:=b4W.1 hd;exact Ty.cN τ y) i.toNat (τ.aP (xs.getD i.toNat τ.zero)) (by simp[List.getD,bK])
       refine JN (x := .pointer (some ⟨b,o'+i.toNat * τ.size,none⟩)) ?_ ⟨b,_,cs,rfl, .inl h6,m3,m2⟩;simp only[execOp,bz,h2,vG,b5x,ra hE hT h0 h1,b5r,b5A]
     .cases hq
    .rename_i id hu;rw[hu] at hx;split at hq
     .rename_i e' bf xs hl;split at hq
      .rename_i jB;have jB:=b5E jB;subst jB;simp only[b4L,b4P] at hq;obtain⟨rfl,rfl,rfl⟩:=hq;obtain⟨h0,h1⟩:=eb;obtain⟨h2,_,_⟩:=hx;have mV:=ct _ _ hl;obtain⟨l,m1,_,_⟩:=hI.aJ _ _ mV;have bK:i.toNat<xs.length:=by omega
       rcases m1.2 with ⟨_,hn⟩|⟨g,cap,cur,hv,_⟩
       .omega
       .refine JN (x := .pointer (some ⟨g,0+i.toNat * bf.size,none⟩)) ?_ ⟨g,_,cap,e',bf,xs,hv,mV,bK,by simp⟩;simp only[execOp,bz,h2,hv,vG,b5x,ra hE hT h0 h1,b5r,b5A]
      .cases hq
     .cases hq
    .cases hq
   .cases hq
  .cases hq
 case h_24=>cases hq
 all_goals
  rename_i bz
  rw[bz] at a0B
  cases a0B
theorem XV{c:Ctx}{G:Gh}{s:aj}{a:Act}{w:World}(hE:bF c.P c.E)(h:Inv c G s a w){o:Oper}{vc:Vc}{v:AV}(hq:rop c.E s o=some (vc,v))(eb:vc.ok) :
  ∃ x,(execOp a.eval o).run c.P w = .ok (.value x) w/\VR c G s.ah w v x:=by
 unfold rop at hq;split at hq
 .rename_i hr;split at hq
  .rename_i vc' v' YE;simp only[b4L,b4P] at hq;obtain⟨rfl,rfl⟩:=hq;exact a4v hE h (λ _ _ h=>h) (bp h) YE eb hr
  .cases hq
 .cases hq
theorem Tn:∀ {v u:List AV},VO v u->v=u
 | [],[],_=>rfl
 | a::Z9,b::bs,h=>by rw[Tm h.1,Tn h.2]
 | [],_::_,h=>h.elim
 | _::_,[],h=>h.elim
theorem a3k{v u:AV}(h:a0g v u):v=u:=by
 unfold a0g at h;split at h
 .rw[Tn h]
 .exact Tm h
structure nF(D:List Nat)(a b:Act):Prop where
 size:a.tmps.size=b.tmps.size
 da:a.defers=[]
 db:b.defers=[]
 at':∀ t,t∉D->a.tmps.getD t undef=b.tmps.getD t undef
theorem nF.put{D D':List Nat}{a b:Act}(h:nF D a b){d:Option Nat}{x:Value}(hD:∀ t,t∈D->t∉D'->d=some t):nF D' (a.put d x) (b.put d x) where
 size:=by cases d<;>simp[Act.put,h.size]
 da:=by cases d<;>exact h.da
 db:=by cases d<;>exact h.db
 at' t ht:=by
  rw[er,er,h.size];by_cases hd:d=some t
  .by_cases hl:t<b.tmps.size
   .rw[b5u ⟨hd,hl⟩,b5u ⟨hd,hl⟩]
   .rw[b4Z (λ q=>hl q.2),b4Z (λ q=>hl q.2)];have h1:a.tmps.getD t undef=undef:=by rw[b5I,b6p (by rw[h.size];omega)];rfl
    have h2:b.tmps.getD t undef=undef:=by rw[b5I,b6p (by omega)];rfl
    rw[h1,h2]
  .rw[b4Z (λ q=>hd q.1),b4Z (λ q=>hd q.1)];refine h.at' t λ hm=>hd (hD t hm ht)
theorem nF.exec{D:List Nat}{a b:Act}(h:nF D a b){o:Oper}(hu:gd D o=true):execOp a.eval o=execOp b.eval o:=by
 unfold gd at hu;split at hu
 .rename_i l hl;rw[b5F] at hu;refine execOp_congr hl λ x hx=>?_;have:=hu x hx;cases x with
  | tmp t=>exact h.at' t (by simpa using this)
  | _=>rfl
 .cases hu
theorem nx{D D':List Nat}{o:Oper}(h:gd D o=true)(hs:∀ t∈D',t∈D):gd D' o=true:=by
 unfold gd at h ⊢;split at h
 .rename_i l hl;rw[b5F] at h ⊢;intro x hx;have:=h x hx;cases x with
  | tmp t =>
   simp only[b5a,List.contains_eq_mem,b4M] at this ⊢;exact λ q=>this (hs t q)
  | _=>rfl
 .cases h
section
variable {c:Ctx} {G:Gh} {s:aj} {a:Act} {w w':World}
theorem a6N{P:Program}{o:Oper}{b:Act}{N N':Act->World->Prop}{Q:Exit->Act->World->Prop}(he:execOp a.eval o=execOp b.eval o)(hN:∀ x w',N (b.put o.dst x) w'->N' (a.put o.dst x) w')
  (hd:∀ b' w',N b' w'->b'.defers=[]) (h:o.wp P b w N (λ _ _ _=>False)):o.wp P a w N' Q:=by
 unfold Oper.wp at *
 rw[he];generalize (execOp b.eval o).run P w=r at *
 cases r with
 | ok n w' =>
  cases n<;>simp only[Oper.upon] at h ⊢;case value v=>exact hN _ _ h
  case skip=>exact hN _ _ h
  case defer d =>
   have:=hd _ _ h;cases hh:o.dst<;>simp[Act.put,hh] at this
  case enter f args=>exact Calls.mono h (λ e w'' q=>by cases e<;>first|exact hN _ _ q|exact q.elim λ _ q=>q.elim λ _ q=>q.elim|exact q.elim)
  case row r args=>exact Rows.mono h (λ _ _ q=>hN _ _ q)
 | halt x w'=>cases x<;>simp only[Oper.upon] at h ⊢
theorem exists_least{p:Nat->Prop}:∀ n,p n->∃ k,p k/\∀ j,j<k->¬ p j:=by
 intro n;induction n using Nat.strongRecOn with
 | _ n ih =>
  intro h;by_cases hq:∃ j,j<n/\p j
  .obtain⟨j,h1,h2⟩:=hq;exact ih j h1 h2
  .exact⟨n,h,λ j hj hp=>hq ⟨j,hj,hp⟩⟩
theorem nF.eq{a b:Act}(h:nF [] a b):a=b:=by
 obtain⟨ta,da⟩:=a;obtain⟨tb,db⟩:=b;obtain⟨h1,h2,h3,h4⟩:=h;simp only at h1 h2 h3 h4;subst h2 h3;congr 1;apply Array.ext h1;intro i hi hj;have:=h4 i (by simp);simpa [Array.getD_eq_getD_getElem?,Array.getElem?_eq_getElem hi,Array.getElem?_eq_getElem hj] using this
theorem gJ{R:List (Nat×Oper)}{t:Nat}:t∈dstsOf R↔∃ r∈R,r.2.dst=some t:=by
 simp[dstsOf,b6U]
theorem a6A(h:Inv c G s a w){d:Nat}{x:Value}(hv:VR c G s.ah w (s.aC.getD d .any) x):Inv c G s (a.put (some d) x) w:=by
 have:=bw.put (d:=some d) h hv;unfold Inv;have e:jV s.aC.length s.sl (some d) (s.aC.getD d .any)=s.sl:=by
  funext i;unfold jV;split
  .rename_i hi;obtain⟨h1,_⟩:=hi;simp only[b4L] at h1;subst h1;rfl
  .rfl
 rwa [e] at this
theorem kU{E:Env}{K:Prop}:∀ {R:List (Nat×Oper)},gW E R s K->(∀ r∈R,∃ d vc,r.2.dst=some d/\rop E s r.2=some (vc,s.aC.getD d .any)/\Vc.ok vc)/\K
 | [],h=>⟨by simp,h⟩
 | r::rs,h=>by
  simp only[gW] at h;split at h
  .rename_i d vc v hd hr;have h1:=Vc.jX h;obtain⟨k1,k2⟩:=kU h1.2.2;refine⟨λ q hq=>?_,k2⟩;rcases b5h.1 hq with rfl|hq
   .exact⟨d,vc,hd,by rw[hr,a3k h1.2.1],h1.1⟩
   .exact k1 q hq
  .exact h.elim
theorem TQ(hE:bF c.P c.E){K:aj->Prop}:∀ {R:List (Nat×Oper)} {s:aj} {a:Act},Inv c G s a w->O3 c.E R K s->∃ t b,Inv c G t b w/\nF (dstsOf R) a b/\K t
 | [],s,a,hI,h=>⟨s,a,hI,⟨rfl,hI.defers,hI.defers,λ _ _=>rfl⟩,h⟩
 | r::rs,s,a,hI,h=>by
  simp only[O3] at h;split at h
  .rename_i d vc v hd hr;have h1:=Vc.jX h;obtain⟨x,_,hx⟩:=XV hE hI hr h1.1;obtain⟨t,b,k1,k2,k3⟩:=TQ hE (Inv.put (d:=some d) hI hx) (Kg hx h1.2);refine⟨t,b,k1,⟨by rw[<-k2.size];simp[Act.put],hI.defers,k2.db,λ i hi=>?_⟩,k3⟩;have eR:d≠i:=λ e=>hi (gJ.2 ⟨r,by simp,by rw[hd,e]⟩);rw[<-k2.at' i λ hm=>hi (by
    obtain⟨q,hq,hqd⟩:=gJ.1 hm;exact gJ.2 ⟨q,by simp[hq],hqd⟩),er,if_neg (λ q=>eR (by simpa using q.1))]
  .exact h.elim
theorem a0X{E:Env}{o:Oper}{K:aj->Prop}{T:TypeId}{d:Nat}{τ:Ty}{r:Nat×Nat}(bz:o.op = .alloc T)(hd:o.dst=some d)(hT:ah E.ty T=some (τ,r)) :
  lq E o K s↔(d<400000/\K (s.lay (some d) (.ptr d 0) (some (.box (zeroCells τ))))):=by
 have h1:kY E s o=[]:=by
  unfold kY;rw[bz];split<;>rfl
 have h2:bop E s o=none:=by
  unfold bop;rw[hd,bz];simp only;split<;>rfl
 have h3:eop E s o=none:=by unfold eop;rw[bz]
 have h4:oop E s o=none:=by unfold oop;rw[bz]
 obtain⟨r1,r2⟩:=r;have h5:Ol E s.ah s.eval o=some (.none, .ptr d 0,some (.box (zeroCells τ))):=by
  unfold Ol;rw[bz];simp only[hd,hT]
 unfold lq;have h6:sop E s o=none:=by unfold sop;rw[hd,bz]
 have h7:nop E s o=none:=by unfold nop;rw[bz]
 simp only[h1,b8D,h6,h2,h3,h4,h7,h5,Vc.and,bz,Ye,hd,uE];cases hb:Nat.blt d 400000 with
 | true=>simp only[b8q] at hb;simp[hb]
 | false=>simp only[Bool.eq_false_iff,ne_eq,b8q] at hb;simp[hb]
structure PE where
 i:Nat
 d:Nat
 x:Value
 b:Nat
 cs:List AV
noncomputable instance:DecidableEq PE:=λ _ _=>Classical.propDecidable _
structure EJ(c:Ctx)(G:Gh)(lk:Nat->Option aB)(X:List (Nat×Oper))(a:Act)(w:World)(p:PE):Prop where
 ex:∃ o T τ r,(p.i,o)∈X/\o.op = .alloc T/\o.dst=some p.d/\ah c.E.ty T=some (τ,r)/\p.cs=zeroCells τ
 val:a.tmps.getD p.d undef=if p.d<a.tmps.size then p.x else undef
 ptr:p.x = .pointer (some ⟨p.b,0,none⟩)
 lt:p.d<400000
 new:∃ l t,w.heap[p.b]?=some (.cells l.toArray t (0,0))/\∀ (c:Ctx) (G:Gh) (lk:Nat->Option aB) (w:World),aT (C1 c G lk w) p.cs l
 fr:wY c G lk w p.b
theorem EJ.put{lk:Nat->Option aB}{X:List (Nat×Oper)}{p:PE}(h:EJ c G lk X a w p){d:Option Nat}{x:Value}(hd:d≠some p.d):EJ c G lk X (a.put d x) w p :=
 ⟨h.ex,by rw[er,b4Z (λ q=>hd q.1),gO];exact h.val,h.ptr,h.lt,h.new,h.fr⟩
theorem a3d(h:Inv c G s a w){p:PE}{X:List (Nat×Oper)}{a2:Act}(hp:EJ c G s.ah X a2 w p) :
  Inv c ⟨G.S,λ i=>if i=p.d then p.x else G.η i,G.φ⟩ (s.lay (some p.d) (.ptr p.d 0) (some (.box p.cs))) (a.put (some p.d) p.x) w:=by
 obtain⟨l,t,h1,h2⟩:=hp.new;refine Inv.a5m h hp.lt ⟨p.b,l,t,hp.ptr,h1,h2 _ _ _ _⟩ ⟨_,rfl,rfl⟩ λ b hb=>?_;rw[hp.ptr] at hb;simp only[ef,b4L] at hb;subst hb;obtain⟨q1,q2,q3,q4,q5⟩:=hp.fr;exact⟨q1,q2,q3,λ i o' _ ho=>q4 i o' ho,q5⟩
theorem a3c{p:PE}{X:List (Nat×Oper)}{a2:Act}(hp:EJ c G s.ah X a2 w p){b:Nat}(hb:wY c G s.ah w b)(eR:b≠p.b) :
  wY c ⟨G.S,λ i=>if i=p.d then p.x else G.η i,G.φ⟩ (s.lay (some p.d) (.ptr p.d 0) (some (.box p.cs))).ah w b:=by
 have ct:(s.lay (some p.d) (.ptr p.d 0) (some (.box p.cs))).ah=λ i=>if i=p.d then some ((aB.box p.cs).kill p.d) else (if i=p.d then none else (s.cq p.d).ah i):=by
  funext i;show ah ((p.d,(aB.box p.cs).kill p.d)::bS p.d (s.cq p.d).aJ) i=_;rw[dF,eI];rfl
 obtain⟨q1,q2,q3,q4,q5⟩:=hb;rw[ct];refine⟨q1,q2,q3,λ i o ho e=>?_,λ j τ xs hj nS=>?_⟩
 .by_cases hi:i=p.d
  .simp only[b5u hi] at e;rw[hp.ptr] at e;simp only[ef,b4L] at e;exact eR e.symm
  .simp only[b4Z hi] at e ho;rw[en] at ho;simp only[b5L] at ho;obtain⟨o',cP,_⟩:=ho;exact q4 i o' cP e
 .by_cases hi:j=p.d
  .simp only[b5u hi] at hj;cases hj
  .simp only[b4Z hi] at hj;rw[en] at hj;exact q5 j τ xs (jH hj) nS
theorem a0n(hE:bF c.P c.E)(h:Inv c G s a w){a2:Act}{o:Oper}{T:TypeId}{d i:Nat}{τ:Ty}{r:Nat×Nat}(bz:o.op = .alloc T)(hd:o.dst=some d)(hT:ah c.E.ty T=some (τ,r))(Nz:d<400000){X:List (Nat×Oper)}(hX:(i,o)∈X) :
  ∃ w' p,p.i=i/\p.d=d/\p.b=w.heap.size/\(execOp a2.eval o).run c.P w = .ok (.value p.x) w'/\Inv c G s a w'/\EJ c G s.ah X (a2.put (some d) p.x) w' p/\bD (λ _=>False) w w':=by
 obtain⟨r1,r2⟩:=r;obtain⟨inf,z,h1,h2,h3,h4⟩:=(hE.info hT).ex;refine⟨w.alloc (.cells z.cells T),⟨i,d, .pointer (some ⟨w.heap.size,0,none⟩),w.heap.size,zeroCells τ⟩,rfl,rfl,rfl,?_,h.alloc _,?_,gD w _⟩
 .simp[execOp,bz,Instr.alloc,zeroValue,typeInfo,h1,h3,newVar,newRow]
 .refine⟨⟨o,T,τ,_,hX,bz,hd,hT,rfl⟩,?_,rfl,Nz,⟨z.cells.toList,T,by simpa using heap_alloc_new w _,λ _ _ _ _=>kV h4⟩,?_⟩
  .simp only[er,gO,b5M];split
   .rfl
   .rename_i bK;first|rfl|(rw[b5I,b6p (by omega)];rfl)
  .refine⟨.inl h.aR.size,λ q=>by have:=h.dB _ q;simp only at this;omega,by simp,λ j o' hj hb=>by have:=(h.place j o' _ hj hb).2.2;simp only at this;omega,λ j τ xs hj hb=>by have:=(h.aL.pl j τ xs _ hj hb).2.2.1;simp only at this;omega⟩
theorem YU{E:Env}{o:Oper}(h:Q1 E o=true):reads o.op=true:=by
 unfold Q1 at h;rw[Bool.and_eq_true] at h;exact h.1
theorem Ha{E:Env}{o:Oper}(h:reads o.op=true):dz E o=false:=by
 unfold dz;generalize JP E o=q;generalize o.op=op at *
 cases op<;>first|rfl|cases h
theorem L3(ck:List Nat)(x:Nat×Oper):∀ l,(Qn ck x l).Perm (x::l)
 | [] => .refl _
 | y::ys=>by
  unfold Qn;split
  .exact .refl _
  .exact ((L3 ck x ys).cons y).trans (.swap x y ys)
theorem jR(E:Env)(ck:List Nat):∀ l,(NS E ck l).Perm l
 | [] => .refl _
 | x::xs=>by
  unfold NS;split
  .exact (L3 ck x _).trans ((jR E ck xs).cons x)
  .exact (jR E ck xs).cons x
structure XE where
 i:Nat
 d:Nat
 x:Value
 o:Oper
noncomputable instance:DecidableEq XE:=λ _ _=>Classical.propDecidable _
structure XOk(E:Env)(P:Program)(X:List (Nat×Oper))(a:Act)(e:XE):Prop where
 mem:(e.i,e.o)∈X
 dst:e.o.dst=some e.d
 val:a.tmps.getD e.d undef=if e.d<a.tmps.size then e.x else undef
 run:(kp e.o.op=true/\∀ w,(execOp a.eval e.o).run P w = .ok (.value e.x) w)\/((xh e.o.op=true/\JP E e.o=true)/\∃ p,e.x = .slice p 0 0)
theorem XOk.lz{E:Env}{P:Program}{X:List (Nat×Oper)}{a:Act}{e:XE}(h:XOk E P X a e):dz E e.o=true:=by
 rcases h.run with ⟨q,_⟩|⟨⟨q,q'⟩,_⟩
 .simp[dz,q]
 .simp[dz,q,q']
theorem QO{op:Op}(h:xh op=true):∃ T,op = .buildSlice T 0 #[]:=by
 unfold xh at h;split at h
 .rename_i T len ps;simp only[b4S] at h;have h1:=b4O h.1;have h2:ps = #[]:=b6W (b4O h.2);exact⟨T,by rw[h1,h2]⟩
 .cases h
theorem a4G{o:Oper}(h:xh o.op=true)(D:List Nat):gd D o=true:=by
 obtain⟨T,h⟩:=QO h;simp[gd,a0V,h]
theorem XOk.put{E:Env}{P:Program}{X:List (Nat×Oper)}{e:XE}(h:XOk E P X a e)(hda:a.defers=[]){d:Option Nat}{x:Value}(hd:d≠some e.d)(hu:∀ t,d=some t->gd [t] e.o=true):XOk E P X (a.put d x) e :=
 ⟨h.mem,h.dst,by rw[er,b4Z (λ q=>hd q.1),gO];exact h.val,h.run.imp (λ hr=>⟨hr.1,λ w=>by
  cases d with
  | none=>exact hr.2 w
  | some t =>
   have hA:nF [t] (a.put (some t) x) a:=⟨gO a _ x,by rw[jO];exact hda,hda,λ u hu=>by rw[er,if_neg (λ q=>hu (by simpa using q.1.symm))]⟩;rw[hA.exec (hu t rfl)];exact hr.2 w⟩) id⟩
theorem a0p(h:Inv c G s a w){o:Oper}{t:Operand}{i:Nat}(bz:o.op = .extract t i)(hc:AW s o.op=true):∃ x,∀ w',(execOp a.eval o).run c.P w' = .ok (.value x) w':=by
 rw[bz] at hc;simp only[AW] at hc;split at hc
 .rename_i vs hv;have hx:=bp h t;rw[hv] at hx;obtain⟨l,h1,h2⟩:=hx;have bK:i<l.length:=by rw[<-h2.length];exact b5R hc
  refine⟨l[i],λ w'=>?_⟩;have h3:l[i]?=some l[i]:=b5p bK;simp[execOp,bz,Instr.extract,h1,h3]
 .cases hc
theorem XW{E:Env}{o:Oper}{K:aj->Prop}{t:Operand}{i d:Nat}(bz:o.op = .extract t i)(hd:o.dst=some d)(hr:lq E o K s) :
  ∃ vs v,s.eval t = .iS vs/\vs[i]?=some v/\known v (K (s.put (some d) v)):=by
 have h1:kY E s o=[]:=by
  unfold kY;rw[bz];split<;>rfl
 have h2:bop E s o=none:=by
  unfold bop;rw[hd,bz];simp only;split<;>rfl
 have h3:eop E s o=none:=by unfold eop;rw[bz]
 have h4:oop E s o=none:=by unfold oop;rw[bz]
 have h6:sop E s o=none:=by unfold sop;rw[hd,bz]
 have h7:nop E s o=none:=by unfold nop;rw[bz]
 unfold lq at hr;split at hr
 .exact hr.elim
 simp only[h1,b8D,h6,h2,h3,h4,h7] at hr;split at hr
 .rename_i vc v ob hq;unfold Ol at hq;rw[bz] at hq;simp only at hq;split at hq
  .rename_i vs hv;split at hq
   .rename_i u hu;simp only[Option.some.injEq,Prod.mk.injEq] at hq;obtain⟨rfl,rfl,rfl⟩:=hq;refine⟨vs,u,hv,hu,?_⟩;simpa [Vc.and,bz,Ye,hd,aj.lay] using hr
   .cases hq
  .cases hq
 .exact hr.elim
theorem a0q(h:Inv c G s a w){o:Oper}{t:Operand}{i:Nat}(bz:o.op = .extract t i){vs:List AV}{v:AV}(h1:s.eval t = .iS vs)(h2:vs[i]?=some v){x:Value}(hx:(execOp a.eval o).run c.P w = .ok (.value x) w):VR c G s.ah w v x:=by
 have hv:=bp h t;rw[h1] at hv;obtain⟨l,k1,k2⟩:=hv;obtain⟨y,k3,k4⟩:=k2.at_ i v h2;have:(execOp a.eval o).run c.P w = .ok (.value y) w:=by simp[execOp,bz,Instr.extract,k1,k3]
 rw[this] at hx;simp only[Result.ok.injEq,Next.value.injEq,b5d] at hx;subst hx;cases v<;>first|exact k4|exact k4.elim|trivial
theorem a2N{E:Env}{o:Oper}{K:aj->Prop}{d:Nat}(hn:xh o.op=true/\JP E o=true)(ha:pV E o=true)(hd:o.dst=some d)(hr:lq E o K s) :
  ∃ τ,K (s.put (some d) (.aH ⟨.slice τ,[]⟩)):=by
 obtain⟨hn,ib⟩:=hn;obtain⟨T,bz⟩:=QO hn;unfold pV at ha;simp only[bz,hd,ib] at ha;split at ha
 .rename_i d' τ r Ht hT;simp only[b4L] at Ht;subst Ht;have ha:Nat.blt d 400000=true/\E.ro.contains d=true/\E.own.contains d=false:=by
   have ha:(Nat.blt d 400000&&(E.ro.contains d && !E.own.contains d))=true:=ha;simp only[b4S,b5a] at ha;exact⟨ha.1,ha.2.1,ha.2.2⟩
  obtain⟨h4,hro,n9⟩:=ha;have h1:kY E s o=[]:=by
   unfold kY;simp only[hd,n9,bz];simp
  have h2:bop E s o=none:=by
   unfold bop;simp only[hd,n9]
  have h3:eop E s o=none:=by unfold eop;rw[bz]
  have h4':oop E s o=none:=by unfold oop;rw[bz]
  have h6:sop E s o=none:=by unfold sop;rw[hd,bz]
  have h7:nop E s o=none:=by unfold nop;rw[bz]
  obtain⟨r1,r2⟩:=r;have h8:Ol E s.ah s.eval o=some (.none, .aH ⟨.slice τ,[]⟩,none):=by
   unfold Ol;rw[bz];simp only[hd,hT,hro];rfl
  unfold lq at hr;simp only[h1,List.foldl_nil,h6,h2,h3,h4',h7,h8,Vc.and,bz,Ye,hd,uE,h4] at hr;exact⟨τ,hr⟩
 .simp at ha
theorem a1I(hE:bF c.P c.E)(h:Inv c G s a w){a2:Act}{o:Oper}{d:Nat}(hn:xh o.op=true/\JP c.E o=true)(ha:pV c.E o=true)(hd:o.dst=some d) :
  ∃ w' x,(execOp a2.eval o).run c.P w = .ok (.value x) w'/\Inv c G s a w'/\(∃ p,x = .slice p 0 0)/\bD (λ _=>False) w w':=by
 obtain⟨hn,ib⟩:=hn;obtain⟨T,bz⟩:=QO hn;unfold pV at ha;simp only[bz,hd,ib] at ha;split at ha
 .rename_i d' τ r Ht hT;obtain⟨r1,r2⟩:=r;obtain⟨k1,_,inf,z,k2,k3,k4,k5,k6⟩:=hE.slice hT;refine⟨w.alloc (.cells #[] r2), .slice (some ⟨w.heap.size,0,none⟩) 0 0,?_,h.alloc _,⟨_,rfl⟩,gD w _⟩;have hz:(Array.range 0).map (λ _=>(default:Value)) = #[]:=by apply b6W;simp
  simp[execOp,bz,Instr.buildSlice,b5N k1,sizeOf,typeInfo,k2,Instr.fill,newRow,hz]
 .simp at ha
theorem mo(E:Env){X:List (Nat×Oper)}{x:Nat×Oper}{t:Nat}(hx:x∈X)(ha:dz E x.2=true)(hd:x.2.dst=some t):t∈s7 E X :=
 b6U.2 ⟨x,hx,by simp[ha,hd]⟩
theorem ZM{E:Env}{ck:List Nat}{n:Nat}{R:List (Nat×Oper)}{K:aj->Prop}{s:aj}:iC E ck n R [] K s=K s:=by cases n<;>rfl
theorem N4{E:Env}{ck:List Nat}{n:Nat}{R:List (Nat×Oper)}{x:Nat×Oper}{xs:List (Nat×Oper)}{K:aj->Prop}{s:aj}(h:iC E ck n R (x::xs) K s) :
  ∃ m,a0K E ck (x::xs) s=true/\(((gd (dstsOf (R.filter λ r => !Nat.testBit (ck.getD x.1 0) r.1)++s7 E xs) x.2&&xs.all λ y=>dz E y.2||Nat.testBit (ck.getD y.1 0) x.1)=true /\
    lq E x.2 (λ s'=>gW E (R.filter λ r => !Nat.testBit (ck.getD x.1 0) r.1) s' (iC E ck m (R.filter λ r => !Nat.testBit (ck.getD x.1 0) r.1) xs K s')) s) \/
   (dz E x.2=false/\Di (VZ E ck (x::xs)) (λ y=>match gd (dstsOf (R.filter λ r => !Nat.testBit (ck.getD y.1 0) r.1)++s7 E ((x::xs).filter λ z => !Nat.beq z.1 y.1)) y.2 with
      | true=>lq E y.2 (λ s'=>gW E (R.filter λ r => !Nat.testBit (ck.getD y.1 0) r.1) s' (iC E ck m (R.filter λ r => !Nat.testBit (ck.getD y.1 0) r.1) ((x::xs).filter λ z => !Nat.beq z.1 y.1) K s')) s
      | false=>False) (x::xs))):=by
 cases n with
 | zero=>exact h.elim
 | succ n =>
  simp only[iC] at h;refine⟨n,?_⟩;split at h
  .rename_i h1;refine⟨h1,?_⟩;split at h
   .rename_i h2;exact .inl ⟨h2,h⟩
   .split at h
    .exact h.elim
    .rename_i h3;exact .inr ⟨h3,h⟩
  .exact h.elim
theorem Xo{E:Env}{ck:List Nat}{n:Nat}{R:List (Nat×Oper)}{x:Nat×Oper}{xs:List (Nat×Oper)}{K:aj->Prop}{s:aj}(hz:dz E x.2=true)(h:iC E ck n R (x::xs) K s) :
  ∃ m,lq E x.2 (λ s'=>gW E (R.filter λ r => !Nat.testBit (ck.getD x.1 0) r.1) s' (iC E ck m (R.filter λ r => !Nat.testBit (ck.getD x.1 0) r.1) xs K s')) s:=by
 obtain⟨m,_,h|h⟩:=N4 h
 .exact⟨m,h.2⟩
 .rw[hz] at h;cases h.1
theorem EY{p:Nat×Oper->Bool}{f:Nat×Oper->Prop}:∀ {l:List (Nat×Oper)},Di p f l->∀ y∈l,p y=true->f y
 | [],_,y,hy,_=>by cases hy
 | x::l,h,y,hy,hp=>by
  unfold Di at h;split at h
  .rcases b5h.1 hy with rfl|hy
   .exact h.1
   .exact EY h.2 y hy hp
  .rename_i h0;rcases b5h.1 hy with rfl|hy
   .rw[hp] at h0;cases h0
   .exact EY h y hy hp
theorem a5q{a b:Nat}:Nat.beq a b=false↔a≠b:=by
 constructor
 .intro h e;subst e;rw[Nat.beq_refl] at h;cases h
 .intro h;cases hb:Nat.beq a b
  .rfl
  .exact absurd (b4O hb) h
theorem Wg{x:Nat×Oper}{xs:List (Nat×Oper)}(h:x.1∉xs.map (·.1)):((x::xs).filter λ z => !Nat.beq z.1 x.1)=xs:=by
 rw[b8w,b4Z (by simp)];refine List.filter_eq_self.2 λ z hz=>?_;have:z.1≠x.1:=λ e=>h (b4W.2 ⟨z,hz,e⟩);rw[a5q.2 this];rfl
theorem Zq{i:Nat}{o:Oper}:∀ {X:List (Nat×Oper)},(i,o)∈X->(X.map (·.1)).Nodup->(X.filter λ z => !Nat.beq z.1 i).length+1=X.length
 | [],h,_=>by cases h
 | x::xs,h,hn=>by
  simp only[b5J,b5G] at hn;rcases b5h.1 h with e|h
  .subst e;rw[Wg (x:=(i,o)) hn.1];rfl
  .have eR:x.1≠i:=λ e=>hn.1 (b4W.2 ⟨_,h,e.symm⟩);rw[b8w,b5u (by rw[a5q.2 eR];rfl),b4Y,b4Y,Zq h hn.2]
theorem a3Y{E:Env}{ck:List Nat}{n:Nat}{R X:List (Nat×Oper)}{y:Nat×Oper}{K:aj->Prop}{s:aj}(h:iC E ck n R X K s)(hy:y∈X)(cR:(X.map (·.1)).Nodup)(hc:VZ E ck X y=true)
  (hh:∀ x xs,X=x::xs->dz E x.2=true->Nat.testBit (ck.getD y.1 0) x.1=false) :
  ∃ m,gd (dstsOf (R.filter λ r => !Nat.testBit (ck.getD y.1 0) r.1)++s7 E (X.filter λ z => !Nat.beq z.1 y.1)) y.2=true /\
   lq E y.2 (λ s'=>gW E (R.filter λ r => !Nat.testBit (ck.getD y.1 0) r.1) s' (iC E ck m (R.filter λ r => !Nat.testBit (ck.getD y.1 0) r.1) (X.filter λ z => !Nat.beq z.1 y.1) K s')) s:=by
 match X,hy,cR,hc,hh,h with
 | x::xs,hy,cR,hc,hh,h =>
  obtain⟨m,_,h|h⟩:=N4 h
  .obtain⟨h1,h2⟩:=h;simp only[b4S,b5F,b6G] at h1;have e:y=x:=by
    rcases b5h.1 hy with e|hy
    .exact e
    .simp only[VZ,b4S,b5a,b5F,b6G] at hc;rcases h1.2 y hy with q|q
     .rw[hc.1] at q;cases q
     .rcases hc.2 x (by simp) with k|k
      .rw[hh x xs rfl k] at q;cases q
      .rw[k] at q;cases q
   subst e;simp only[b5J,b5G] at cR;rw[Wg cR.1];exact⟨m,h1.1,h2⟩
  .have:=EY h.2 y hy hc;split at this
   .rename_i hu;exact⟨m,hu,this⟩
   .exact this.elim
theorem a2i(
          hE:bF c.P c.E) {ops:Array Oper} {hi:Nat} {Seg:List (Nat×Oper)} (dL:backward ops.toList=true) (hhi:hi<=ops.size)
  (qs:∀ j o,hi<=j->ops.toList[j]?=some o->∀ k,k<hi->Nat.testBit ((bW ops.toList []).getD j 0) k=true)
  (a9E:∀ x∈Seg,x.2.guard=none) (Vl:∀ x∈Seg,pV c.E x.2=true) (a7I:∀ x∈Seg,kp x.2.op=true->gd (dstsOf (Seg.filter λ y => !Nat.testBit ((bW ops.toList []).getD x.1 0) y.1)++s7 c.E Seg) x.2=true) (a7F:∀ x∈Seg,∀ y∈Seg,∀ t,x.2.dst=some t->y.2.dst=some t->x.1=y.1) {K:aj->Prop} {Q':Exit->Act->World->Prop}
  (LY:∀ (fuel:Nat) (G:Gh) (s:aj) (a:Act) (w:World) (listed:Array Bool),ops.size=hi+fuel->listed.size=ops.size->(∀ k,k<ops.size->(listed.getD k false=true↔k<hi))->Inv c G s a w->K s->wpAny c.P .any ops Q' fuel listed a w) :
  ∀ (N fuel:Nat) (Rc X:List (Nat×Oper)) (R:List Nat) (PL:List PE) (SL:List XE) (G:Gh) (t:aj) (a b:Act) (w:World) (listed:Array Bool),fuel+X.length<=N->fuel+PL.length+SL.length=R.length+X.length+(ops.size - hi)->listed.size=ops.size ->
   (∀ i∈R,i<hi/\∃ o,ops.toList[i]?=some o/\(i,o)∈Rc/\(i,o)∈Seg/\nu c.E (bW ops.toList []) Seg (i,o)=true/\gd (dstsOf (Seg.filter λ y => !Nat.testBit ((bW ops.toList []).getD i 0) y.1)) o=true)->(∀ x∈X,x.1<hi/\ops.toList[x.1]?=some x.2/\x∈Seg)->R.Nodup->(X.map (·.1)).Nodup->(∀ i∈R,∀ x∈X,i≠x.1) ->
   (PL.map PE.i++SL.map XE.i).Nodup->(PL.map PE.b).Nodup->(∀ p∈PL,EJ c G t.ah X a w p)->(∀ e∈SL,XOk c.E c.P X a e) ->
   (∀ k,k<ops.size->(listed.getD k false=true↔k<hi/\k∉R/\((∀ x∈X,x.1≠k)\/k∈PL.map PE.i++SL.map XE.i)))->(∀ k,k<ops.size->listed.getD k false=true->∀ o,ops.toList[k]?=some o->∀ e∈o.after.toList,Region.binds .any e=true->listed.getD e.on false=true) ->
   Inv c G t b w->nF (R.filterMap (cF ops.toList)++(PL.map PE.d++SL.map XE.d)) a b->(∀ i∈R,∀ o,ops.toList[i]?=some o->∃ d vc,o.dst=some d/\rop c.E t o=some (vc,t.aC.getD d .any)/\Vc.ok vc) ->
   ∀ n,iC c.E (bW ops.toList []) n Rc X K t->wpAny c.P .any ops Q' fuel listed a w:=by
 intro N;induction N with
 | zero =>
  intro fuel Rc X R PL SL G t a b w listed hN hf cK hR hX IK P5 P2 Ui hPb mS nR hl Fj hI hA hs nn hK;have h2:X=[]:=b5U (by omega);subst h2;have h3:PL=[]:=by
   cases PL with
   | nil=>rfl
   | cons p PL=>obtain⟨o,T,τ,r,hm,_⟩:=(mS p (by simp)).ex;cases hm
  subst h3;have h4:SL=[]:=by
   cases SL with
   | nil=>rfl
   | cons p SL=>have hm:=(nR p (by simp)).mem;cases hm
  subst h4;have h1:R=[]:=List.eq_nil_of_length_eq_zero (by simp at hf;omega);subst h1;have mT:a=b:=nF.eq (by simpa using hA);subst mT;exact LY fuel G t a w listed (by simp at hf;omega) cK (λ k hk=>by rw[hl k hk];simp) hI (by rw[ZM] at hK;exact hK)
 | succ N ih =>
  intro fuel Rc X R PL SL G t a b w listed hN hf cK hR hX IK P5 P2 Ui hPb mS nR hl Fj hI hA hs nn hK;by_cases NA:R=[]/\X=[]
  .obtain⟨rfl,rfl⟩:=NA;have h3:PL=[]:=by
    cases PL with
    | nil=>rfl
    | cons p PL=>obtain⟨o,T,τ,r,hm,_⟩:=(mS p (by simp)).ex;cases hm
   subst h3;have h4:SL=[]:=by
    cases SL with
    | nil=>rfl
    | cons p SL=>have hm:=(nR p (by simp)).mem;cases hm
   subst h4;have mT:a=b:=nF.eq (by simpa using hA);subst mT;exact LY fuel G t a w listed (by simp at hf;omega) cK (λ k hk=>by rw[hl k hk];simp) hI (by rw[ZM] at hK;exact hK)
  have a3J:∀ i o,i<ops.size->ops.toList[i]?=some o->listed.getD i false=true->∀ k,Nat.testBit ((bW ops.toList []).getD i 0) k=true->listed.getD k false=true/\k<ops.size:=λ i o hi ho hli k hk =>
   HU (l:=ops.toList) (D:=λ k=>listed.getD k false=true/\k<ops.size) (λ k hk o' cP e he hb=>⟨Fj k hk.2 hk.1 o' cP e he hb,by
    have:=cj dL k o' cP e he hb;have:=hk.2;omega⟩) i o ho (λ e he hb=>⟨Fj i hi hli o ho e he hb,by
    have:=cj dL i o ho e he hb;omega⟩) k hk
  by_cases Vk:∃ x0 xs p,X=x0::xs/\p∈PL/\p.i=x0.1
  .obtain⟨x0,xs,p,rfl,hp,hpi⟩:=Vk;obtain⟨o,T,τ,r,hm,bz,NH,hT,kj⟩:=(mS p hp).ex;have hx0:x0=(p.i,o):=by
    have h1:=(hX x0 (by simp)).2.1;have h2:=(hX _ hm).2.1;rw[<-hpi,h2] at h1;simp only[b4L] at h1;rw[h1,hpi]
   subst hx0;obtain⟨mm,hK⟩:=Xo (by simp[dz,oa,bz]) hK;rw[a0X bz NH hT,<-kj] at hK;obtain⟨k1,k2⟩:=kU hK.2;have Wt:=hX _ hm;have hlp:listed.getD p.i false=true:=(hl p.i (by have:=Wt.1;simp only at this;omega)).2 ⟨Wt.1,λ q=>P2 _ q _ hm rfl, .inr (b4Q.2 (.inl (b4W.2 ⟨p,hp,rfl⟩)))⟩;have eA:∀ j∈R,∃ o',ops.toList[j]?=some o'/\(j,o')∈Rc.filter λ r => !Nat.testBit ((bW ops.toList []).getD p.i 0) r.1:=λ j hj=>by
    obtain⟨q1,o',q2,q3,_,_⟩:=hR j hj;refine⟨o',q2,b6m.2 ⟨q3,?_⟩⟩;simp only[b5a];cases hb:Nat.testBit ((bW ops.toList []).getD p.i 0) j with
    | false=>rfl
    | true=>exact absurd hj ((hl j (by omega)).1 (a3J p.i o (by have:=Wt.1;simp only at this;omega) Wt.2.1 hlp j hb).1).2.1
   have a7M:∀ q∈PL.erase p,q∈PL/\q.i≠p.i/\q.b≠p.b:=λ q hq=>by
    have a5h:=b6y hq;have R4:=b8H hp;have n1:=(R4.map PE.i).nodup_iff.1 (b5s.1 Ui).1;have n2:=(R4.map PE.b).nodup_iff.1 hPb;simp only[b5J,b5G] at n1 n2;exact⟨a5h,λ e=>n1.1 (b4W.2 ⟨q,hq,e⟩),λ e=>n2.1 (b4W.2 ⟨q,hq,e⟩)⟩
   have b1O:(PL.erase p).length+1=PL.length:=by
    have:=b6Y hp;have:=b7e hp;omega
   simp only[b5J,b5G] at P5;refine ih fuel _ xs R (PL.erase p) SL _ _ a (b.put (some p.d) p.x) w listed (by simp at hN;omega) (by simp at hf;omega) cK (λ j hj=>?_) (λ y hy=>hX y (by simp[hy])) IK P5.2 (λ j hj y hy=>P2 j hj y (by simp[hy])) ?_ ?_ (λ q hq=>?_) (λ e he=>?_) (λ k hk=>?_) Fj (a3d hI (mS p hp)) ?_ (λ j hj o' cP=>?_) _ k2
   .obtain⟨q1,o',q2,q3,q4,q7⟩:=hR j hj;obtain⟨o2,q5,q6⟩:=eA j hj;have e:o'=o2:=by rw[q2] at q5;simpa using q5
    subst e;exact⟨q1,o',q2,q6,q4,q7⟩
   .exact Ui.sublist ((b7A _ b8e).append (List.Sublist.refl _))
   .exact hPb.sublist (b7A _ b8e)
   .obtain⟨Le,IT,hq3⟩:=a7M q hq;obtain⟨o2,T2,kW,r2,m1,m2,m3,m4,m5⟩:=(mS q Le).ex;refine⟨⟨o2,T2,kW,r2,?_,m2,m3,m4,m5⟩,(mS q Le).val,(mS q Le).ptr,(mS q Le).lt,(mS q Le).new,a3c (mS p hp) (mS q Le).fr hq3⟩;rcases b5h.1 m1 with e|m1
    .simp only[b4P] at e;exact absurd e.1 IT
    .exact m1
   .have h3:=nR e he;refine⟨?_,h3.dst,h3.val,h3.run⟩;rcases b5h.1 h3.mem with q|q
    .simp only[b4P] at q;rcases h3.run with ⟨q',_⟩|⟨⟨q',_⟩,_⟩<;>(rw[q.2,bz] at q';cases q')
    .exact q
   .rw[hl k hk];constructor
    .rintro⟨q1,q2,q3⟩;refine⟨q1,q2,?_⟩;by_cases Ch:k=p.i
     .subst Ch;exact .inl λ y hy e=>P5.1 (b4W.2 ⟨y,hy,e⟩)
     .rcases q3 with q3|q3
      .exact .inl λ y hy=>q3 y (by simp[hy])
      .rcases b4Q.1 q3 with q3|q3
       .obtain⟨q,hq,rfl⟩:=b4W.1 q3;exact .inr (b4Q.2 (.inl (b4W.2 ⟨q,(b7h (λ e=>Ch (by rw[e]))).2 hq,rfl⟩)))
       .exact .inr (b4Q.2 (.inr q3))
    .rintro⟨q1,q2,q3⟩;refine⟨q1,q2,?_⟩;by_cases Ch:k=p.i
     .subst Ch;exact .inr (b4Q.2 (.inl (b4W.2 ⟨p,hp,rfl⟩)))
     .rcases q3 with q3|q3
      .refine .inl λ y hy=>?_;rcases b5h.1 hy with rfl|hy
       .exact λ e=>Ch e.symm
       .exact q3 y hy
      .rcases b4Q.1 q3 with q3|q3
       .obtain⟨q,hq,rfl⟩:=b4W.1 q3;exact .inr (b4Q.2 (.inl (b4W.2 ⟨q,b6y hq,rfl⟩)))
       .exact .inr (b4Q.2 (.inr q3))
   .refine⟨by rw[gO];exact hA.size,hA.da,by rw[jO];exact hA.db,λ u hu=>?_⟩;by_cases hud:u=p.d
    .subst hud;rw[(mS p hp).val,er,<-hA.size];by_cases bK:p.d<a.tmps.size
     .rw[b5u bK,b5u ⟨rfl,bK⟩]
     .rw[b4Z bK,b4Z (λ q=>bK q.2),b5I,b6p (by rw[<-hA.size];omega)];rfl
    .rw[er,if_neg (λ q=>hud (by simpa using q.1.symm))];refine hA.at' u λ hm=>hu ?_;rcases List.mem_append.1 hm with hm|hm
     .exact b4Q.2 (.inl hm)
     .rcases b4Q.1 hm with hm|hm
      .obtain⟨q,hq,rfl⟩:=b4W.1 hm;exact b4Q.2 (.inr (b4Q.2 (.inl (b4W.2 ⟨q,(b7h (λ e=>hud (by rw[e]))).2 hq,rfl⟩))))
      .exact b4Q.2 (.inr (b4Q.2 (.inr hm)))
   .obtain⟨o2,q5,q6⟩:=eA j hj;rw[q5] at cP;simp only[b4L] at cP;subst cP;exact k1 (j,o2) q6
  by_cases P6:∃ x0 xs e,X=x0::xs/\e∈SL/\e.i=x0.1
  .obtain⟨x0,xs,e,rfl,he,hei⟩:=P6;have hE3:=nR e he;have hx0:x0=(e.i,e.o):=by
    have h1:=(hX x0 (by simp)).2.1;have h2:=(hX _ hE3.mem).2.1;rw[<-hei,h2] at h1;simp only[b4L] at h1;rw[h1,hei]
   subst hx0;obtain⟨mm,hK⟩:=Xo hE3.lz hK;have Wt:=hX _ hE3.mem;have hlp:listed.getD e.i false=true:=(hl e.i (by have:=Wt.1;simp only at this;omega)).2 ⟨Wt.1,λ q=>P2 _ q _ hE3.mem rfl, .inr (b4Q.2 (.inr (b4W.2 ⟨e,he,rfl⟩)))⟩;have a7C:=a3J e.i e.o (by have:=Wt.1;simp only at this;omega) Wt.2.1 hlp;have eA:∀ j∈R,∃ o',ops.toList[j]?=some o'/\(j,o')∈Rc.filter λ r => !Nat.testBit ((bW ops.toList []).getD e.i 0) r.1:=λ j hj=>by
    obtain⟨q1,o',q2,q3,_,_⟩:=hR j hj;refine⟨o',q2,b6m.2 ⟨q3,?_⟩⟩;simp only[b5a];cases hb:Nat.testBit ((bW ops.toList []).getD e.i 0) j with
    | false=>rfl
    | true=>exact absurd hj ((hl j (by omega)).1 (a7C j hb).1).2.1
   have hDu:∀ u,u∈R.filterMap (cF ops.toList)++(PL.map PE.d++SL.map XE.d)->u∈dstsOf (Seg.filter λ y => !Nat.testBit ((bW ops.toList []).getD e.i 0) y.1)++s7 c.E Seg:=λ u hu=>by
    rcases b4Q.1 hu with hu|hu
    .obtain⟨j,hj,Hu⟩:=List.mem_filterMap.1 hu;obtain⟨q1,o',q2,_,q3,_⟩:=hR j hj;refine List.mem_append.2 (.inl (gJ.2 ⟨(j,o'),List.mem_filter.2 ⟨q3,?_⟩,by simpa [cF,q2] using Hu⟩));simp only[Bool.not_eq_true'];cases hb:Nat.testBit ((bW ops.toList []).getD e.i 0) j with
     | false=>rfl
     | true=>exact absurd hj ((hl j (by omega)).1 (a7C j hb).1).2.1
    .rcases b4Q.1 hu with hu|hu
     .obtain⟨p,hp,rfl⟩:=b4W.1 hu;obtain⟨o2,T,τ,r,hm,WJ,NH,_⟩:=(mS p hp).ex;exact b4Q.2 (.inr (mo c.E (hX _ hm).2.2 (by simp[dz,oa,WJ]) NH))
     .obtain⟨q,hq,rfl⟩:=b4W.1 hu;exact b4Q.2 (.inr (mo c.E (hX _ (nR q hq).mem).2.2 (nR q hq).lz (nR q hq).dst))
   obtain⟨v,Uq,hK⟩:∃ v,VR c G t.ah w v e.x/\gW c.E (Rc.filter λ r => !Nat.testBit ((bW ops.toList []).getD e.i 0) r.1) (t.put (some e.d) v) (iC c.E (bW ops.toList []) mm (Rc.filter λ r => !Nat.testBit ((bW ops.toList []).getD e.i 0) r.1) xs K (t.put (some e.d) v)):=by
    rcases hE3.run with ⟨hx,hr⟩|⟨hx,p,hp⟩
    .obtain⟨tt,ix,bz⟩:∃ tt ix,e.o.op = .extract tt ix:=by
      have:=hx;unfold kp at this;split at this
      .exact⟨_,_,by assumption⟩
      .cases this
     obtain⟨vs,v,hv1,hv2,hK⟩:=XW bz hE3.dst hK;have cI:=hr w;rw[hA.exec (nx (a7I _ Wt.2.2 hx) hDu)] at cI;have Uq:=a0q hI bz hv1 hv2 cI;exact⟨v,Uq,Kg Uq hK⟩
    .obtain⟨τ,hK⟩:=a2N hx (Vl _ Wt.2.2) hE3.dst hK;refine⟨_,?_,hK⟩;rw[hp];exact⟨p,0,rfl,b5w _,by simp[maxLen],by simp, .inl rfl⟩
   obtain⟨k1,k2⟩:=kU hK;have a7M:∀ q∈SL.erase e,q∈SL/\q.i≠e.i:=λ q hq=>by
    have a5h:=b6y hq;have R4:=b8H he;have n1:=(R4.map XE.i).nodup_iff.1 (b5s.1 Ui).2.1;simp only[b5J,b5G] at n1;exact⟨a5h,λ q'=>n1.1 (b4W.2 ⟨q,hq,q'⟩)⟩
   have b1O:(SL.erase e).length+1=SL.length:=by
    have:=b6Y he;have:=b7e he;omega
   simp only[b5J,b5G] at P5;refine ih fuel _ xs R PL (SL.erase e) _ _ a (b.put (some e.d) e.x) w listed (by simp at hN;omega) (by simp at hf;omega) cK (λ j hj=>?_) (λ y hy=>hX y (by simp[hy])) IK P5.2 (λ j hj y hy=>P2 j hj y (by simp[hy])) ?_ hPb (λ q hq=>?_) (λ q hq=>?_) (λ k hk=>?_) Fj (Inv.put (d:=some e.d) hI Uq) ?_ (λ j hj o' cP=>?_) _ k2
   .obtain⟨q1,o',q2,q3,q4,q7⟩:=hR j hj;obtain⟨o2,q5,q6⟩:=eA j hj;have e:o'=o2:=by rw[q2] at q5;simpa using q5
    subst e;exact⟨q1,o',q2,q6,q4,q7⟩
   .exact Ui.sublist ((List.Sublist.refl _).append (b7A _ b8e))
   .obtain⟨o2,T2,kW,r2,m1,m2,m3,m4,m5⟩:=(mS q hq).ex;refine⟨⟨o2,T2,kW,r2,?_,m2,m3,m4,m5⟩,(mS q hq).val,(mS q hq).ptr,(mS q hq).lt,(mS q hq).new,(mS q hq).fr⟩;rcases b5h.1 m1 with e'|m1
    .simp only[b4P] at e';rcases hE3.run with ⟨q',_⟩|⟨⟨q',_⟩,_⟩<;>(rw[<-e'.2,m2] at q';cases q')
    .exact m1
   .obtain⟨Le,IT⟩:=a7M q hq;have h3:=nR q Le;refine⟨?_,h3.dst,h3.val,h3.run⟩;rcases b5h.1 h3.mem with e'|e'
    .simp only[b4P] at e';exact absurd e'.1 IT
    .exact e'
   .rw[hl k hk];constructor
    .rintro⟨q1,q2,q3⟩;refine⟨q1,q2,?_⟩;by_cases Ch:k=e.i
     .subst Ch;exact .inl λ y hy e=>P5.1 (b4W.2 ⟨y,hy,e⟩)
     .rcases q3 with q3|q3
      .exact .inl λ y hy=>q3 y (by simp[hy])
      .rcases b4Q.1 q3 with q3|q3
       .exact .inr (b4Q.2 (.inl q3))
       .obtain⟨q,hq,rfl⟩:=b4W.1 q3;exact .inr (b4Q.2 (.inr (b4W.2 ⟨q,(b7h (λ e=>Ch (by rw[e]))).2 hq,rfl⟩)))
    .rintro⟨q1,q2,q3⟩;refine⟨q1,q2,?_⟩;by_cases Ch:k=e.i
     .subst Ch;exact .inr (b4Q.2 (.inr (b4W.2 ⟨e,he,rfl⟩)))
     .rcases q3 with q3|q3
      .refine .inl λ y hy=>?_;rcases b5h.1 hy with rfl|hy
       .exact λ e=>Ch e.symm
       .exact q3 y hy
      .rcases b4Q.1 q3 with q3|q3
       .exact .inr (b4Q.2 (.inl q3))
       .obtain⟨q,hq,rfl⟩:=b4W.1 q3;exact .inr (b4Q.2 (.inr (b4W.2 ⟨q,b6y hq,rfl⟩)))
   .refine⟨by rw[gO];exact hA.size,hA.da,by rw[jO];exact hA.db,λ u hu=>?_⟩;by_cases hud:u=e.d
    .subst hud;rw[hE3.val,er,<-hA.size];by_cases bK:e.d<a.tmps.size
     .rw[b5u bK,b5u ⟨rfl,bK⟩]
     .rw[b4Z bK,b4Z (λ q=>bK q.2),b5I,b6p (by rw[<-hA.size];omega)];rfl
    .rw[er,if_neg (λ q=>hud (by simpa using q.1.symm))];refine hA.at' u λ hm=>hu ?_;rcases List.mem_append.1 hm with hm|hm
     .exact b4Q.2 (.inl hm)
     .rcases b4Q.1 hm with hm|hm
      .exact b4Q.2 (.inr (b4Q.2 (.inl hm)))
      .obtain⟨q,hq,rfl⟩:=b4W.1 hm;exact b4Q.2 (.inr (b4Q.2 (.inr (b4W.2 ⟨q,(b7h (λ e=>hud (by rw[e]))).2 hq,rfl⟩))))
   .obtain⟨o2,q5,q6⟩:=eA j hj;rw[q5] at cP;simp only[b4L] at cP;subst cP;exact k1 (j,o2) q6
  have a7B:∀ p∈PL,∃ x∈X,x.1=p.i:=λ p hp=>by
   obtain⟨o,T,τ,r,hm,_⟩:=(mS p hp).ex;exact⟨_,hm,rfl⟩
  have a1R:∀ p∈SL,∃ x∈X,x.1=p.i:=λ p hp=>⟨_,(nR p hp).mem,rfl⟩;have hun:∃ k,k<hi/\¬ (listed.getD k false=true):=by
   rcases R with _|⟨i,R⟩
   .rcases X with _|⟨x,X⟩
    .exact absurd ⟨rfl,rfl⟩ NA
    .have:=(hX x (by simp)).1;refine⟨x.1,this,λ hh=>((hl x.1 (by omega)).1 hh).2.2.elim (λ q=>q x (by simp) rfl) λ q=>?_⟩;rcases b4Q.1 q with q|q
     .obtain⟨p,hp,e⟩:=b4W.1 q;exact Vk ⟨x,X,p,rfl,hp,e⟩
     .obtain⟨p,hp,e⟩:=b4W.1 q;exact P6 ⟨x,X,p,rfl,hp,e⟩
   .have:=(hR i (by simp)).1;exact⟨i,this,λ hh=>((hl i (by omega)).1 hh).2.1 (by simp)⟩
  have Qi:PL.length+SL.length<R.length+X.length:=by
   rcases R with _|⟨i,R⟩
   .rcases X with _|⟨x,X⟩
    .exact absurd ⟨rfl,rfl⟩ NA
    .have qv:(PL.map PE.i++SL.map XE.i) ⊆ X.map (·.1):=λ k hk=>by
      rcases b4Q.1 hk with hk|hk
      .obtain⟨p,hp,rfl⟩:=b4W.1 hk;obtain⟨y,hy,e⟩:=a7B p hp;rcases b5h.1 hy with rfl|hy
       .exact absurd ⟨_,_,p,rfl,hp,e.symm⟩ Vk
       .exact b4W.2 ⟨y,hy,e⟩
      .obtain⟨p,hp,rfl⟩:=b4W.1 hk;obtain⟨y,hy,e⟩:=a1R p hp;rcases b5h.1 hy with rfl|hy
       .exact absurd ⟨_,_,p,rfl,hp,e.symm⟩ P6
       .exact b4W.2 ⟨y,hy,e⟩
     have:=b7q Ui qv;simp at this ⊢;omega
   .have qv:(PL.map PE.i++SL.map XE.i) ⊆ X.map (·.1):=λ k hk=>by
     rcases b4Q.1 hk with hk|hk
     .obtain⟨p,hp,rfl⟩:=b4W.1 hk;obtain⟨y,hy,e⟩:=a7B p hp;exact b4W.2 ⟨y,hy,e⟩
     .obtain⟨p,hp,rfl⟩:=b4W.1 hk;obtain⟨y,hy,e⟩:=a1R p hp;exact b4W.2 ⟨y,hy,e⟩
    have:=b7q Ui qv;simp at this ⊢;omega
  obtain⟨fuel,rfl⟩:∃ f,fuel=f+1:=⟨fuel - 1,by omega⟩;obtain⟨k1,R2⟩:=hun;obtain⟨k0,⟨a5f,tF⟩,a1Y⟩:=exists_least (p:=λ k=>k<hi/\¬ (listed.getD k false=true)) k1 R2;have a1V:ops[k0]?=some (ops[k0]'(by omega)):=b6c (by omega);constructor
  .intro tG;have:k0∈Region.ready .any ops listed:=(mem_ready cK).2 ⟨_,a1V,by
    cases hb:listed.getD k0 false with
    | false=>rfl
    | true=>exact absurd hb tF,λ e he hb=>by
    have bK:=cj dL k0 ops[k0] (by simp) e he hb;exact b7F λ hh=>a1Y e.on bK ⟨by omega,hh⟩⟩
   rw[tG] at this;cases this
  .intro i nU;obtain⟨o,cG,h1,h2⟩:=(mem_ready cK).1 nU;have L0:=(Array.getElem?_eq_some_iff.1 cG).1;have eF:ops.toList[i]?=some o:=by simpa using cG
   have Gb:=HU (l:=ops.toList) (D:=λ k=>listed.getD k false=true/\k<ops.size) (λ k hk o' cP e he hb=>⟨Fj k hk.2 hk.1 o' cP e he hb,by
    have:=cj dL k o' cP e he hb;have:=hk.2;omega⟩) i o eF (λ e he hb=>⟨h2 e he hb,by
    have:=cj dL i o eF e he hb;omega⟩)
   have tE:i<hi:=by
    rcases b5Q i hi with h|h
    .exact h
    .exact absurd (Gb k0 (qs i o h eF k0 a5f)).1 tF
   have yJ:∀ k,(listed.setIfInBounds i true).getD k false=true↔listed.getD k false=true\/k=i:=λ k=>uc (by omega);have a1T:∀ k,k<ops.size->(listed.setIfInBounds i true).getD k false=true->∀ o,ops.toList[k]?=some o->∀ e∈o.after.toList,Region.binds .any e=true->(listed.setIfInBounds i true).getD e.on false=true:=by
    intro k hk Qe o' cP e he hb;rw[yJ] at Qe ⊢;rcases Qe with Qe|rfl
    .exact .inl (Fj k hk Qe o' cP e he hb)
    .rw[eF] at cP;simp only[b4L] at cP;subst cP;exact .inl (h2 e he hb)
   have a7P:¬ (listed.getD i false=true):=by rw[h1];simp
   have a5j:=a7P;rw[hl i L0] at a5j;have hXi:i∉R->∃ x∈X,x.1=i:=λ NF=>b7F λ hh=>a5j ⟨tE,NF, .inl λ x hx e=>hh ⟨x,hx,e⟩⟩;have ZA:∀ p∈PL,p.i≠i:=λ p hp e=>by
    obtain⟨x,hx,hxe⟩:=a7B p hp;exact a5j ⟨tE,λ q=>P2 i q x hx (by rw[hxe,e]), .inr (b4Q.2 (.inl (b4W.2 ⟨p,hp,e⟩)))⟩
   have ZB:∀ p∈SL,p.i≠i:=λ p hp e=>by
    obtain⟨x,hx,hxe⟩:=a1R p hp;exact a5j ⟨tE,λ q=>P2 i q x hx (by rw[hxe,e]), .inr (b4Q.2 (.inr (b4W.2 ⟨p,hp,e⟩)))⟩
   have P3:(i,o)∈Seg:=by
    by_cases NF:i∈R
    .obtain⟨_,o',cP,_,hm,_⟩:=hR i NF;rw[eF] at cP;simp only[b4L] at cP;subst cP;exact hm
    .obtain⟨x,hx,WS⟩:=hXi NF;have:=(hX x hx).2.1;rw[WS,eF] at this;simp only[b4L] at this;have e:x=(i,o):=by rw[<-WS,this]
     rw[<-e];exact (hX x hx).2.2
   have hg:o.guard=none:=a9E _ P3;have hPd:∀ p∈PL,o.dst≠some p.d:=λ p hp e=>by
    obtain⟨o2,T,τ,r,hm,bz,NH,_⟩:=(mS p hp).ex;have hsg:=(hX _ hm).2.2;exact ZA p hp (a7F _ hsg _ P3 p.d NH e)
   have hSd:∀ p∈SL,o.dst≠some p.d:=λ p hp e=>ZB p hp (a7F _ (hX _ (nR p hp).mem).2.2 _ P3 p.d (nR p hp).dst e);have hSu:∀ p∈SL,∀ t,o.dst=some t->gd [t] p.o=true:=λ p hp t ht=>by
    have hm:=hX _ (nR p hp).mem;have hlp:listed.getD p.i false=true:=(hl p.i (by have:=hm.1;simp only at this;omega)).2 ⟨hm.1,λ q=>P2 _ q _ (nR p hp).mem rfl, .inr (b4Q.2 (.inr (b4W.2 ⟨p,hp,rfl⟩)))⟩;rcases (nR p hp).run with ⟨hex,_⟩|⟨Fl,_⟩;rotate_left
    .exact a4G Fl.1 _
    refine nx (a7I _ hm.2.2 hex) λ u hu=>?_;simp only[b5t] at hu;subst hu;refine b4Q.2 (.inl (gJ.2 ⟨_,b6m.2 ⟨P3,?_⟩,ht⟩));simp only[b5a];cases hb:Nat.testBit ((bW ops.toList []).getD p.i 0) i with
    | false=>rfl
    | true=>exact absurd (a3J p.i p.o (by have:=hm.1;simp only at this;omega) hm.2.1 hlp i hb).1 a7P
   have hw:Region.wanted o (yielded ops a.tmps)=true:=by simp[Region.wanted,hg]
   unfold wpOp;simp only[cG];rw[if_pos hw];refine .inl ?_;by_cases NF:i∈R
   ·
    obtain⟨_,o',cP,a5h,_,ib,hu⟩:=hR i NF;rw[eF] at cP;simp only[b4L] at cP;subst cP;obtain⟨d,vc,hd,hr,eb⟩:=hs i NF o eF;obtain⟨x,hx,hvx⟩:=XV hE hI hr eb;have hu:gd (R.filterMap (cF ops.toList)++(PL.map PE.d++SL.map XE.d)) o=true:=nx hu λ t ht=>by
     rcases b4Q.1 ht with ht|ht
     .obtain⟨j,hj,Hu⟩:=List.mem_filterMap.1 ht;obtain⟨q1,o',q2,_,q3,_⟩:=hR j hj;refine gJ.2 ⟨(j,o'),List.mem_filter.2 ⟨q3,?_⟩,by simpa [cF,q2] using Hu⟩;simp only[Bool.not_eq_true'];cases hb:Nat.testBit ((bW ops.toList []).getD i 0) j with
      | false=>rfl
      | true=>exact absurd hj ((hl j (by omega)).1 (Gb j hb).1).2.1
     .obtain⟨zi,zo,hm,hlz,NH⟩:∃ zi zo,(zi,zo)∈X/\dz c.E zo=true/\zo.dst=some t:=by
       rcases b4Q.1 ht with ht|ht
       .obtain⟨p,hp,rfl⟩:=b4W.1 ht;obtain⟨o2,T,τ,r,hm,bz,NH,_⟩:=(mS p hp).ex;exact⟨_,o2,hm,by simp[dz,oa,bz],NH⟩
       .obtain⟨p,hp,rfl⟩:=b4W.1 ht;exact⟨_,p.o,(nR p hp).mem,(nR p hp).lz,(nR p hp).dst⟩
      have hsg:=(hX _ hm).2.2;by_cases hb:Nat.testBit ((bW ops.toList []).getD i 0) zi=true
      .simp only[nu,b4S,b5F,b6G,b5a] at ib;rcases ib.2 _ hsg with q|q
       .rw[Ha (YU q)] at hlz;cases hlz
       .rw[hb] at q;cases q
      .exact gJ.2 ⟨_,List.mem_filter.2 ⟨hsg,by simpa using hb⟩,NH⟩
    unfold Oper.wp;rw[hA.exec hu,hx];show wpAny c.P .any ops Q' fuel _ (a.put o.dst x) w;have Yy:(R.erase i).length+1=R.length:=by
     have:=b6Y NF;have:=b7e NF;omega
    have qv:∀ t,t∈(R.erase i).filterMap (cF ops.toList)->t∈R.filterMap (cF ops.toList):=λ t ht=>by
     obtain⟨q,hq,hqd⟩:=b6U.1 ht;exact b6U.2 ⟨q,b6y hq,hqd⟩
    refine ih fuel Rc X (R.erase i) PL SL G t (a.put o.dst x) (b.put o.dst x) w _ (by omega) (by omega) (by rw[b6q];exact cK) (λ j hj=>?_) hX (IK.erase i) P5 (λ j hj=>P2 j (b6y hj)) Ui hPb (λ p hp=>(mS p hp).put (hPd p hp)) (λ e he=>(nR e he).put hA.da (hSd e he) (hSu e he)) (λ k hk=>?_) a1T (by rw[hd];exact a6A hI hvx) (hA.put λ q hq YE=>?_) (λ j hj=>hs j (b6y hj)) _ hK
    .exact hR j (b6y hj)
    .rw[yJ,hl k hk,IK.mem_erase_iff];constructor
     .rintro (⟨q1,q2,q3⟩|rfl)
      .exact⟨q1,λ q=>q2 q.2,q3⟩
      .exact⟨tE,λ q=>q.1 rfl, .inl λ x hx=>(P2 _ NF x hx).symm⟩
     .rintro⟨q1,q2,q3⟩;by_cases Lc:k=i
      .exact .inr Lc
      .exact .inl ⟨q1,λ q=>q2 ⟨Lc,q⟩,q3⟩
    .rcases b4Q.1 hq with hq|hq
     .obtain⟨j,hj,Hu⟩:=b6U.1 hq;by_cases vH:j=i
      .subst vH;rw[<-Hu];simp[cF,eF]
      .exact absurd (b4Q.2 (.inl (b6U.2 ⟨j,IK.mem_erase_iff.2 ⟨vH,hj⟩,Hu⟩))) YE
     .exact absurd (b4Q.2 (.inr hq)) YE
   .obtain⟨x,hx,WS⟩:=hXi NF;have hxo:x=(i,o):=by
     have:=(hX x hx).2.1;rw[WS,eF] at this;simp only[b4L] at this;rw[<-WS,this]
    subst hxo;have hZ:∀ b,(∃ p∈PL,p.b=b)->wY c G t.ah w b:=λ b ⟨p,hp,e⟩=>e ▸ (mS p hp).fr;by_cases hal:oa o.op=true
    ·
     have Uk:=Vl _ P3;obtain⟨T,bz⟩:∃ T,o.op = .alloc T:=by
      unfold oa at hal;split at hal
      .exact⟨_,by assumption⟩
      .cases hal
     unfold pV at Uk;simp only[bz,Bool.and_eq_true,Option.isSome_iff_exists] at Uk;obtain⟨⟨d,hd⟩,Nz,⟨⟨τ,r⟩,hT⟩⟩:=Uk;simp only[hd,uE,Nat.blt_eq] at Nz;obtain⟨w',p,hpi,hpd,hpb,cI,Ap,hpo,Ch⟩:=a0n hE hI (a2:=a) bz hd hT Nz hx;unfold Oper.wp;rw[cI];show wpAny c.P .any ops Q' fuel _ (a.put o.dst p.x) w';rw[hd];refine ih fuel Rc X R (p::PL) SL G t (a.put (some d) p.x) b w' _ (by omega) (by simp;omega) (by rw[Array.size_setIfInBounds];exact cK) hR hX IK P5 P2 ?_ ?_ (λ q hq=>?_) (λ e he=>(nR e he).put hA.da (by rw[<-hd];exact hSd e he) (by rw[<-hd];exact hSu e he)) (λ k hk=>?_) a1T Ap ?_ hs _ hK
     .simp only[b5J,b6g,b5G];refine⟨λ hm=>?_,Ui⟩;rcases b4Q.1 hm with hm|hm
      .obtain⟨q,hq,e⟩:=b4W.1 hm;exact ZA q hq (by rw[e,hpi])
      .obtain⟨q,hq,e⟩:=b4W.1 hm;exact ZB q hq (by rw[e,hpi])
     .simp only[b5J,b5G];refine⟨λ hm=>?_,hPb⟩;obtain⟨q,hq,e⟩:=b4W.1 hm;have:=(mS q hq).fr.2.2.1;rw[e,hpb] at this;exact b7n _ this
     .rcases b5h.1 hq with rfl|hq
      .exact hpo
      .have h3:=(mS q hq).put (d:=some d) (x:=p.x) (by rw[<-hd];exact hPd q hq);have bK:=h3.fr.2.2.1;refine⟨h3.ex,h3.val,h3.ptr,h3.lt,?_,h3.fr.grow Ch.size⟩;obtain⟨l,ty,q1,q2⟩:=h3.new;exact⟨l,ty,by rw[Ch.block q.b bK (λ h=>h)];exact q1,q2⟩
     .rw[yJ,hl k hk,b5J,b6g,b5h,hpi];constructor
      .rintro (⟨q1,q2,q3⟩|rfl)
       .exact⟨q1,q2,q3.imp id .inr⟩
       .exact⟨tE,NF, .inr (.inl rfl)⟩
      .rintro⟨q1,q2,q3⟩;by_cases Lc:k=i
       .exact .inr Lc
       .exact .inl ⟨q1,q2,q3.imp id λ q=>q.resolve_left Lc⟩
     .refine⟨by rw[gO];exact hA.size,by rw[jO];exact hA.da,hA.db,λ u hu=>?_⟩;simp only[List.map_cons,List.cons_append,List.mem_append,List.mem_cons,hpd] at hu;rw[er,if_neg (λ q=>hu (.inr (.inl (by simpa using q.1.symm))))];exact hA.at' u λ hm=>hu ((List.mem_append.1 hm).imp id λ q => .inr (List.mem_append.1 q))
    by_cases hex:kp o.op=true
    ·
     obtain⟨tt,ix,bz⟩:∃ tt ix,o.op = .extract tt ix:=by
      have:=hex;unfold kp at this;split at this
      .exact⟨_,_,by assumption⟩
      .cases this
     have b3p:AW t o.op=true:=by
      obtain⟨x0,xs,rfl⟩:∃ x0 xs,X=x0::xs:=by
       cases X with
       | nil=>cases hx
       | cons x0 xs=>exact⟨x0,xs,rfl⟩
      obtain⟨_,h3,_⟩:=N4 hK;unfold a0K at h3;rw[List.all_eq_true] at h3;have h4:=h3 _ hx;rw[Bool.or_eq_true] at h4;rcases h4 with h4|h4
      .exact h4
      .rw[List.any_eq_true] at h4;obtain⟨y,hy,h4⟩:=h4;rw[b4S,b5a] at h4;have h5:=(Gb y.1 h4.2).1;have h6:=(hX y hy).1;rcases ((hl y.1 (by omega)).1 h5).2.2 with h7|h7
       .exact absurd rfl (h7 y hy)
       .have hyl:dz c.E y.2=true:=by
         have e0:=(hX y hy).2.1;rcases b4Q.1 h7 with h7|h7
         .obtain⟨p,hp,e⟩:=b4W.1 h7;obtain⟨o2,T,τ,r,hm,WJ,NH,_⟩:=(mS p hp).ex;have e1:=(hX _ hm).2.1;simp only at e1;rw[e,e0] at e1;simp only[b4L] at e1;rw[e1];simp[dz,oa,WJ]
         .obtain⟨p,hp,e⟩:=b4W.1 h7;have e1:=(hX _ (nR p hp).mem).2.1;simp only at e1;rw[e,e0] at e1;simp only[b4L] at e1;rw[e1];simp[(nR p hp).lz]
        rw[hyl] at h4;exact absurd h4.1 (by simp)
     obtain⟨x,cI⟩:=a0p hI bz b3p;have Uk:=a7I _ P3 hex;obtain⟨d,hd⟩:∃ d,o.dst=some d:=by
      have:=Vl _ P3;simp only[pV,bz,Option.isSome_iff_exists] at this;exact this
     have hDu:∀ u,u∈R.filterMap (cF ops.toList)++(PL.map PE.d++SL.map XE.d)->u∈dstsOf (Seg.filter λ y => !Nat.testBit ((bW ops.toList []).getD i 0) y.1)++s7 c.E Seg:=λ u hu=>by
      rcases b4Q.1 hu with hu|hu
      .obtain⟨j,hj,Hu⟩:=List.mem_filterMap.1 hu;obtain⟨q1,o',q2,_,q3,_⟩:=hR j hj;refine List.mem_append.2 (.inl (gJ.2 ⟨(j,o'),List.mem_filter.2 ⟨q3,?_⟩,by simpa [cF,q2] using Hu⟩));simp only[Bool.not_eq_true'];cases hb:Nat.testBit ((bW ops.toList []).getD i 0) j with
       | false=>rfl
       | true=>exact absurd hj ((hl j (by omega)).1 (Gb j hb).1).2.1
      .rcases b4Q.1 hu with hu|hu
       .obtain⟨p,hp,rfl⟩:=b4W.1 hu;obtain⟨o2,T,τ,r,hm,WJ,NH,_⟩:=(mS p hp).ex;exact b4Q.2 (.inr (mo c.E (hX _ hm).2.2 (by simp[dz,oa,WJ]) NH))
       .obtain⟨q,hq,rfl⟩:=b4W.1 hu;exact b4Q.2 (.inr (mo c.E (hX _ (nR q hq).mem).2.2 (nR q hq).lz (nR q hq).dst))
     have a7R:∀ w',(execOp a.eval o).run c.P w' = .ok (.value x) w':=λ w'=>by
      rw[hA.exec (nx Uk hDu)];exact cI w'
     have b1P:gd [d] o=true:=nx Uk λ u hu=>by
      simp only[b5t] at hu;subst hu;exact b4Q.2 (.inr (mo c.E P3 (by simp[dz,hex]) hd))
     unfold Oper.wp;rw[a7R w];show wpAny c.P .any ops Q' fuel _ (a.put o.dst x) w;rw[hd];refine ih fuel Rc X R PL (⟨i,d,x,o⟩::SL) G t (a.put (some d) x) b w _ (by omega) (by simp;omega) (by rw[Array.size_setIfInBounds];exact cK) hR hX IK P5 P2 ?_ hPb (λ q hq=>(mS q hq).put (by rw[<-hd];exact hPd q hq)) (λ e he=>?_) (λ k hk=>?_) a1T hI ?_ hs _ hK
     .rw[b5J];refine (List.perm_middle.nodup_iff).2 (b5G.2 ⟨λ hm=>?_,Ui⟩);rcases b4Q.1 hm with hm|hm
      .obtain⟨q,hq,e⟩:=b4W.1 hm;exact ZA q hq e
      .obtain⟨q,hq,e⟩:=b4W.1 hm;exact ZB q hq e
     .rcases b5h.1 he with rfl|he
      .refine⟨hx,hd,?_, .inl ⟨hex,λ w'=>?_⟩⟩
       .simp only[er,gO,b5M];split
        .rfl
        .rename_i bK;first|rfl|(rw[b5I,b6p (by omega)];rfl)
       .have hA':nF [d] (a.put (some d) x) a:=⟨gO a _ x,by rw[jO];exact hA.da,hA.da,λ u hu=>by rw[er,if_neg (λ q=>hu (by simpa using q.1.symm))]⟩;show (execOp (a.put (some d) x).eval o).run c.P w'=_;rw[hA'.exec b1P];exact a7R w'
      .exact (nR e he).put hA.da (by rw[<-hd];exact hSd e he) (by rw[<-hd];exact hSu e he)
     .rw[yJ,hl k hk,b5J];constructor
      .rintro (⟨q1,q2,q3⟩|rfl)
       .refine⟨q1,q2,q3.imp (λ q=>q) λ q=>?_⟩;rcases b4Q.1 q with q|q
        .exact b4Q.2 (.inl q)
        .exact b4Q.2 (.inr (b6l _ q))
       .exact⟨tE,NF, .inr (b4Q.2 (.inr (b7p ..)))⟩
      .rintro⟨q1,q2,q3⟩;by_cases Lc:k=i
       .exact .inr Lc
       .refine .inl ⟨q1,q2,q3.imp (λ q=>q) λ q=>?_⟩;rcases b4Q.1 q with q|q
        .exact b4Q.2 (.inl q)
        .exact b4Q.2 (.inr ((b5h.1 q).resolve_left Lc))
     .refine⟨by rw[gO];exact hA.size,by rw[jO];exact hA.da,hA.db,λ u hu=>?_⟩;simp only[List.map_cons,List.mem_append,List.mem_cons] at hu;rw[er,if_neg (λ q=>hu (.inr (.inr (.inl (by simpa using q.1.symm)))))];exact hA.at' u λ hm=>hu ((List.mem_append.1 hm).imp (λ q=>q) λ q=>(List.mem_append.1 q).imp (λ q=>q) .inr)
    by_cases Fl:xh o.op=true/\JP c.E o=true
    ·
     have Uk:=Vl _ P3;obtain⟨d,hd⟩:∃ d,o.dst=some d:=by
      obtain⟨T,bz⟩:=QO Fl.1;unfold pV at Uk;rw[bz,Fl.2] at Uk;cases hd:o.dst with
      | some d=>exact⟨d,rfl⟩
      | none=>rw[hd] at Uk;simp at Uk
     obtain⟨w',x,cI,Ap,hxv,Ch⟩:=a1I hE hI (a2:=a) Fl Uk hd;unfold Oper.wp;rw[cI];show wpAny c.P .any ops Q' fuel _ (a.put o.dst x) w';rw[hd];refine ih fuel Rc X R PL (⟨i,d,x,o⟩::SL) G t (a.put (some d) x) b w' _ (by omega) (by simp;omega) (by rw[Array.size_setIfInBounds];exact cK) hR hX IK P5 P2 ?_ hPb (λ q hq=>?_) (λ e he=>?_) (λ k hk=>?_) a1T Ap ?_ hs _ hK
     .rw[b5J];refine (List.perm_middle.nodup_iff).2 (b5G.2 ⟨λ hm=>?_,Ui⟩);rcases b4Q.1 hm with hm|hm
      .obtain⟨q,hq,e⟩:=b4W.1 hm;exact ZA q hq e
      .obtain⟨q,hq,e⟩:=b4W.1 hm;exact ZB q hq e
     .have h3:=(mS q hq).put (d:=some d) (x:=x) (by rw[<-hd];exact hPd q hq);have bK:=h3.fr.2.2.1;refine⟨h3.ex,h3.val,h3.ptr,h3.lt,?_,h3.fr.grow Ch.size⟩;obtain⟨l,ty,q1,q2⟩:=h3.new;exact⟨l,ty,by rw[Ch.block q.b bK (λ h=>h)];exact q1,q2⟩
     .rcases b5h.1 he with rfl|he
      .refine⟨hx,hd,?_, .inr ⟨Fl,hxv⟩⟩;simp only[er,gO,b5M];split
       .rfl
       .rename_i bK;first|rfl|(rw[b5I,b6p (by omega)];rfl)
      .exact (nR e he).put hA.da (by rw[<-hd];exact hSd e he) (by rw[<-hd];exact hSu e he)
     .rw[yJ,hl k hk,b5J];constructor
      .rintro (⟨q1,q2,q3⟩|rfl)
       .refine⟨q1,q2,q3.imp (λ q=>q) λ q=>?_⟩;rcases b4Q.1 q with q|q
        .exact b4Q.2 (.inl q)
        .exact b4Q.2 (.inr (b6l _ q))
       .exact⟨tE,NF, .inr (b4Q.2 (.inr (b7p ..)))⟩
      .rintro⟨q1,q2,q3⟩;by_cases Lc:k=i
       .exact .inr Lc
       .refine .inl ⟨q1,q2,q3.imp (λ q=>q) λ q=>?_⟩;rcases b4Q.1 q with q|q
        .exact b4Q.2 (.inl q)
        .exact b4Q.2 (.inr ((b5h.1 q).resolve_left Lc))
     .refine⟨by rw[gO];exact hA.size,by rw[jO];exact hA.da,hA.db,λ u hu=>?_⟩;simp only[List.map_cons,List.mem_append,List.mem_cons] at hu;rw[er,if_neg (λ q=>hu (.inr (.inr (.inl (by simpa using q.1.symm)))))];exact hA.at' u λ hm=>hu ((List.mem_append.1 hm).imp (λ q=>q) λ q=>(List.mem_append.1 q).imp (λ q=>q) .inr)
    ·
     have b3B:dz c.E o=false:=by
      simp only[dz,Bool.or_eq_false_iff];exact⟨by simpa using hal,by simpa using hex,by
       cases q1:xh o.op
       .rfl
       .cases q2:JP c.E o
        .rfl
        .exact absurd ⟨q1,q2⟩ Fl⟩
     have hlz:∀ z∈X,Nat.testBit ((bW ops.toList []).getD i 0) z.1=true->dz c.E z.2=true/\z.1∈PL.map PE.i++SL.map XE.i:=λ z hz hb=>by
      have h3:=(Gb z.1 hb).1;have h4:=(hX z hz).1;rcases ((hl z.1 (by omega)).1 h3).2.2 with h5|h5
      .exact absurd rfl (h5 z hz)
      .refine⟨?_,h5⟩;have e0:=(hX z hz).2.1;rcases b4Q.1 h5 with h7|h7
       .obtain⟨p,hp,e⟩:=b4W.1 h7;obtain⟨o2,T,τ,r,hm,WJ,NH,_⟩:=(mS p hp).ex;have e1:=(hX _ hm).2.1;simp only at e1;rw[e,e0] at e1;simp only[b4L] at e1;rw[e1];simp[dz,oa,WJ]
       .obtain⟨p,hp,e⟩:=b4W.1 h7;have e1:=(hX _ (nR p hp).mem).2.1;simp only at e1;rw[e,e0] at e1;simp only[b4L] at e1;rw[e1];exact (nR p hp).lz
     obtain⟨mm,hu0,hK⟩:=a3Y (y:=(i,o)) hK hx P5 (by
      simp only[VZ,b3B,b4R,b6e,b5F,b6G,b5a];intro z hz;cases hb:Nat.testBit ((bW ops.toList []).getD i 0) z.1 with
      | false=>exact .inr rfl
      | true=>exact .inl (hlz z hz hb).1) (λ x0 xs e hz=>by
      cases hb:Nat.testBit ((bW ops.toList []).getD i 0) x0.1 with
      | false=>rfl
      | true =>
       rcases b4Q.1 (hlz x0 (by rw[e];simp) hb).2 with h5|h5
       .obtain⟨p,hp,e'⟩:=b4W.1 h5;exact absurd ⟨x0,xs,p,e,hp,e'⟩ Vk
       .obtain⟨p,hp,e'⟩:=b4W.1 h5;exact absurd ⟨x0,xs,p,e,hp,e'⟩ P6)
     have hxm:∀ z,z∈X->z.1≠i->z∈X.filter λ z => !Nat.beq z.1 i:=λ z hz eR=>List.mem_filter.2 ⟨hz,by rw[a5q.2 eR];rfl⟩;have a5k:∀ z,z∈(X.filter λ z => !Nat.beq z.1 i)->z∈X/\z.1≠i:=λ z hz=>⟨(List.mem_filter.1 hz).1,a5q.1 (by simpa using (List.mem_filter.1 hz).2)⟩;have vI:(X.filter λ z => !Nat.beq z.1 i).length+1=X.length:=Zq hx P5;generalize lh:(X.filter λ z => !Nat.beq z.1 i)=xs at *
     have hxn:(xs.map (·.1)).Nodup:=by rw[<-lh];exact P5.sublist (b7A _ b8P)
     .simp only at hu0 hK;have eA:∀ j∈R,∃ o',ops.toList[j]?=some o'/\(j,o')∈Rc.filter λ r => !Nat.testBit ((bW ops.toList []).getD i 0) r.1:=λ j hj=>by
       obtain⟨q1,o',q2,q3,_,_⟩:=hR j hj;refine⟨o',q2,b6m.2 ⟨q3,?_⟩⟩;simp only[b5a];cases hb:Nat.testBit ((bW ops.toList []).getD i 0) j with
       | false=>rfl
       | true=>exact absurd hj ((hl j (by omega)).1 (Gb j hb).1).2.1
      have hu:gd (R.filterMap (cF ops.toList)++(PL.map PE.d++SL.map XE.d)) o=true:=nx hu0 λ t ht=>by
       rcases b4Q.1 ht with ht|ht
       .obtain⟨j,hj,Hu⟩:=List.mem_filterMap.1 ht;obtain⟨o',q2,q3⟩:=eA j hj;exact List.mem_append.2 (.inl (gJ.2 ⟨(j,o'),q3,by simpa [cF,q2] using Hu⟩))
       .rcases b4Q.1 ht with ht|ht
        .obtain⟨p,hp,rfl⟩:=b4W.1 ht;obtain⟨o2,T,τ,r,hm,bz,NH,_⟩:=(mS p hp).ex;exact b4Q.2 (.inr (mo c.E (hxm _ hm (ZA p hp)) (by simp[dz,oa,bz]) NH))
        .obtain⟨p,hp,rfl⟩:=b4W.1 ht;exact b4Q.2 (.inr (mo c.E (hxm _ (nR p hp).mem (ZB p hp)) ((nR p hp).lz) (nR p hp).dst))
      have hIz:=hI.fz hZ;refine a6N (hA.exec hu) ?_ ?_ (Q3 (c:=c.fz w G.S λ b=>∃ p∈PL,p.b=b) hE hIz hK (Q:=λ _ _ _=>False))
      .rintro x w' ⟨G',s',b3i,hsr⟩;obtain⟨Ap,gh⟩:=hI.b4g hZ b3i;obtain⟨k1,k2⟩:=kU hsr;refine ih fuel _ xs R PL SL G' s' (a.put o.dst x) (b.put o.dst x) w' _ (by omega) (by omega) (by rw[b6q];exact cK) (λ j hj=>?_) (λ y hy=>hX y (a5k y hy).1) IK hxn (λ j hj y hy=>P2 j hj y (a5k y hy).1) Ui hPb (λ p hp=>?_) (λ e he=>?_) (λ k hk=>?_) a1T Ap (hA.put λ q hq YE=>absurd hq YE) (λ j hj o' cP=>?_) _ k2
       .obtain⟨q1,o',q2,q3,q4,q7⟩:=hR j hj;obtain⟨o2,q5,q6⟩:=eA j hj;have e:o'=o2:=by rw[q2] at q5;simpa using q5
        subst e;exact⟨q1,o',q2,q6,q4,q7⟩
       .have h3:=(mS p hp).put (d:=o.dst) (x:=x) (hPd p hp);obtain⟨e1,e2⟩:=gh p.b ⟨p,hp,rfl⟩;refine⟨?_,h3.val,h3.ptr,h3.lt,?_,e2⟩
        .obtain⟨o2,T,τ,r,hm,m2,m3,m4,m5⟩:=h3.ex;exact⟨o2,T,τ,r,hxm _ hm (ZA p hp),m2,m3,m4,m5⟩
        .obtain⟨l,ty,q1,q2⟩:=h3.new;exact⟨l,ty,by rw[e1];exact q1,q2⟩
       .have h3:=(nR e he).put (x:=x) hA.da (hSd e he) (hSu e he);exact⟨hxm _ h3.mem (ZB e he),h3.dst,h3.val,h3.run⟩
       .rw[yJ,hl k hk];constructor
        .rintro (⟨q1,q2,q3⟩|rfl)
         .exact⟨q1,q2,q3.imp (λ q y hy=>q y (a5k y hy).1) λ q=>q⟩
         .exact⟨tE,NF, .inl λ y hy e=>(a5k y hy).2 e⟩
        .rintro⟨q1,q2,q3⟩;by_cases Lc:k=i
         .exact .inr Lc
         .refine .inl ⟨q1,q2,q3.imp (λ q y hy=>?_) λ q=>q⟩;by_cases e:y.1=i
          .rw[e];exact Ne.symm Lc
          .exact q y (hxm y hy e)
       .obtain⟨o2,q5,q6⟩:=eA j hj;rw[q5] at cP;simp only[b4L] at cP;subst cP;exact k1 (j,o2) q6
      .rintro b' w' ⟨G',s',Ap,_⟩;exact Ap.defers
end
theorem A4{ck:List Nat}{p:Nat}(h:WU ck p=true){j k:Nat}(hj:p<=j)(hl:j<ck.length)(hk:k<p):Nat.testBit (ck.getD j 0) k=true:=by
 unfold WU at h;rw[List.all_eq_true] at h;have hm:ck[j]∈ck.drop p:=by
  rw[List.mem_iff_getElem?];refine⟨j - p,?_⟩;rw[b6z,show p+(j - p)=j by omega,b5p hl]
 have h1:=Nat.eq_of_beq_eq_true (h _ hm);rw[List.getD_eq_getElem?_getD,List.getElem?_eq_getElem hl,Option.getD_some];have h2:Nat.testBit (ck[j] % 2 ^ p) k=true:=by rw[h1,Nat.testBit_two_pow_sub_one];simpa using hk
 rw[Nat.testBit_mod_two_pow] at h2;simp only[b4S] at h2;exact h2.2
theorem Z4{l:List Oper}{es:List Ru}{lo m bits:Nat}{s0:aj}{π π':List Nat}(qt:∀ j k t,lo<=j->j<m->lo<=k->k<m->cF l j=some t->cF l k=some t->j=k)
  (hπ:∀ k∈π,lo<=k/\k<m) (WT:∀ k∈π',lo<=k/\k<m) (hn:π.Nodup) (Ci:π'.Nodup) (ha:∀ k,lo<=k->k<m->Nat.testBit bits k=true->k∈π/\k∈π') (t:Nat) (hh:hidden l m bits t=false) :
  (dR l es s0 π).sl t=(dR l es s0 π').sl t/\(dR l es s0 π).ah t=(dR l es s0 π').ah t:=by
 by_cases hex:∃ k,lo<=k/\k<m/\cF l k=some t
 .obtain⟨k,ct,hk,hd⟩:=hex;have hb:Nat.testBit bits k=true:=by
   have:=hh;unfold hidden at this;rw[List.any_eq_false] at this;have:=this k (by simpa using hk);simp only[hd] at this;simp only[Nat.beq_refl] at this;simpa using this
  obtain⟨h1,h2⟩:=ha k ct hk hb;obtain⟨e1,e2⟩:=zT l es t k hd π s0 h1 hn (λ j hj eR Hu=>eR (qt j k t (hπ j hj).1 (hπ j hj).2 ct hk Hu hd));obtain⟨e3,e4⟩:=zT l es t k hd π' s0 h2 Ci (λ j hj eR Hu=>eR (qt j k t (WT j hj).1 (WT j hj).2 ct hk Hu hd));exact⟨e1.trans e3.symm,e2.trans e4.symm⟩
 .have fM:∀ k,lo<=k->k<m->cF l k≠some t:=λ k hl hk hd=>hex ⟨k,hl,hk,hd⟩;obtain⟨e1,e2⟩:=gK l es t π s0 (λ k hk=>fM k (hπ k hk).1 (hπ k hk).2);obtain⟨e3,e4⟩:=gK l es t π' s0 (λ k hk=>fM k (WT k hk).1 (WT k hk).2);exact⟨e1.trans e3.symm,e2.trans e4.symm⟩
def fv(lo i:Nat):List Nat:=List.range' lo (i - lo)
theorem EA{lo i k:Nat}:k∈fv lo i↔lo<=k/\k<i:=by
 unfold fv;rw[List.mem_range'_1];omega
theorem Ou(lo i:Nat):(fv lo i).Nodup:=List.nodup_range'
theorem a6C{lo i:Nat}(h:lo<=i):fv lo (i+1)=fv lo i++[i]:=by
 unfold fv;rw[show i+1 - lo=(i - lo)+1 by omega,List.range'_1_concat,show lo+(i - lo)=i by omega]
theorem Yi{E:Env}{l:List Oper}{m lo:Nat}{ck:List Nat}{s0:aj}:∀ (r:List Oper) (i:Nat) (es B5:List Ru) (s s':aj),Trace E l m ck i r es s s'->(∀ j o,r[j]?=some o->l[i+j]?=some o)->B5.length=i->lo<=i ->
  s=dR l (B5++es) s0 (fv lo i) ->
  (∀ j o,r[j]?=some o->Vx E l m (ck.getD (i+j) 0) (dR l (B5++es) s0 (fv lo (i+j))) o ((B5++es).getD (i+j) ⟨false, .any,none⟩))/\s'=dR l (B5++es) s0 (fv lo (i+r.length))
 | [],i,[],B5,s,s',h,_,_,_,hs=>by
  have h:s=s':=h;subst h;exact⟨by simp,by simpa using hs⟩
 | o::r,i,e::es,B5,s,s',h,hl,h0,hlo,hs=>by
  obtain⟨h1,h2⟩:=h;have ho:l[i]?=some o:=hl 0 o rfl;have TF:(B5++e::es).getD i ⟨false, .any,none⟩=e:=by simp[b5b,<-h0]
  have cw:s.jF o.dst e.v e.ob=dR l ((B5++[e])++es) s0 (fv lo (i+1)):=by
   rw[b5O,a6C hlo,xA,b7u,TF,<-hs];simp[cF,ho]
  have ih:=Yi r (i+1) es (B5++[e]) _ s' h2 (λ j p hj=>by
   have:=hl (j+1) p (by simpa using hj);rwa [show i+(j+1)=i+1+j by omega] at this) (by simp[h0]) (by omega) cw
  rw[b5O,b7u] at ih;refine⟨λ j p hj=>?_,by rw[ih.2];congr 2;simp;omega⟩;cases j with
  | zero =>
   simp at hj;subst hj;rw[b6R,TF,<-hs];exact h1
  | succ j =>
   have:=ih.1 j p (by simpa using hj);rwa [show i+1+j=i+(j+1) by omega] at this
 | [],_,_::_,_,_,_,h,_,_,_,_=>h.elim
 | _::_,_,[],_,_,_,h,_,_,_,_=>h.elim
theorem XH:∀ (l π:List Nat),l.Nodup->(∀ k∈l,k∈π)->l.length<=π.length
 | [],_,_,_=>by simp
 | x::l,π,hn,h=>by
  have Ci:=b5G.1 hn;have hx:=h x (by simp);have h1:=XH l (π.erase x) Ci.2 (λ k hk=>by
   have eR:k≠x:=λ e=>by subst e;exact Ci.1 hk
   exact (b7h eR).2 (h k (by simp[hk])))
  have h3:=b6Y hx;have:0<π.length:=b7e hx;simp only[b4Y];omega
theorem XG{lo m:Nat}(π:List Nat)(hn:π.Nodup)(h:∀ k∈π,lo<=k/\k<m):π.length<=m - lo:=by
 have h1:(List.range lo++π).Nodup:=by
  rw[b5s];refine⟨b7N,hn,λ x hx y hy e=>?_⟩;simp at hx;have:=(h y hy).1;omega
 have h2:=xx (max lo m) (List.range lo++π) h1 (λ k hk=>by
  rcases b4Q.1 hk with hk|hk
  .simp at hk;omega
  .have:=(h k hk).2;omega)
 rw[b5f,List.length_range] at h2;cases π with
 | nil=>simp
 | cons k r =>
  have:=h k (by simp);omega
section
variable {c:Ctx} {G:Gh} {s:aj} {a:Act} {w w':World}
theorem a8x(hE:bF c.P c.E){ops:Array Oper}{j:Nat}(dL:backward ops.toList=true)(hj:j<ops.size)(hcut:∀ i,j<i->i<ops.size->Nat.testBit ((bW ops.toList []).getD i 0) j=true)
  {P:aj->Prop} {Q':Exit->Act->World->Prop} {fuel:Nat} {kn:List (Nat×Bool)} {listed:Array Bool} (cK:listed.size=ops.size) (hl:∀ k,k<ops.size->(listed.getD k false=true↔k<j))
  (hI:Inv c G s a w) (hr:ft c.E ops [ops[j]] kn P s)
  (yH:∀ G s a w (listed:Array Bool),listed.size=ops.size->(∀ k,k<ops.size->(listed.getD k false=true↔k<j+1))->Inv c G s a w->P s->wpAny c.P .any ops Q' fuel listed a w):wpAny c.P .any ops Q' (fuel+1) listed a w:=by
 have ho:ops[j]?=some ops[j]:=b6c hj;constructor
 .intro tG;have:j∈Region.ready .any ops listed:=(mem_ready cK).2 ⟨_,ho,by
   cases hb:listed.getD j false with
   | false=>rfl
   | true=>have:=(hl j hj).1 hb;omega,λ e he hb=>by
   have:=cj dL j ops[j] (by simp) e he hb;exact (hl e.on (by omega)).2 this⟩
  rw[tG] at this;cases this
 .intro i hi;obtain⟨o,cG,h1,h2⟩:=(mem_ready cK).1 hi;have L0:=(b5Z.1 cG).1;have hge:j<=i:=by
   rcases b5Q i j with h|h
   .have:=(hl i L0).2 h;rw[h1] at this;cases this
   .exact h
  have DA:i=j:=by
   rcases b5Q j i with h|h
   .have eA:=HU (l:=ops.toList) (D:=λ k=>k<j) (λ k hk o' cP e he hb=>by
     have:=cj dL k o' cP e he hb;omega) i o (by simpa using cG) (λ e he hb=>by
      have bK:=cj dL i o (by simpa using cG) e he hb;exact (hl e.on (by omega)).1 (h2 e he hb)) j (hcut i h L0)
    omega
   .omega
  subst DA;have yJ:∀ k,k<ops.size->((listed.setIfInBounds i true).getD k false=true↔k<i+1):=λ k hk=>by
   rw[uc (by omega),hl k hk];omega
  unfold wpOp;simp only[ho];have lg:=EP hE hI hr;split at lg
  .rename_i hw;rw[b5u hw];exact .inl (b6u (λ a' w' ⟨G',s',oY,h1,h2⟩=>yH G' s' a' w' _ (by rw[b6q];exact cK) yJ h1 h2) (lg Q'))
  .rename_i hw;rw[b4Z hw];obtain⟨G',s',oY,h1,h2⟩:=lg;exact yH G' s' _ w _ (by rw[b6q];exact cK) yJ h1 h2
theorem a6Y(hE:bF c.P c.E){ops:Array Oper}{lo m:Nat}{es:List Ru}{s0:aj}(dL:backward ops.toList=true)(hm:m<=ops.size)
  (qs:∀ j o,m<=j->ops.toList[j]?=some o->∀ k,k<m->Nat.testBit ((bW ops.toList []).getD j 0) k=true)
  (b3z:∀ j o,lo<=j->ops.toList[j]?=some o->∀ k,k<lo->Nat.testBit ((bW ops.toList []).getD j 0) k=true)
  (qt:∀ j k t,lo<=j->j<m->k<m->cF ops.toList j=some t->cF ops.toList k=some t->j=k)
  (a7H:∀ i o,lo<=i->i<m->ops.toList[i]?=some o->Vx c.E ops.toList m ((bW ops.toList []).getD i 0) (dR ops.toList es s0 (fv lo i)) o (es.getD i ⟨false, .any,none⟩))
  (Nz:∀ i o,lo<=i->i<m->ops.toList[i]?=some o->uE o.dst=true) (sw:∀ i o t,lo<=i->i<m->ops.toList[i]?=some o->xZ o.op=true->o.dst=some t->s0.ah t=none)
  {Q':Exit->Act->World->Prop}
  (LY:∀ (fuel:Nat) (G:Gh) (a:Act) (w:World) (listed:Array Bool),ops.size=m+fuel->listed.size=ops.size->(∀ k,k<ops.size->(listed.getD k false=true↔k<m))->Inv c G (dR ops.toList es s0 (fv lo m)) a w->wpAny c.P .any ops Q' fuel listed a w) :
  ∀ (fuel:Nat) (π:List Nat) (G:Gh) (a:Act) (w:World) (listed:Array Bool),ops.size=lo+π.length+fuel->π.Nodup->(∀ k∈π,lo<=k/\k<m)->listed.size=ops.size->(∀ k,k<ops.size->(listed.getD k false=true↔k<lo\/k∈π)) ->
   (∀ k∈π,∀ o,ops.toList[k]?=some o->∀ e∈o.after.toList,Region.binds .any e=true->e.on<lo\/e.on∈π)->lo<=m->Inv c G (dR ops.toList es s0 π) a w->wpAny c.P .any ops Q' fuel listed a w:=by
 have a7G:∀ j k t,lo<=j->j<m->lo<=k->k<m->cF ops.toList j=some t->cF ops.toList k=some t->j=k:=λ j k t h1 h2 _ h4=>qt j k t h1 h2 h4;have fin:∀ (fuel:Nat) (π:List Nat) (G:Gh) (a:Act) (w:World) (listed:Array Bool),ops.size=lo+π.length+fuel->π.Nodup->(∀ k∈π,lo<=k/\k<m)->listed.size=ops.size->(∀ k,k<ops.size->(listed.getD k false=true↔k<lo\/k∈π)) ->
   lo<=m->(∀ k,lo<=k->k<m->k∈π)->Inv c G (dR ops.toList es s0 π) a w->wpAny c.P .any ops Q' fuel listed a w:=by
  intro fuel π G a w listed hf hn bK cK hl hlm ji hI;have hlen:=XG π hn bK;have hge:m - lo<=π.length:=by
   have h2:(fv lo m).length<=π.length:=XH (fv lo m) π (Ou lo m) λ k hk=>ji k (EA.1 hk).1 (EA.1 hk).2;simpa [fv] using h2
  have heq:∀ t,(dR ops.toList es s0 π).sl t=(dR ops.toList es s0 (fv lo m)).sl t/\(dR ops.toList es s0 π).ah t=(dR ops.toList es s0 (fv lo m)).ah t:=λ t =>
   Z4 (bits:=2 ^ m - 1) a7G bK (λ k hk=>EA.1 hk) hn (Ou lo m) (λ k ct hk _=>⟨ji k ct hk,EA.2 ⟨ct,hk⟩⟩) t (by
    unfold hidden;rw[List.any_eq_false];intro k hk;simp only[List.mem_range] at hk;split
    .split
     .simp[b7v,hk]
     .simp
    .simp)
  refine LY fuel G a w listed (by omega) cK (λ k hk=>?_) ?_
  .rw[hl k hk];constructor
   .rintro (h|h)
    .omega
    .exact (bK k h).2
   .intro h;rcases b5Q k lo with h'|h'
    .exact .inl h'
    .exact .inr (ji k h' h)
  .unfold Inv at hI ⊢;rw[Qy] at hI ⊢;rw[<-funext λ t=>(heq t).1,<-funext λ t=>(heq t).2];exact hI
 intro fuel;induction fuel with
 | zero =>
  intro π G a w listed hf hn bK cK hl yG hlm hI;refine fin 0 π G a w listed hf hn bK cK hl hlm (λ k ct hk=>?_) hI;cases hb:decide (k∈π) with
  | true=>exact b5E hb
  | false =>
   have:=XG (lo:=lo) (m:=m) (k::π) (b5G.2 ⟨b6L hb,hn⟩) (λ j hj=>by
    rcases b5h.1 hj with rfl|hj
    .exact⟨ct,hk⟩
    .exact bK j hj)
   simp at this;omega
 | succ fuel ih =>
  intro π G a w listed hf hn bK cK hl yG hlm hI;by_cases ji:∀ k,lo<=k->k<m->k∈π
  .exact fin (fuel+1) π G a w listed hf hn bK cK hl hlm ji hI
  ·
   have hex:∃ k,lo<=k/\k<m/\k∉π/\∀ j,lo<=j->j<k->j∈π:=by
    have:∀ n,(∃ k,k<n/\lo<=k/\k<m/\k∉π)->∃ k,lo<=k/\k<m/\k∉π/\∀ j,lo<=j->j<k->j∈π:=by
     intro n;induction n with
     | zero=>rintro⟨k,hk,_⟩;omega
     | succ n ihn =>
      rintro⟨k,hk,Qe,hkm,Ch⟩;by_cases hs:∃ k,k<n/\lo<=k/\k<m/\k∉π
      .exact ihn hs
      .refine⟨k,Qe,hkm,Ch,λ j Yz hj=>?_⟩;cases hb:decide (j∈π) with
       | true=>exact b5E hb
       | false=>exact absurd ⟨j,by omega,Yz,by omega,b6L hb⟩ hs
    refine this m ?_;obtain⟨k,hk⟩:=b8F.1 ji;have h2:=b8o.1 hk;have h3:=b8o.1 h2.2;exact⟨k,h3.1,h2.1,h3.1,h3.2⟩
   obtain⟨k0,b4H,a5f,tF,a1Y⟩:=hex;have a1V:ops[k0]?=some (ops[k0]'(by omega)):=b6c (by omega);constructor
   .intro tG;have:k0∈Region.ready .any ops listed:=(mem_ready cK).2 ⟨_,a1V,by
     cases hb:listed.getD k0 false with
     | false=>rfl
     | true =>
      rcases (hl k0 (by omega)).1 hb with h|h
      .omega
      .exact absurd h tF,λ e he hb=>by
     have a1X:=cj dL k0 ops[k0] (by simp) e he hb;refine (hl e.on (by omega)).2 ?_;rcases b5Q e.on lo with h|h
     .exact .inl h
     .exact .inr (a1Y e.on h a1X)⟩
    rw[tG] at this;cases this
   .intro i hi;obtain⟨o,cG,h1,h2⟩:=(mem_ready cK).1 hi;have L0:=(Array.getElem?_eq_some_iff.1 cG).1;have eF:ops.toList[i]?=some o:=by simpa using cG
    have Fl:¬ (i<lo\/i∈π):=λ hh=>by
     have:=(hl i L0).2 hh;rw[h1] at this;cases this
    have xg:i∉π:=λ h=>Fl (.inr h);have hil:lo<=i:=by
     rcases b5Q i lo with h|h
     .exact absurd (.inl h) Fl
     .exact h
    have Wz:∀ e∈o.after.toList,Region.binds .any e=true->e.on<lo\/e.on∈π:=λ e he hb=>by
     have a1X:=cj dL i o eF e he hb;exact (hl e.on (by omega)).1 (h2 e he hb)
    have Gb:=HU (l:=ops.toList) (D:=λ k=>k<lo\/k∈π) (λ k hk o' cP e he hb=>by
     rcases hk with hk|hk
     .have:=cj dL k o' cP e he hb;exact .inl (by omega)
     .exact yG k hk o' cP e he hb) i o eF Wz
    have tE:i<m:=by
     rcases b5Q i m with h|h
     .exact h
     .rcases Gb k0 (qs i o h eF k0 a5f) with h|h
      .omega
      .exact absurd h tF
    have P7:=HU (l:=ops.toList) (D:=λ k=>k<i) (λ k hk o' cP e he hb=>by
     have:=cj dL k o' cP e he hb;omega) i o eF (λ e he hb=>cj dL i o eF e he hb)
    have NJ:=λ t hh=>Z4 (l:=ops.toList) (es:=es) (s0:=s0) (lo:=lo) (m:=m) (bits:=(bW ops.toList []).getD i 0) (π:=π) (π':=fv lo i) a7G bK (λ k hk=>by have:=EA.1 hk;omega) hn (Ou lo i)
     (λ k ct hk hb=>⟨by
      rcases Gb k hb with h|h
      .omega
      .exact h,EA.2 ⟨ct,P7 k hb⟩⟩) t hh
    obtain⟨hg,cI,a3O⟩:=a7H i o hil tE eF;have cU:Yq ops.toList m ((bW ops.toList []).getD i 0) (dR ops.toList es s0 (fv lo i))=Yq ops.toList m ((bW ops.toList []).getD i 0) (dR ops.toList es s0 π):=by
     funext x;cases x with
     | tmp t =>
      simp only[Yq];split
      .rfl
      .rename_i hh;exact ((NJ t hh).1).symm
     | _=>rfl
    have ct:US ops.toList m ((bW ops.toList []).getD i 0) (dR ops.toList es s0 (fv lo i))=US ops.toList m ((bW ops.toList []).getD i 0) (dR ops.toList es s0 π):=by
     funext t;simp only[US];split
     .rfl
     .rename_i hh;exact ((NJ t hh).2).symm
    have hg':gq ops.toList ((bW ops.toList []).getD i 0) (dR ops.toList es s0 π) o (es.getD i ⟨false, .any,none⟩).LA:=by
     unfold gq at hg ⊢;split
     .rename_i Ci;simpa [Ci] using hg
     .rename_i g want Ci;simp only[Ci] at hg;obtain⟨t,b,q1,q2,q3,q4⟩:=hg;refine⟨t,b,q1,q2,?_,q4⟩;have hgm:g<m:=Nat.lt_trans (P7 g q2) tE;have hh:hidden ops.toList m ((bW ops.toList []).getD i 0) t=false:=by
       unfold hidden;rw[List.any_eq_false];intro k hk;simp only[List.mem_range] at hk;split
       .rename_i d hd;split
        .rename_i IM;have IM:=b4O IM;subst IM;rcases b5Q k lo with Qe|Qe
         .rw[b3z i o hil eF k Qe];simp
         .have:=qt k g d Qe hk hgm hd q1;subst this;rw[q2];simp
        .simp
       .simp
      exact ((NJ t hh).1).trans q3
    have hw:=LX (ops:=ops) rfl hI hg';have yH:∀ (G':Gh) (a':Act) (w':World),Inv c G' (dR ops.toList es s0 (π++[i])) a' w'->wpAny c.P .any ops Q' fuel (listed.setIfInBounds i true) a' w':=by
     intro G' a' w' Ap;refine ih (π++[i]) G' a' w' _ (by simp;omega) ?_ ?_ (by rw[b6q];exact cK) ?_ ?_ hlm Ap
     .rw[b5s];exact⟨hn,by simp,λ x hx y hy=>by simp at hy;subst hy;exact λ e=>xg (e ▸ hx)⟩
     .intro k hk;rcases b4Q.1 hk with hk|hk
      .exact bK k hk
      .simp at hk;omega
     .intro k hk;rw[uc (by omega),hl k hk];simp[or_assoc]
     .intro k hk o' cP e he hb;rcases b4Q.1 hk with hk|hk
      .exact (yG k hk o' cP e he hb).imp id (b6Z _)
      .simp at hk;subst hk;rw[eF] at cP;simp only[b4L] at cP;subst cP;exact (Wz e he hb).imp id (b6Z _)
    have R1:cF ops.toList i=o.dst:=by simp[cF,eF]
    unfold wpOp;simp only[cG];cases Qj:(es.getD i ⟨false, .any,none⟩).LA with
    | true =>
     rw[Qj] at hw;rw[b5u hw];obtain⟨vc,hq,eb⟩:=cI Qj;rw[cU,ct] at hq;refine .inl (b6u ?_ (Om hE hI (lk':=US ops.toList m ((bW ops.toList []).getD i 0) (dR ops.toList es s0 π)) ?_ ?_ hq eb))
     .intro a' w' hd;obtain⟨G',mV⟩:=TL hI (Nz i o hil tE eF) (λ t ob IM Un=>by
       rw[Un] at hq;have hcr:=QZ hq;have h0:=sw i o t hil tE eF hcr IM;have DB:=(gK ops.toList es t π s0 (λ k hk hkd=>by
        have:=qt k i t (bK k hk).1 (bK k hk).2 tE hkd (by rw[R1];exact IM);subst this;exact xg hk)).2
       rw[DB,h0]) hd
      refine yH G' a' w' ?_;rw[xA,R1];exact mV
     .intro id ob aY;unfold US at aY;split at aY
      .cases aY
      .exact aY
     .intro x;cases x with
      | tmp t =>
       simp only[Yq];split
       .trivial
       .exact bp hI (.tmp t)
      | const v=>exact bp hI (.const v)
      | global g=>exact bp hI (.global g)
      | func f=>exact bp hI (.func f)
    | false =>
     rw[Qj] at hw;rw[hw];obtain⟨hv,Un⟩:=a3O Qj;refine yH G _ w ?_;rw[xA,R1,hv,Un,Sz];exact Inv.put (v := .ep) hI rfl
theorem JV{α:Type}{l:List α}{lo hi j:Nat}{o:α}(h:((l.take hi).drop lo)[j]?=some o):l[lo+j]?=some o/\lo+j<hi:=by
 rw[b6z,b6o] at h;split at h
 .rename_i bK;exact⟨h,bK⟩
 .cases h
theorem jx{α:Type}{l:List α}{lo hi i:Nat}{o:α}(h:l[i]?=some o)(h1:lo<=i)(h2:i<hi):((l.take hi).drop lo)[i - lo]?=some o:=by
 rw[b6z,b6o,show lo+(i - lo)=i by omega,b5u h2,h]
theorem uD:∀ {l:List (Option Nat)},x7 l=true->∀ (i j t:Nat),l[i]?=some (some t)->l[j]?=some (some t)->i=j
 | [],_,i,j,t,h,_=>by simp at h
 | none::r,h,i,j,t,hi,hj=>by
  cases i with
  | zero=>simp at hi
  | succ i =>
   cases j with
   | zero=>simp at hj
   | succ j=>rw[uD (l:=r) h i j t (by simpa using hi) (by simpa using hj)]
 | some d::r,h,i,j,t,hi,hj=>by
  simp only[x7] at h;split at h
  .cases h
  .rename_i a1S;rw[b8n] at a1S;have no:∀ k:Nat,r[k]?=some (some d)->False:=λ k hk=>by
    have:=a1S _ (b6t hk);simp at this
   cases i with
   | zero =>
    simp at hi;subst hi;cases j with
    | zero=>rfl
    | succ j=>exact (no j (by simpa using hj)).elim
   | succ i =>
    cases j with
    | zero =>
     simp at hj;subst hj;exact (no i (by simpa using hi)).elim
    | succ j=>rw[uD (l:=r) h i j t (by simpa using hi) (by simpa using hj)]
theorem LW{l:List Oper}{lo hi:Nat}(h:ID l lo hi=true):∀ j k t,lo<=j->j<hi->k<hi->cF l j=some t->cF l k=some t->j=k:=by
 unfold ID at h;rw[Bool.and_eq_true,Bool.and_eq_true] at h;obtain⟨⟨_,h1⟩,h2⟩:=h;have hd:=uD h1;have get:∀ j t,cF l j=some t->∃ o,l[j]?=some o/\o.dst=some t:=by
  intro j t h;unfold cF at h;simp only[Option.bind_eq_some_iff] at h;exact h
 intro j k t hj hjh hkh Qd hkt;obtain⟨o,ho,hot⟩:=get j t Qd;obtain⟨o',cP,b0W⟩:=get k t hkt;have g1:=jx ho hj hjh;rcases b5Q k lo with hk|hk
 .rw[b5F] at h2;have hm:o'∈l.take lo:=b6t (by rw[b6o,b5u hk];exact cP);have:=h2 o' hm;rw[b0W] at this;simp only[b5a] at this;rw[b8n] at this;have:=this o (b6t g1);rw[hot] at this;simp at this
 .have g2:=jx cP hk hkh;have:=hd (j - lo) (k - lo) t (by rw[b6D,g1];simp[hot]) (by rw[b6D,g2];simp[b0W]);omega
theorem a1P{l:List Oper}{lo hi:Nat}(h:ID l lo hi=true){i:Nat}{o:Oper}(h1:lo<=i)(h2:i<hi)(ho:l[i]?=some o):uE o.dst=true:=by
 unfold ID at h;rw[Bool.and_eq_true,Bool.and_eq_true] at h;exact List.all_eq_true.1 h.1.1 o (List.mem_of_getElem? (jx ho h1 h2))
theorem Jk{i:Nat}{o:Oper}:∀ {l:List Oper} {lo:Nat},(i,o)∈lJ lo l↔∃ j,i=lo+j/\l[j]?=some o
 | [],lo=>by simp[lJ]
 | x::l,lo=>by
  simp only[lJ,b5h,b4P,Jk (l:=l)];constructor
  .rintro (⟨rfl,rfl⟩|⟨j,rfl,h⟩)
   .exact⟨0,rfl,rfl⟩
   .exact⟨j+1,by omega,by simpa using h⟩
  .rintro⟨j,rfl,h⟩;cases j with
   | zero=>simp at h;exact .inl ⟨rfl,h.symm⟩
   | succ j=>exact .inr ⟨j,by omega,by simpa using h⟩
theorem Mk:∀ (l:List Oper) (lo:Nat),((lJ lo l).map (·.1)).Nodup
 | [],lo=>b6b
 | x::l,lo=>by
  simp only[lJ,b5J,b5G];refine⟨λ h=>?_,Mk l (lo+1)⟩;obtain⟨⟨i,o⟩,h1,h2⟩:=b4W.1 h;obtain⟨j,h3,_⟩:=Jk.1 h1;simp only at h2;omega
theorem nF.mono{D D':List Nat}{a b:Act}(h:nF D a b)(hs:∀ t∈D,t∈D'):nF D' a b:=⟨h.size,h.da,h.db,λ t ht=>h.at' t λ q=>ht (hs t q)⟩
theorem TX:∀ (l:List Oper) (lo:Nat),(lJ lo l).length=l.length
 | [],lo=>rfl
 | x::l,lo=>by simp[lJ,TX l]
theorem PD{α:Type}(p:α->Bool):∀ l:List α,(l.filter p).length+(l.filter λ x => !p x).length=l.length
 | []=>rfl
 | x::l=>by
  have:=PD p l;cases h:p x<;>simp[b8w,h]<;>omega
theorem a2P(hE:bF c.P c.E){ops:Array Oper}(dL:backward ops.toList=true){Q:aj->Prop}{Q':Exit->Act->World->Prop}(hQ:∀ G s a w,Inv c G s a w->Q s->Q' .normal a w) :
  ∀ (a4W:List Nat) (lo:Nat) (kn:List (Nat×Bool)) (fuel:Nat) (G:Gh) (s:aj) (a:Act) (w:World) (listed:Array Bool),ops.size=lo+fuel->listed.size=ops.size->(∀ k,k<ops.size->(listed.getD k false=true↔k<lo))->Inv c G s a w ->
   xS c.E ops ops.toList (bW ops.toList []) a4W lo kn Q s->wpAny c.P .any ops Q' fuel listed a w:=by
 obtain⟨r,ha1,ha2,_⟩:=Az ops.toList [];have Wv:(bW ops.toList []).length=ops.size:=by rw[ha1];simpa using ha2
 intro a4W;induction a4W with
 | nil =>
  intro lo kn fuel G s a w listed hf cK hl hI hr;simp only[xS] at hr;split at hr
  .rename_i hb;have hb:=Nat.eq_of_beq_eq_true hb;have hlo:lo=ops.size:=by simpa using hb
   have h0:fuel=0:=by omega
   subst h0;refine⟨?_,hQ _ _ _ _ hI hr⟩;apply b7r.2;intro i hi;obtain⟨o,ho,h1,_⟩:=(mem_ready cK).1 hi;have bK:=(b5Z.1 ho).1;have:=(hl i bK).2 (by omega);rw[h1] at this;cases this
  .exact hr.elim
 | cons hi a4W ih =>
  intro lo kn fuel G s a w listed hf cK hl hI hr;simp only[xS] at hr;split at hr;case h_2=>exact hr.elim
  case h_1 hc =>
  simp only[b4S,b8q,Nat.ble_eq,b5S] at hc;obtain⟨R0,hc0,hc2,hc3⟩:=hc;split at hr
  .rename_i hb;have hb:=b4O hb;subst hb;have bK:lo<ops.size:=by omega
   obtain⟨fuel,rfl⟩:∃ f,fuel=f+1:=⟨fuel - 1,by omega⟩;have IS:(ops.toList.take (lo+1)).drop lo=[ops[lo]]:=by
    rw[List.drop_take,show lo+1 - lo=1 by omega,List.drop_eq_getElem_cons (by simpa using bK)];simp
   rw[IS] at hr;refine a8x hE dL bK (λ i h1 h2=>A4 R0 (by omega) (by omega) (by omega)) cK hl hI hr ?_;intro G s a w listed cK hl hI hp;exact ih (lo+1) kn fuel G s a w listed (by omega) cK hl hI hp
  .split at hr;case h_3=>exact hr.elim
   case h_1 Lb hal =>
    unfold a4P at hr;split at hr;case h_2=>exact hr.elim
    case h_1 gH =>
    have wD:∀ i o,(i,o)∈lJ lo ((ops.toList.take hi).drop lo)↔lo<=i/\i<hi/\ops.toList[i]?=some o:=λ i o=>by
     rw[Jk];constructor
     .rintro⟨j,rfl,h⟩;obtain⟨h1,h2⟩:=JV h;exact⟨by omega,h2,h1⟩
     .rintro⟨h1,h2,h3⟩;exact⟨i - lo,by omega,jx h3 h1 h2⟩
    have cR:=Mk ((ops.toList.take hi).drop lo) lo;have Aq:(lJ lo ((ops.toList.take hi).drop lo)).length=hi - lo:=by rw[TX];simp;omega
    have A2:∀ x∈lJ lo ((ops.toList.take hi).drop lo),∀ y∈lJ lo ((ops.toList.take hi).drop lo),∀ t,x.2.dst=some t->y.2.dst=some t->x.1=y.1:=λ x hx y hy t hxt hyt=>by
     have h1:=(wD x.1 x.2).1 hx;have h2:=(wD y.1 y.2).1 hy;exact LW Lb x.1 y.1 t h1.1 h1.2.1 h2.2.1 (by simp[cF,h1.2.2,hxt]) (by simp[cF,h2.2.2,hyt])
    generalize lJ lo ((ops.toList.take hi).drop lo)=fv at *
    simp only[a8k,b4S,b5F] at gH;obtain⟨t,b,q1,q2,q3⟩:=TQ hE hI hr;obtain⟨q4,q5⟩:=kU q3;have a7S:∀ p:Nat×Oper->Bool,((fv.filter p).map (·.1)).Nodup:=λ p=>cR.sublist (b7A _ b8P);have b1Q:∀ x∈fv,∀ y∈fv,x.1=y.1->x=y:=λ x hx y hy e=>by
     obtain⟨x1,x2⟩:=x;obtain⟨y1,y2⟩:=y;simp only at e;subst e;have h1:=((wD _ _).1 hx).2.2;rw[((wD _ _).1 hy).2.2] at h1;simp only[b4L] at h1;rw[h1]
    refine a2i hE (hi:=hi) (Seg:=fv) dL hc3 ?_ (λ x hx=>by simpa using (gH.1 x hx).1) (λ x hx=>(gH.1 x hx).2) ?_ A2 (λ fuel G s a w listed hf cK hl hI hp=>ih hi kn fuel G s a w listed (by omega) cK hl hI hp) (fuel+(NS c.E (bW ops.toList []) (fv.filter λ r => !nu c.E (bW ops.toList []) fv r)).length) fuel (fv.filter (nu c.E (bW ops.toList []) fv)) (NS c.E (bW ops.toList []) (fv.filter λ r => !nu c.E (bW ops.toList []) fv r))
     ((fv.filter (nu c.E (bW ops.toList []) fv)).map (·.1)) [] [] G t a b w listed (b5w _) ?_ cK ?_ ?_ (a7S _) ((((jR _ _ _).map (·.1)).nodup_iff).2 (a7S _)) ?_ b6b b6b (λ p hp=>by cases hp) (λ p hp=>by cases hp) ?_ ?_ ?_ ?_ ?_ fv.length ?_
    .intro j o hj ho k hk;have:=(List.getElem?_eq_some_iff.1 ho).1;exact A4 R0 hj (by rw[Wv];simpa using this) hk
    .intro x hx he;have:=gH.2 x hx;simpa [he] using this
    .rw[b5g,(jR _ _ _).length_eq,PD,Aq,b5j,b5j];omega
    .intro i nU;obtain⟨⟨i',o⟩,h1,rfl⟩:=b4W.1 nU;obtain⟨h2,h3⟩:=b6m.1 h1;have h4:=(wD _ _).1 h2;refine⟨h4.2.1,o,h4.2.2,h1,h2,?_⟩;have:=gH.2 _ h2;rw[h3] at this;have eR:kp o.op=false:=by
      have:=Ha (E:=c.E) (o:=o) (by simp only[nu,Q1,b4S] at h3;exact h3.1.1);simp only[dz,b8I] at this;exact this.2.1
     exact⟨h3,by simpa [eR] using this⟩
    .intro x hx;have hx:=(jR _ _ _).mem_iff.1 hx;have h2:=(b6m.1 hx).1;have h4:=(wD _ _).1 h2;exact⟨h4.2.1,h4.2.2,h2⟩
    .intro i nU x hx e;have hx:=(jR _ _ _).mem_iff.1 hx;obtain⟨y,h1,rfl⟩:=b4W.1 nU;obtain⟨h2,h3⟩:=b6m.1 h1;obtain⟨h4,h5⟩:=b6m.1 hx;have:=b1Q _ h2 _ h4 e;subst this;rw[h3] at h5;cases h5
    .intro k hk;rw[hl k hk];constructor
     .intro h;refine⟨by omega,λ hm=>?_, .inl λ x hx e=>?_⟩
      .obtain⟨y,h1,rfl⟩:=b4W.1 hm;have:=((wD _ _).1 (b6m.1 h1).1).1;omega
      .have:=((wD _ _).1 (b6m.1 ((jR _ _ _).mem_iff.1 hx)).1).1;omega
     .rintro⟨h1,h2,h3⟩;have h3:=h3.resolve_right (by simp);rcases b5Q k lo with h|h
      .exact h
      .have hm:(k,ops[k])∈fv:=(wD _ _).2 ⟨h,h1,by simp⟩;cases hr:nu c.E (bW ops.toList []) fv (k,ops[k]) with
       | true=>exact absurd (b4W.2 ⟨_,b6m.2 ⟨hm,hr⟩,rfl⟩) h2
       | false=>exact absurd rfl (h3 _ ((jR _ _ _).mem_iff.2 (b6m.2 ⟨hm,by simp[hr]⟩)))
    .intro k hk Qe o ho e he hb;have h1:=cj dL k o ho e he hb;have h2:=(hl k hk).1 Qe;exact (hl e.on (by omega)).2 (by omega)
    .exact q1
    .refine q2.mono λ d hd=>?_;obtain⟨r,h1,h2⟩:=gJ.1 hd;have h4:=(wD _ _).1 (b6m.1 h1).1;exact b4Q.2 (.inl (b6U.2 ⟨r.1,b4W.2 ⟨r,h1,rfl⟩,by simp[cF,h4.2.2,h2]⟩))
    .intro i nU o ho;obtain⟨⟨i',o'⟩,h1,rfl⟩:=b4W.1 nU;have h4:=((wD _ _).1 (b6m.1 h1).1).2.2;simp only at ho;rw[h4] at ho;simp only[b4L] at ho;subst ho;exact q4 _ h1
    .exact q5
   case h_2 Lb hal =>
   have qt:=LW Lb;obtain⟨es,oY,s',Hx,hq⟩:=sW hr;have hlen:((ops.toList.take hi).drop lo).length=hi - lo:=by simp;omega
   obtain⟨YF,ht2⟩:=Yi (lo:=lo) (s0:=((ops.toList.take hi).drop lo).foldl aj.fresh s) ((ops.toList.take hi).drop lo) lo es (List.replicate lo ⟨false, .any,none⟩) _ s' Hx (λ j o ho=>(JV ho).1) (by simp) (Nat.le_refl _) (by simp[fv,dR]);rw[hlen,show lo+(hi - lo)=hi by omega] at ht2;subst ht2;have hI0:Inv c G (((ops.toList.take hi).drop lo).foldl aj.fresh s) a w:=Fa _ hI;refine a6Y hE (lo:=lo) (m:=hi) (es:=List.replicate lo ⟨false, .any,none⟩++es) (s0:=((ops.toList.take hi).drop lo).foldl aj.fresh s) dL hc3 ?_ ?_ qt ?_ (λ i o h1 h2 ho=>a1P Lb h1 h2 ho) ?_ ?_ fuel [] G a w listed (by simp;omega) (by simp) (by simp) cK (by simpa using hl) (by simp) (by omega) hI0
   .intro j o hj ho k hk;have:=(List.getElem?_eq_some_iff.1 ho).1;exact A4 R0 hj (by rw[Wv];simpa using this) hk
   .intro j o hj ho k hk;have:=(List.getElem?_eq_some_iff.1 ho).1;exact A4 hc0 hj (by rw[Wv];simpa using this) hk
   .intro i o h1 h2 ho;have:=YF (i - lo) o (jx ho h1 h2);rwa [show lo+(i - lo)=i by omega] at this
   .intro i o t h1 h2 ho hcr IM;exact (Ce ((ops.toList.take hi).drop lo) s t).2 o (b6t (jx ho h1 h2)) hcr IM
   .intro fuel G a w listed hf cK hl hI;exact ih hi oY fuel G _ a w listed (by omega) cK hl hI (WY hI hq)
theorem Uc(hE:bF c.P c.E)(gH:c.P.follows .mixedOrders=true){id:Nat}{ops:Array Oper}{Q:aj->Prop}{Q':Exit->Act->World->Prop}(hQ:∀ G s a w,Inv c G s a w->Q s->Q' .normal a w)
  (h:Inv c G s a w) (hd:Ry c.E ops Q s):(Code.region id ops true).wp c.P Q' a w:=by
 unfold Ry at hd;simp only at hd;split at hd
 .exact VS hE gH hQ h hd
 .split at hd;case h_2=>exact hd.elim
  case h_1 dL =>
  refine wp_region_any gH ?_;exact a2P hE dL hQ _ 0 [] ops.size G s a _ _ (by simp) (by simp) (by intro k hk;simp[hk]) (bw.drew h) hd
end
def VP{c:Ctx}{G:Gh}{s:aj}{a:Act}{w:World}(hE:bF c.P c.E)(gH:c.P.follows .mixedOrders=true){id:Nat}{ops:Array Oper}{Q:aj->Prop}{Q':Exit->Act->World->Prop}(hQ:∀ G s a w,Inv c G s a w->Q s->Q' .normal a w)
  (h:Inv c G s a w) (hd:a1s c.E ops Q s):(Code.region id ops true).wp c.P Q' a w:=Uc hE gH hQ h hd
theorem kH{u v:TV}(h:Aa u v):u=v:=by
 unfold Aa at h;split at h
 .rename_i x hx;have:=TV.aU hx;rw[this,h]
 .exact h.elim
theorem FH:∀ {l:List Nat},nodupB l=true->l.Nodup
 | [],_=>b6b
 | a::r,h=>by
  simp only[nodupB] at h;split at h
  .cases h
  .rename_i hc;exact List.nodup_cons.2 ⟨by simpa using hc,FH h⟩
theorem Ck{α:Type}(f:α->Nat):∀ {l:List α},(l.map f).Nodup->∀ x∈l,∀ y∈l,f x=f y->x=y
 | [],_,x,hx,_,_,_=>by simp at hx
 | a::r,h,x,hx,y,hy,he=>by
  simp only[b5J,b5G] at h;rcases b5h.1 hx with hx1|hx1
  .rcases b5h.1 hy with YG|YG
   .rw[hx1,YG]
   .exact absurd (b4W.2 ⟨y,YG,by rw[<-he,hx1]⟩) h.1
  .rcases b5h.1 hy with YG|YG
   .exact absurd (b4W.2 ⟨x,hx1,by rw[he,YG]⟩) h.1
   .exact Ck f h.2 x hx1 y YG he
section
variable {c:Ctx} {G:Gh} {s t:aj} {a:Act} {w w':World}
def gE(G:Gh)(s t:aj)(ρ:List (Nat×Nat))(id:Nat):Value:=match s.ah (dt ρ id) with
 | some _=>G.η (dt ρ id)
 | none=>match cx (t.ah id) with
  | true => .tuple [.slice none 0 0].toArray
  | false => .slice none 0 0
def sR(G:Gh)(s:aj)(ρ:List (Nat×Nat))(id:Nat):List Nat:=match s.ah (dt ρ id) with
 | some _=>G.φ (dt ρ id)
 | none=>[]
theorem oB{ρ:List (Nat×Nat)}{x:Value}{u v:AV}(h:AV.wz ρ s t u v)(hu:C1 c G s.ah w u x):C1 c ⟨G.S,gE G s t ρ,sR G s ρ⟩ t.ah w v x:=by
 unfold AV.wz at h;split at h
 .trivial
 .split at h
  .have:=kH h;subst this;exact hu
  .split at h
   .subst h;exact⟨rfl,Vf (c:=c) (G:=G) (lk:=s.ah) (τ := .slice _) (v := .nil) rfl (show C1 c G s.ah w .nil x from hu)⟩
   .exact h.elim
  .exact h.elim
 .split at h
  .exact hu
  .exact h.elim
 .split at h
  .have:=kH h;subst this;exact hu
  .exact h.elim
 .split at h
  .split at h
   .rename_i hb;simp only[b4S] at hb;have h1:=b4O hb.1.1;have h2:=b4O hb.1.2;subst h1 h2;obtain⟨b,k1,k2,k3⟩:=hu;refine⟨b,?_,k2,hb.2⟩;simp only[gE];match hl:s.ah (dt ρ _),k3 with
    | some o,_=>exact k1
   .exact h.elim
  .exact h.elim
 .split at h
  .split at h
   .rename_i hb;simp only[b4S] at hb;have h1:=b4O hb.1;subst h1;obtain⟨k1,k2,k3⟩:=hu;refine⟨?_,hb.2,k3⟩;simp only[gE];match hl:s.ah (dt ρ _),k2 with
    | some o,_=>exact k1
   .exact h.elim
  .split at h
   .rename_i hr hn;refine⟨?_,hr,none,0,0,hu⟩;simp only[gE,hn,ti hr];exact hu
   .exact h.elim
  .exact h.elim
 .split at h
  .split at h
   .rename_i hb;simp only[b4S] at hb;have h1:=b4O hb.1;subst h1;obtain⟨k1,l,k2,k3⟩:=hu;refine⟨hb.2,l,?_,k3⟩;simp only[gE];match hl:s.ah (dt ρ _),k1 with
    | some o,_=>exact k2
   .exact h.elim
  .split at h
   .rename_i hr hn;have hu:x = .slice none 0 0:=hu;refine⟨hr,[],?_,none,0,0,hu⟩;simp only[gE,hn,hr];rw[hu]
   .exact h.elim
  .exact h.elim
 .split at h
  .split at h
   .rename_i hb;have h1:=b4O hb;subst h1;exact hu
   .exact h.elim
  .exact h.elim
 .split at h
  .split at h
   .rename_i hb;simp only[b4S] at hb;have h1:=b4O hb.1;subst h1;obtain⟨k1,k2,k3⟩:=hu;refine⟨?_,hb.2,k3⟩;simp only[gE];match hl:s.ah (dt ρ _),k2 with
    | some o,_=>exact k1
   .exact h.elim
  .exact h.elim
 .exact h.elim
theorem Iz{ρ:List (Nat×Nat)}:∀ {us vs:List AV} {l:List Value},LS ρ s t us vs->aT (C1 c G s.ah w) us l->aT (C1 c ⟨G.S,gE G s t ρ,sR G s ρ⟩ t.ah w) vs l
 | [],[],[],_,_=>trivial
 | u::us,v::vs,x::l,h,hu=>by
  simp only[LS] at h;split at h
  .exact⟨ae,Iz h hu.2⟩
  .exact⟨oB h.1 hu.1,Iz h.2 hu.2⟩
 | [],_::_,_,h,_=>h.elim
 | _::_,[],_,h,_=>h.elim
 | [],[],_::_,_,h=>h.elim
 | _::_,_::_,[],_,h=>h.elim
theorem a7x{ρ:List (Nat×Nat)}{x:Value}{u v:AV}(h:AV.b0E ρ s t u v)(hu:CR c G s.ah w u x):CR c ⟨G.S,gE G s t ρ,sR G s ρ⟩ t.ah w v x:=by
 rcases hu.inv with ⟨z,rfl,h1⟩|⟨cs,l,rfl,rfl,h1⟩|h1
 .cases v with
  | any=>trivial
  | aH z' =>
   have:=kH (show Aa z z' from h);subst this;exact hu
  | _=>exact (show False from h).elim
 .cases v with
  | any=>trivial
  | agg vs=>exact⟨l,rfl,Iz (show LS ρ s t cs vs from h) h1⟩
  | _=>exact (show False from h).elim
 .cases u with
  | agg cs=>exact (show False from h1).elim
  | _=>exact (oB (show AV.wz ρ s t _ v by cases v<;>exact h) h1).a2W
theorem Wi{ρ:List (Nat×Nat)}:∀ {us vs:List AV} {l:List Value},a1M ρ s t us vs->aT (CR c G s.ah w) us l->aT (CR c ⟨G.S,gE G s t ρ,sR G s ρ⟩ t.ah w) vs l
 | [],[],[],_,_=>trivial
 | u::us,v::vs,x::l,h,hu=>by
  simp only[a1M] at h;split at h
  .exact⟨ae,Wi h hu.2⟩
  .exact⟨a7x h.1 hu.1,Wi h.2 hu.2⟩
 | [],_::_,_,h,_=>h.elim
 | _::_,[],_,h,_=>h.elim
 | [],[],_::_,_,h=>h.elim
 | _::_,_::_,[],_,h=>h.elim
theorem a3D{u v:FV}(h:a5c u v):u=v:=by
 unfold a5c at h;split at h
 .rename_i F hF;have:=FV.aU hF;rw[this,h]
 .exact h.elim
theorem a9y{ρ:List (Nat×Nat)}{x:Value}{u v:AV}(h:AV.fit ρ s t u v)(hu:VR c G s.ah w u x):VR c ⟨G.S,gE G s t ρ,sR G s ρ⟩ t.ah w v x:=by
 cases u with
 | agg us =>
  obtain⟨l,h1,h2⟩:=hu;cases v with
  | any=>trivial
  | agg vs=>exact⟨l,h1,Iz (show LS ρ s t us vs from h) h2⟩
  | aH z =>
   obtain⟨τ,q⟩:=z;simp only[AV.fit] at h;split at h
   .rename_i y hy;have hr:dV w G.S ⟨τ,y⟩ x:=O0 (c:=c) (G:=G) (lk:=s.ah) (w:=w) (x:=x) hy ⟨l,h1,h2⟩;have h':y=q:=h;show dV w G.S ⟨τ,q⟩ x;rw[<-h'];exact hr
   .exact h.elim
  | _=>exact (show False from h).elim
 | iS us =>
  cases v with
  | any=>trivial
  | _=>exact (show False from h).elim
 | aH z =>
  cases v with
  | any=>trivial
  | aH z' =>
   have:=kH (show Aa z z' from h);subst this;exact hu
  | _=>exact (show False from h).elim
 | dc f us =>
  obtain⟨l,h1,h2⟩:=hu;cases v with
  | any=>trivial
  | dc g vs =>
   simp only[AV.fit] at h;split at h
   .rename_i hb;have hb:=b4O hb;subst hb;exact⟨l,h1,Wi h h2⟩
   .exact h.elim
  | _=>exact (show False from h).elim
 | iF z =>
  cases v with
  | any=>trivial
  | iF z' =>
   have:=a3D (show a5c z z' from h);subst this;exact hu
  | _=>exact (show False from h).elim
 | any=>cases v<;>first|trivial|exact (show False from h).elim
 | ep=>cases v<;>first|trivial|exact (show False from h).elim
 | nil=>exact (oB (u := .nil) (show AV.wz ρ s t .nil v by cases v<;>exact h) (show C1 c G s.ah w .nil x from hu)).fU
 | cX z=>exact (oB (u := .cX z) (show AV.wz ρ s t (.cX z) v by cases v<;>exact h) (show C1 c G s.ah w (.cX z) x from hu)).fU
 | ptr i o=>exact (oB (u := .ptr i o) (show AV.wz ρ s t (.ptr i o) v by cases v<;>exact h) (show C1 c G s.ah w (.ptr i o) x from hu)).fU
 | row i=>exact (oB (u := .row i) (show AV.wz ρ s t (.row i) v by cases v<;>exact h) (show C1 c G s.ah w (.row i) x from hu)).fU
 | eH i k o=>exact (oB (u := .eH i k o) (show AV.wz ρ s t (.eH i k o) v by cases v<;>exact h) (show C1 c G s.ah w (.eH i k o) x from hu)).fU
 | fn f=>exact (oB (u := .fn f) (show AV.wz ρ s t (.fn f) v by cases v<;>exact h) (show C1 c G s.ah w (.fn f) x from hu)).fU
 | mp i=>exact (oB (u := .mp i) (show AV.wz ρ s t (.mp i) v by cases v<;>exact h) (show C1 c G s.ah w (.mp i) x from hu)).fU
 | av i=>exact (oB (u := .av i) (show AV.wz ρ s t (.av i) v by cases v<;>exact h) (show C1 c G s.ah w (.av i) x from hu)).fU
 | sub i k o z=>exact (oB (u := .sub i k o z) (show AV.wz ρ s t (.sub i k o z) v by cases v<;>exact h) (show C1 c G s.ah w (.sub i k o z) x from hu)).fU
 | eP i k o z=>exact (oB (u := .eP i k o z) (show AV.wz ρ s t (.eP i k o z) v by cases v<;>exact h) (show C1 c G s.ah w (.eP i k o z) x from hu)).fU
theorem E9{ρ:List (Nat×Nat)}:∀ {us vs:List AV},Dn ρ s t us vs->us.length=vs.length/\∀ i,vs.getD i .any = .any\/AV.fit ρ s t (us.getD i .any) (vs.getD i .any)
 | [],[],_=>⟨rfl,λ i => .inl (by simp)⟩
 | u::us,v::vs,h=>by
  simp only[Dn] at h;split at h
  .obtain⟨h1,h2⟩:=E9 h;refine⟨by simp[h1],λ i=>?_⟩;cases i with
   | zero=>exact .inl rfl
   | succ i=>simpa using h2 i
  .obtain⟨h1,h2⟩:=E9 h.2;refine⟨by simp[h1],λ i=>?_⟩;cases i with
   | zero=>exact .inr h.1
   | succ i=>simpa using h2 i
 | [],_::_,h=>h.elim
 | _::_,[],h=>h.elim
def a6U(bf:Ty)(ys:List bf.den)(τ:Ty)(xs:List τ.den):Prop:=∀ (w:World) (η:Value) (fp:List Nat),ie w η bf ys fp->ie w η τ xs fp
theorem a1h{bf:Ty}{ys:List bf.den}{τ:Ty}{xs:List τ.den}(h:a1g bf ys τ xs):a6U bf ys τ xs:=by
 unfold a1g at h;split at h
 .rename_i h1 h2;have h1:=b5E h1;have h2:=b5E h2;subst h1 h2;have h:=kH h;rw[TV.a3i] at h;cases h;intro w η fp hT;obtain⟨v,l,a,cap,q1,q2,q3,q4,q5,q6⟩:=hT;have e1:(List.map toO ys).length=ys.length:=b5g _;have e2:((show List J from ys).map toO).map (Ty.aP (.st .oExpr))=ys.map (Ty.aP (.st .expr)):=by
   rw[List.map_map];refine b8O λ x _=>?_;show aV.aP .oExpr (toO x)=aV.aP .expr x;rw[aV.cz,aV.cz];rfl
  refine⟨v,l,a,cap,q1,by rw[q2];exact congrArg (Value.slice a · cap) e1.symm,by exact e1 ▸ q3,q4,by exact e1 ▸ q5,?_⟩;rcases q6 with ⟨rfl,q7,q8⟩|⟨b,f,t,q7,q8,q9,q10,q11⟩
  .exact .inl ⟨rfl,q7,q8⟩
  .exact .inr ⟨b,f,t,q7,q8,q9,q10,e2 ▸ q11⟩
 .have h:=kH h;cases h;exact λ _ _ _ h=>h
def a9p(ρ:List (Nat×Nat))(s t:aj)(id:Nat):aB->Prop
 | .box bs=>∃ Z9,s.ah (dt ρ id)=some (.box Z9)/\LS ρ s t Z9 bs
 | .row e τ xs=>s.ah (dt ρ id)=some (.row e τ xs)\/(s.ah (dt ρ id)=none/\xs=[])
 | .av τ xs=>(∃ bf ys,s.ah (dt ρ id)=some (.av bf ys)/\a6U bf ys τ xs)\/(s.ah (dt ρ id)=none/\xs=[])
 | .map m=>s.ah (dt ρ id)=some (.map m)
theorem a2h{a b:MV}(h:a3X a b):a=b:=by
 unfold a3X at h;split at h
 .rename_i f n hf;rw[MV.aU hf];simp only;rw[h.1,h.2]
 .exact h.elim
theorem l5{ρ:List (Nat×Nat)}:∀ {l:List (Nat×aB)},kL ρ s t l->∀ id o,(id,o)∈l->a9p ρ s t id o
 | [],_,id,o,h=>by simp at h
 | (k, .box bs)::r,h,id,o,hm=>by
  simp only[kL] at h;split at h
  .rename_i Z9 ha;rcases b5h.1 hm with e|hm
   .simp only[b4P] at e;obtain⟨rfl,rfl⟩:=e;exact⟨Z9,ha,h.1⟩
   .exact l5 h.2 id o hm
  .exact h.elim
 | (k, .row e τ xs)::r,h,id,o,hm=>by
  simp only[kL] at h;split at h
  .rename_i e' bf ys ha;split at h
   .rename_i he;have he:=b4O he;subst he;rcases b5h.1 hm with e1|hm
    .simp only[b4P] at e1;obtain⟨rfl,rfl⟩:=e1;have:=kH h.1;cases this;exact .inl ha
    .exact l5 h.2 id o hm
   .exact h.elim
  .rename_i ha;rcases b5h.1 hm with e1|hm
   .simp only[b4P] at e1;obtain⟨rfl,rfl⟩:=e1;exact .inr ⟨ha,h.1⟩
   .exact l5 h.2 id o hm
  .exact h.elim
 | (k, .av τ xs)::r,h,id,o,hm=>by
  simp only[kL] at h;split at h
  .rename_i bf ys ha;rcases b5h.1 hm with e1|hm
   .simp only[b4P] at e1;obtain⟨rfl,rfl⟩:=e1;exact .inl ⟨bf,ys,ha,a1h h.1⟩
   .exact l5 h.2 id o hm
  .rename_i ha;rcases b5h.1 hm with e1|hm
   .simp only[b4P] at e1;obtain⟨rfl,rfl⟩:=e1;exact .inr ⟨ha,h.1⟩
   .exact l5 h.2 id o hm
  .exact h.elim
 | (k, .map m)::r,h,id,o,hm=>by
  simp only[kL] at h;split at h
  .rename_i m' ha;rcases b5h.1 hm with e1|hm
   .simp only[b4P] at e1;obtain⟨rfl,rfl⟩:=e1;rw[a2h h.1] at ha;exact ha
   .exact l5 h.2 id o hm
  .exact h.elim
theorem IB{ρ:List (Nat×Nat)}(h:Inv c G s a w)(hf:Fits ρ s t):∃ G',Inv c G' t a w:=by
 unfold Fits at hf;split at hf;case h_2=>exact hf.elim
 case h_1 hb =>
  rw[b4S] at hb;obtain⟨hb,hb4⟩:=hb;rw[b4S] at hb;obtain⟨hb,RZ⟩:=hb;simp only[b4S] at hb;obtain⟨hs,ho⟩:=hf;obtain⟨hlen,NK⟩:=E9 hs;have lF:=l5 ho;have ec:∀ id b,ef (gE G s t ρ id)=some b->∃ o,s.ah (dt ρ id)=some o/\ef (G.η (dt ρ id))=some b:=by
   intro id b hb;unfold gE at hb;split at hb
   .rename_i o ho;exact⟨o,ho,hb⟩
   .split at hb<;>cases hb
  refine⟨⟨G.S,gE G s t ρ,sR G s ρ⟩,?_⟩;exact {
   defers:=h.defers
   size:=h.size.trans hlen
   aR:=h.aR,jf:=h.jf,dT:=h.dT,sX:=h.sX,dB:=h.dB
   aC:=λ i=>by
    rcases NK i with e|e
    .rw[show t.sl i = .any from e];trivial
    .exact a9y e (h.aC i)
   aJ:=λ id o aY=>by
    have hof:=lF id o (fC aY);cases o with
    | box bs =>
     obtain⟨Z9,h1,h2⟩:=hof;obtain⟨b,l,ty,k1,k2,k3⟩:=h.aJ _ _ h1;refine⟨b,l,ty,?_,k2,Iz h2 k3⟩;simp only[gE,h1];exact k1
    | row e τ xs =>
     rcases hof with h1|⟨h1,rfl⟩
     .obtain⟨l,k1,k2,k3⟩:=h.aJ _ _ h1;refine⟨l,?_,k2,k3⟩;simp only[gE,h1];exact k1
     .refine⟨[],?_,rfl,by simp⟩;simp only[gE,h1,ti (show isRow (t.ah id)=true by rw[aY];rfl)];exact World.ownsRow_nil w 0 e τ.size
    | av τ xs=>trivial
    | map m =>
     have h1:s.ah (dt ρ id)=some (.map m):=hof;obtain⟨b,es,clock,k1,k2⟩:=h.aJ _ _ h1;refine⟨b,es,clock,?_,k2⟩;simp only[gE,h1];exact k1
   place:=λ id o b aY iG=>by
    obtain⟨o',h1,h2⟩:=ec id b iG;exact h.place _ _ b h1 h2
   apart:=λ id dy o o' b aY IP iG b3m=>by
    obtain⟨p,h1,h2⟩:=ec id b iG;obtain⟨p',h3,h4⟩:=ec dy b b3m;have:=h.apart _ _ _ _ b h1 h3 h2 h4;have Gd:=Ck (λ p:Nat×aB=>dt ρ p.1) (FH hb.2) (id,o) (fC aY) (dy,o') (fC IP) this;exact congrArg Prod.fst Gd
   aL:=by
    have Ql:∀ id b,b∈sR G s ρ id->(∃ o,s.ah (dt ρ id)=some o)/\b∈G.φ (dt ρ id):=λ id b cA=>by
     unfold sR at cA;split at cA
     .rename_i o ho;exact⟨⟨o,ho⟩,cA⟩
     .simp at cA
    have Hx:∀ id τ xs,t.ah id=some (.av τ xs)->(∃ bf ys,s.ah (dt ρ id)=some (.av bf ys)/\a6U bf ys τ xs)\/(s.ah (dt ρ id)=none/\xs=[]):=λ id τ xs aY=>lF id _ (fC aY);have eA:∀ id τ xs b,t.ah id=some (.av τ xs)->b∈sR G s ρ id->∃ bf ys,s.ah (dt ρ id)=some (.av bf ys)/\b∈G.φ (dt ρ id):=λ id τ xs b aY cA=>by
     obtain⟨⟨o,ho⟩,h2⟩:=Ql id b cA;rcases Hx id τ xs aY with ⟨bf,ys,h1,_⟩|⟨h1,_⟩
     .exact⟨bf,ys,h1,h2⟩
     .rw[h1] at ho;cases ho
    exact {
     tr:=λ id τ xs aY=>by
      rcases Hx id τ xs aY with ⟨bf,ys,h1,hle⟩|⟨h1,rfl⟩
      .simp only[gE,sR,h1];exact hle _ _ _ (h.aL.tr _ _ _ h1)
      .simp only[gE,sR,h1,show cx (t.ah id)=true by rw[aY];rfl];exact⟨_,[],none,0,rfl,rfl,by simp,by simp[maxLen],by simp, .inl ⟨rfl,⟨rfl,rfl⟩,rfl⟩⟩
     nd:=λ id τ xs aY=>by
      rcases Hx id τ xs aY with ⟨bf,ys,h1,_⟩|⟨h1,_⟩
      .simp only[sR,h1];exact h.aL.nd _ _ _ h1
      .simp only[sR,h1];exact b6b
     pl:=λ id τ xs b aY cA=>by
      obtain⟨_,_,h1,h2⟩:=eA id τ xs b aY cA;obtain⟨q1,q2,q3,q4⟩:=h.aL.pl _ _ _ b h1 h2;refine⟨q1,q2,q3,λ i o hi qp=>?_⟩;obtain⟨o',k1,k2⟩:=ec i b qp;exact q4 _ o' k1 k2
     ap:=λ id dy τ bf xs cS b aY IP yD Fg=>by
      obtain⟨_,_,h1,h2⟩:=eA id τ xs b aY yD;obtain⟨_,_,h3,h4⟩:=eA dy bf cS b IP Fg;have:=h.aL.ap _ _ _ _ _ _ b h1 h3 h2 h4;have Gd:=Ck (λ p:Nat×aB=>dt ρ p.1) (FH hb.2) (id, .av τ xs) (fC aY) (dy, .av bf cS) (fC IP) this;exact congrArg Prod.fst Gd }
   root:=λ id v hr ht=>by
    have hrg:=h.ic id v hr;match hl:t.ah id,ht with
    | some (.av τ xs),_ =>
     have hq:=b5F.1 RZ _ (fC hl);simp only[b6G,b4S,b8q,Nat.ble_eq] at hq;rcases hq with hq|hq|⟨Le,IT⟩
     .omega
     .omega
     .have Le:=Nat.eq_of_beq_eq_true Le;obtain⟨l,h2⟩:=h.root id v hr IT;refine⟨l,?_⟩;show gE G s t ρ id=_;unfold gE;rw[Le];match hs:s.ah id,IT with
      | some (.av ..),_=>exact h2
   ic:=h.ic
   dm:=λ id v hr ht=>by
    have hrg:=h.eN id v hr;match hl:t.ah id,ht with
    | some (.box cs),_ =>
     have hq:=b5F.1 hb4 _ (fC hl);simp only[gi,b4T,b8L,b6G,b4S,b8q] at hq;rcases hq with hq|⟨Le,IT⟩
     .omega
     .have Le:=Nat.eq_of_beq_eq_true Le;have h2:=h.dm id v hr IT;show gE G s t ρ id=_;unfold gE;rw[Le];match hs:s.ah id,IT with
      | some (.box ..),_=>exact h2
   eN:=h.eN }
theorem fw(hE:bF c.P c.E)(gH:c.P.follows .mixedOrders=true):∀ (dd:Code) (Λ:Nat->aA) (cur:Nat) (Q:Exit->aj->Prop) (G:Gh) (s:aj) (a:Act) (w:World),
  Inv c G s a w->p6 c.E dd Λ cur Q s->dd.wp c.P (λ e a w=>∃ G s,Inv c G s a w/\Q e s) a w
 | .skip,Λ,cur,Q,G,s,a,w,h,hr=>wp_skip ⟨G,s,h,hr⟩
 | .region id ops draw,Λ,cur,Q,G,s,a,w,h,hr=>by
  cases draw with
  | true=>exact VP hE gH (Q:=Q .normal) (λ G s a w hI hq=>⟨G,s,hI,hq⟩) h hr
  | false =>
   refine wp_region ?_;have:=BV hE (ops:=ops) (Q:=Q .normal) (Q':=λ e a w=>∃ G s,Inv c G s a w/\Q e s) (λ G s a w hI hq=>⟨G,s,hI,hq⟩) ops.toList 0 [] G s a w (by simp) h hr;rw[List.range_eq_range'];simpa using this
 | .seq x y,Λ,cur,Q,G,s,a,w,h,hr=>by
  simp only[p6] at hr;split at hr;case h_2 ι P μ fz dead ins aR os Z1 ren sub hL =>
   obtain⟨hx,hy⟩:=hr;refine wp_seq (b7P (fw hE gH x Λ cur _ G s a w h hx) ?_);rintro e a' w' ⟨G',s',hI,hq⟩;cases e with
   | normal =>
    obtain⟨j,hPj,hF⟩:=hq;obtain⟨G3,h3⟩:=hI.IC fz;obtain⟨G4,h4⟩:=IB h3 hF.ex.choose_spec;exact fw hE gH y (sub j) cur Q G4 _ a' w' h4 (hy j hPj)
   | _=>exact⟨G',s',hI,hq⟩
  refine wp_seq (b7P (fw hE gH x Λ cur _ G s a w h hr) ?_);rintro e a' w' ⟨G',s',hI,hq⟩;cases e with
  | normal=>exact fw hE gH y Λ cur Q G' s' a' w' hI hq
  | _=>exact⟨G',s',hI,hq⟩
 | .cond x p q,Λ,cur,Q,G,s,a,w,h,hr=>by
  simp only[p6] at hr;split at hr
  .rename_i t ht;have hx:=bp h x;rw[ht] at hx;have hx:[a.eval x]=[.bool t]:=hx;simp only[b4X,b5d] at hx;refine wp_cond hx ?_;cases t with
   | true=>exact fw hE gH p Λ cur Q G s a w h (hr.1 rfl)
   | false=>exact fw hE gH q Λ cur Q G s a w h (hr.2 rfl)
  .exact hr.elim
 | .block id x,Λ,cur,Q,G,s,a,w,h,hr=>by
  refine wp_block (b7P (fw hE gH x Λ id _ G s a w h hr) ?_);rintro e a' w' ⟨G',s',hI,hq⟩;cases e with
  | exit i =>
   simp only at hq;simp only[Exit.inBlock];split at hq
   .rename_i hi;rw[b5u (b4O hi)];exact⟨G',s',hI,hq⟩
   .rename_i hi;have:i≠id:=λ e=>by subst e;simp at hi
    rw[b4Z this];exact⟨G',s',hI,hq⟩
  | _=>exact⟨G',s',hI,hq⟩
 | .loop x,Λ,cur,Q,G,s,a,w,h,hr=>by
  simp only[p6] at hr;split at hr
  .exact hr.elim
  .rename_i ι P μ fz dead ins aR os Z1 ren sub hL;obtain⟨⟨i0,hP0,hF0⟩,a9H⟩:=hr;obtain⟨G1,h1⟩:=h.IC fz;obtain⟨G2,h2⟩:=IB h1 hF0.ex.choose_spec;refine wp_loop_ghost (λ n a w=>∃ i G,P i/\μ i=n/\Inv c G (sr s (dead++Code.EN x) (ins i) aR (os i)) a w) (μ i0) ⟨i0,G2,hP0,rfl,h2⟩ ?_;rintro n a' w' ⟨i,G',hP,rfl,hI⟩;refine b7P (fw hE gH x (sub i) cur _ G' _ a' w' hI (a9H i hP)) ?_;rintro e a'' w'' ⟨G'',s'',b0H,hq⟩;cases e with
   | normal =>
    obtain⟨j,hPj,bK,hF⟩:=hq;obtain⟨G3,h3⟩:=b0H.IC fz;obtain⟨G4,h4⟩:=IB h3 hF.ex.choose_spec;exact⟨μ j,bK,j,G4,hPj,rfl,h4⟩
   | _=>exact⟨G'',s'',b0H,hq⟩
 | .exit id,Λ,cur,Q,G,s,a,w,h,hr=>wp_exit ⟨G,s,h,hr⟩
 | .ret,Λ,cur,Q,G,s,a,w,h,hr=>wp_ret ⟨G,s,h,hr⟩
 | .label l,Λ,cur,Q,G,s,a,w,h,hr=>wp_label ⟨G,s,h,hr⟩
 | .rangeFunc ..,_,_,_,_,_,_,_,_,hr=>hr.elim
 | .scope ..,_,_,_,_,_,_,_,_,hr=>hr.elim
 | .goto ..,_,_,_,_,_,_,_,_,hr=>hr.elim
 | .refuse ..,_,_,_,_,_,_,_,_,hr=>hr.elim
end
theorem aT.replicate{α β:Type}{R:α->β->Prop}{a:α}{b:β}(mT:R a b):∀ n:Nat,aT R (List.replicate n a) (List.replicate n b)
 | 0=>trivial
 | n+1=>⟨mT,aT.replicate mT n⟩
theorem aT.pW{α β:Type}{R:α->β->Prop}{Z9:List α}{bs:List β}(h:aT R Z9 bs){a:α}{b:β}(mT:R a b)(n:Nat):aT R (Z9++List.replicate n a) (bs++List.replicate n b) :=
 h.append (aT.replicate mT n)
theorem aT.getD{α β:Type}{R:α->β->Prop}{d:α}{e:β}(hde:R d e):∀ {Z9:List α} {bs:List β},aT R Z9 bs->∀ i:Nat,R (Z9.getD i d) (bs.getD i e)
 | [],[],_,i=>by simpa using hde
 | a::Z9,b::bs,h,0=>h.1
 | a::Z9,b::bs,h,i+1=>by simpa using aT.getD hde h.2 i
 | [],_::_,h,_=>h.elim
 | _::_,[],h,_=>h.elim
section
variable {P:Program} {E:Env}
def a6P(P:Program)(w:World)(S:Nat->Prop):Arg->Value->Prop
 | .own _,_=>True
 | .box _,_=>True
 | a,x=>Ax P w S a x
theorem TZ{w:World}{S X:Nat->Prop}(hS:tm w S)(hX:∀ b,X b->b<w.heap.size/\¬ S b){fn:Func}{args:List Arg}{b9:List Value}(ha:aT (a6P P w S) args b9)(TI:(∀ b,¬ X b)\/∀ a∈args,a.Oz=true) :
  Inv ⟨P,E,w,X,S,λ _=>none,λ _=>False,λ _=>none⟩ ⟨S,λ _=>undef,λ _=>[]⟩ (dO fn args) { tmps:=b9.toArray++Array.replicate (fn.ntmps - b9.toArray.size) undef,defers:=[] } w:=by
 have hlen:=ha.length;have NK:∀ v x,v∈args->a6P P w S v x->VR ⟨P,E,w,X,S,λ _=>none,λ _=>False,λ _=>none⟩ ⟨S,λ _=>undef,λ _=>[]⟩ (dO fn args).ah w (BU v) x:=by
  intro v x hm h;cases v with
  | val v=>exact h
  | ref v =>
   obtain⟨b,o,cs,h1,h2,h3,h4⟩:=h;exact⟨b,o,cs,h1, .inr ⟨h2,TI.elim (λ q=>⟨q b,λ z=>z⟩) λ q=>absurd (q _ hm) (by simp[Arg.Oz])⟩,h3,h4⟩
  | fn f=>exact h
  | dc v =>
   obtain⟨f,eE,l,h1,h2,h3⟩:=h;refine⟨f,eE,l,h1,h2,h3.imp λ u y _ hy=>?_⟩;cases u with
   | val v=>exact hy
   | ref v =>
    obtain⟨b,o,cs,k1,k2,k3,k4⟩:=hy;exact⟨b,o,cs,k1, .inr ⟨k2,TI.elim (λ q=>⟨q b,λ z=>z⟩) λ q=>absurd (q _ hm) (by simp[Arg.Oz])⟩,k3,k4⟩
   | fn f=>exact hy
   | dc v=>exact hy.elim
   | own v=>exact hy.elim
   | box k=>exact hy.elim
  | own v=>trivial
  | box k=>trivial
 exact {
  defers:=rfl
  size:=by simp[dO,hlen]
  aR:=bD.refl _ _
  jf:=⟨λ b h=>(hX b h).1,λ g hg=>⟨(hS.2 g hg).1,λ q=>(hX g q).2 (hS.2 g hg).1,hS.1 g (hS.2 g hg).1,(hS.2 g hg).2⟩⟩
  dT:=λ b _ _=>b6P
  sX:=λ b hs=>hs
  dB:=hS.1
  aC:=λ i=>by
   have h1:aT (λ v x=>VR ⟨P,E,w,X,S,λ _=>none,λ _=>False,λ _=>none⟩ ⟨S,λ _=>undef,λ _=>[]⟩ (dO fn args).ah w v x) (args.map BU) b9:=aT.dZ _ (ha.imp λ v x hm h=>NK v x hm h);have h2:=aT.getD (d:=AV.any) (e:=undef) (show VR ⟨P,E,w,X,S,λ _=>none,λ _=>False,λ _=>none⟩ ⟨S,λ _=>undef,λ _=>[]⟩ (dO fn args).ah w .any undef from trivial) (h1.pW (a:=AV.any) (b:=undef) (show VR ⟨P,E,w,X,S,λ _=>none,λ _=>False,λ _=>none⟩ ⟨S,λ _=>undef,λ _=>[]⟩ (dO fn args).ah w .any undef from trivial) (fn.ntmps - args.length)) i;have e1:(dO fn args).sl i=(args.map BU++List.replicate (fn.ntmps - args.length) AV.any).getD i AV.any:=rfl;have e2:(b9.toArray++Array.replicate (fn.ntmps - b9.toArray.size) undef).getD i undef=(b9++List.replicate (fn.ntmps - args.length) undef).getD i undef:=by
    rw[b5I,b5b,<-b7Q];simp[hlen]
   rw[e1,e2];exact h2
  aJ:=λ id o h=>by cases h
  place:=λ id o b h=>by cases h
  apart:=λ id dy o o' b h=>by cases h
  aL:=⟨(λ id τ xs h=>by cases h),(λ id τ xs h=>by cases h),(λ id τ xs b h=>by cases h),(λ id dy τ bf xs cS b h=>by cases h)⟩
  root:=λ id v h=>by cases h
  ic:=λ id v h=>by cases h
  dm:=λ id v h=>by cases h
  eN:=λ id v h=>by cases h }
theorem a4D{w:World}{S:Nat->Prop}(hS:tm w S){fn:Func}{args:List Arg}{b9:List Value}(ha:aT (Ax P w S) args b9) :
  Inv ⟨P,E,w,λ _=>False,S,λ _=>none,λ _=>False,λ _=>none⟩ ⟨S,λ _=>undef,λ _=>[]⟩ (dO fn args) { tmps:=b9.toArray++Array.replicate (fn.ntmps - b9.toArray.size) undef,defers:=[] } w :=
 TZ hS (λ _ h=>h.elim) (ha.imp λ v x _ h=>by
  cases v with
  | own v=>trivial
  | box k=>exact h.elim
  | _=>exact h) (.inl λ _ h=>h)
def nv(tmps:Array Value):ResultVar->Sem Value
 | .tmp t=>pure (tmps.getD t undef)
 | .cell a t=>do loadVar t (<-asAddr (tmps.getD a undef))
theorem pL(fn:Func)(tmps:Array Value):results fn tmps=(do
  let vs <-fn.results.mapM (nv tmps)
  pure (if h:vs.size=1 then vs[0] else .tuple vs)):=by
 unfold results;congr 1
theorem Q2(hE:bF P E){c:Ctx}(hcP:c.P=P)(hcE:c.E=E){G:Gh}{s:aj}{a:Act}{w:World}(h:Inv c G s a w):∀ {rs:List ResultVar} {Ts:List TypeId} {vs:List TV},S5 E s rs Ts=some vs ->
  ∃ xs,(rs.mapM (nv a.tmps)).run P w = .ok xs w/\aT (dV w (SX G s.ah)) vs xs
 | [],[],vs,hr=>by
  simp only[S5,b4L] at hr;subst hr;exact⟨[],by simp,ae⟩
 | r::rs,T::Ts,vs,hr=>by
  simp only[S5] at hr;split at hr
  .rename_i τ q hT;split at hr
   .rename_i x hx;split at hr
    .rename_i l hl;simp only[b4L] at hr;subst hr;obtain⟨xs,h1,h2⟩:=Q2 hE hcP hcE h hl;cases r with
     | tmp t =>
      refine⟨a.tmps.getD t undef::xs,by simp[b7t,nv,h1],AA h.aL h.aJ (JB λ _ _ h=>h) hx (bp h (.tmp t)),h2⟩
     | cell p t =>
      simp only at hx;split at hx
      .rename_i hb;have hb:=Nat.eq_of_beq_eq_true hb;subst hb;unfold deref at hx;split at hx
       .rename_i u hu;obtain⟨b,o,cs,k1,k2,k3,k4⟩:=qL h.aJ (JB λ _ _ h=>h) hu (bp h (.tmp p));have cI:=jS hE hT k2 k3;have k1':a.tmps.getD p undef = .pointer (some ⟨b,o,none⟩):=k1;refine⟨Ls τ cs::xs,?_,AA h.aL h.aJ (JB λ _ _ h=>h) hx k4,h2⟩;simp only[Instr.loadAt,Instr.sureAddr,b5x,b5A,b5r] at cI;simp only[b7t,nv,k1',asAddr,b5x,b5A,b5r,cI,h1]
       .cases hx
      .cases hx
    .cases hr
   .cases hr
  .cases hr
 | [],_::_,_,hr=>by cases hr
 | _::_,[],_,hr=>by cases hr
theorem a8G{w:World}{S:Nat->Prop}:∀ {vs:List TV} {xs:List Value},aT (dV w S) vs xs->HS w S vs (if h:xs.toArray.size=1 then xs.toArray[0] else .tuple xs.toArray)
 | [],[],_=>⟨[],by simp,ae⟩
 | [v],[x],h=>by simpa [HS] using h.1
 | v::u::r,x::y::z,h=>⟨x::y::z,by simp,h⟩
 | [],_::_,h=>h.elim
 | _::_,[],h=>h.elim
 | [_],_::_::_,h=>h.2.elim
 | _::_::_,[_],h=>h.2.elim
theorem Zx(hE:bF P E)(gH:P.follows .mixedOrders=true){f:FuncId}{fn:Func}{dd:Code}(hf:P.funcs[f]?=some fn)(hb:fn.body=some dd)(Λ:Nat->aA){args:List Arg}{post:List TV->Prop}
  (h:p6 E dd Λ 0 (yy E fn post) (dO fn args)):gw P f args post:=by
 intro w S b9 hS ha;refine b8c hf hb ?_;have hinv:=a4D (P:=P) (E:=E) (fn:=fn) hS ha;refine b7P (fw (c:=⟨P,E,w,λ _=>False,S,λ _=>none,λ _=>False,λ _=>none⟩) hE gH dd Λ 0 _ _ _ _ w hinv h) ?_;have fin:∀ (e:Exit) (a:Act) (w':World),(e = .normal\/e = .ret)->(∃ G s,Inv ⟨P,E,w,λ _=>False,S,λ _=>none,λ _=>False,λ _=>none⟩ G s a w'/\yy E fn post e s) ->
   a.defers=[]/\∃ v,(results fn a.tmps).run P w' = .ok v w'/\∃ x S' res,Ending.returned v = .returned x/\post res/\bD (λ _=>False) w w'/\(∀ b,b<w.heap.size->(S' b↔S b))/\(∀ b,S' b->b<w'.heap.size)/\HS w' S' res x:=by
  rintro e a w' he ⟨G,s,hI,hp⟩;have Ld:∃ vs,S5 E s fn.results.toList fn.resultTypes.toList=some vs/\post vs:=by
   rcases he with rfl|rfl <;>
   .simp only[yy] at hp;split at hp
    .rename_i vs Cj;exact⟨vs,Cj,hp⟩
    .exact hp.elim
  obtain⟨vs,Cj,WL⟩:=Ld;obtain⟨xs,h1,h2⟩:=Q2 hE (c:=⟨P,E,w,λ _=>False,S,λ _=>none,λ _=>False,λ _=>none⟩) rfl rfl hI Cj;refine⟨hI.defers,(if h:xs.toArray.size=1 then xs.toArray[0] else .tuple xs.toArray),?_,_,SX G s.ah,vs,rfl,WL,hI.aR,λ b hb=>?_,λ b hb=>?_,a8G h2⟩
  .rw[pL,b6H];simp only[b5x,b8A,h1];rfl
  .constructor
   .rintro (hs|⟨id,e',τ,ys,aY,iG⟩|⟨id,τ,ys,aY,iG⟩)
    .exact (hI.dT b hb (λ q=>q)).1 hs
    .rcases (hI.place id _ b aY iG).1 with hge|hx
     .have:w.heap.size<=b:=hge;omega
     .exact hx.elim
    .rcases (hI.aL.pl id _ _ b aY iG).1 with hge|hx
     .have:w.heap.size<=b:=hge;omega
     .exact hx.elim
   .exact λ hs => .inl ((hI.dT b hb (λ q=>q)).2 hs)
  .rcases hb with hs|⟨id,e',τ,ys,aY,iG⟩|⟨id,τ,ys,aY,iG⟩
   .exact hI.dB b hs
   .exact (hI.place id _ b aY iG).2.2
   .exact (hI.aL.pl id _ _ b aY iG).2.2.1
 intro e a w' hq;cases e with
 | normal=>exact fin .normal a w' (.inl rfl) hq
 | ret=>exact fin .ret a w' (.inr rfl) hq
 | exit i=>obtain⟨_,_,_,hp⟩:=hq;exact hp.elim
 | goto l=>obtain⟨_,_,_,hp⟩:=hq;exact hp.elim
 | panic ch=>obtain⟨_,_,_,hp⟩:=hq;exact hp.elim
 | outgrown=>obtain⟨_,_,_,hp⟩:=hq;exact hp.elim
end
def uv(E:Env)(s:aj):List ResultVar->List TypeId->Option (List TV×List Nat)
 | [],[]=>some ([],[])
 | r::rs,T::Ts=>match ah E.ty T with
  | some (
      τ,_)=>match (match r with
    | .tmp t=>rh s.ah τ (s.eval (.tmp t))
    | .cell p t=>match Nat.beq t T with
     | true=>match s9 s.ah τ (s.eval (.tmp p)) with
      | some u=>rh s.ah τ u
      | none=>none
     | false=>none) with
   | some (x,i)=>match uv E s rs Ts with
    | some (l,j)=>some (⟨τ,x⟩::l,i++j)
    | none=>none
   | none=>none
  | none=>none
 | _,_=>none
def Ex(E:Env)(fn:Func)(post:List TV->Prop)(e:Exit)(s:aj):Prop :=
 match e with
 | .ret | .normal=>match uv E s fn.results.toList fn.resultTypes.toList with
  | some (vs,ids)=>match nodupB ids with
   | true=>post vs
   | false=>False
  | none=>False
 | _=>False
section
variable {P:Program} {E:Env}
theorem FP{c:Ctx}(hE:bF c.P c.E)(hcP:c.P=P)(hcE:c.E=E){G:Gh}{s:aj}{a:Act}{w:World}(h:Inv c G s a w):∀ {rs:List ResultVar} {Ts:List TypeId} {vs:List TV} {ids:List Nat},uv E s rs Ts=some (vs,ids)->ids.Nodup ->
  ∃ xs fp,(rs.mapM (nv a.tmps)).run P w = .ok xs w/\OP w vs xs fp/\fp.Nodup/\∀ b∈fp,wZ G s.ah ids b
 | [],[],vs,ids,hr,_=>by
  simp only[uv,b4L,b4P] at hr;obtain⟨rfl,rfl⟩:=hr;exact⟨[],[],by simp,rfl,b6b,by simp⟩
 | r::rs,T::Ts,vs,ids,hr,cR=>by
  simp only[uv] at hr;split at hr;case h_2=>cases hr
  case h_1 τ q hT =>
  split at hr;case h_2=>cases hr
  case h_1 x i hx =>
  split at hr;case h_2=>cases hr
  case h_1 l j hl =>
  simp only[b4L,b4P] at hr;obtain⟨rfl,rfl⟩:=hr;rw[b5s] at cR;obtain⟨n1,n2,n3⟩:=cR;obtain⟨xs,fp,h1,h2,h3,h4⟩:=FP hE hcP hcE h hl n2;cases r with
  | cell p t =>
   simp only at hx;split at hx;case h_2=>cases hx
   case h_1 hb =>
   have hb:=b4O hb;subst hb;split at hx;case h_2=>cases hx
   case h_1 u hu =>
   obtain⟨b,o,cs,q1,q2,q3,q4⟩:=qL h.aJ (λ _ _ h=>h) hu (bp h (.tmp p));subst hcP hcE;have cI:=jS hE hT q2 q3;have q1':a.tmps.getD p undef = .pointer (some ⟨b,o,none⟩):=q1;obtain⟨f1,k1,k2,k3⟩:=mz h hx q4 n1;refine⟨Ls τ cs::xs,f1++fp,?_,⟨f1,fp,rfl,k1,h2⟩,ei k2 h3 λ b hb cA=>h.iZ (k3 b hb) (h4 b cA) (λ x hx y hy=>n3 x hx y hy),λ b hb=>?_⟩
   .simp only[Instr.loadAt,Instr.sureAddr,b5x,b5A,b5r] at cI;simp only[b7t,nv,q1',asAddr,b5x,b5A,b5r,cI,h1]
   .rcases b4Q.1 hb with hb|hb
    .exact (k3 b hb).mono λ k hk=>by simp[hk]
    .exact (h4 b hb).mono λ k hk=>by simp[hk]
  | tmp t =>
   obtain⟨f1,k1,k2,k3⟩:=mz h hx (bp h (.tmp t)) n1;refine⟨a.tmps.getD t undef::xs,f1++fp,by simp[b7t,nv,h1],⟨f1,fp,rfl,k1,h2⟩,ei k2 h3 λ b hb cA=>h.iZ (k3 b hb) (h4 b cA) (λ x hx y hy=>n3 x hx y hy),λ b hb=>?_⟩;rcases b4Q.1 hb with hb|hb
   .exact (k3 b hb).mono λ k hk=>by simp[hk]
   .exact (h4 b hb).mono λ k hk=>by simp[hk]
 | [],_::_,_,_,hr,_=>by cases hr
 | _::_,[],_,_,hr,_=>by cases hr
theorem ZS{w:World}:∀ {vs:List TV} {xs:List Value} {fp:List Nat},OP w vs xs fp->uz w vs (if h:xs.toArray.size=1 then xs.toArray[0] else .tuple xs.toArray) fp
 | [],[],fp,h=>⟨[],by simp,h⟩
 | [v],[x],fp,h=>by
  obtain⟨f1,f2,rfl,h1,h2⟩:=h;have h2:f2=[]:=h2;subst h2;simpa [uz] using h1
 | v::u::r,x::y::z,fp,h=>⟨x::y::z,by simp,h⟩
 | [],_::_,_,h=>h.elim
 | _::_,[],_,h=>h.elim
 | [_],_::_::_,_,h=>by obtain⟨_,_,_,_,h⟩:=h;exact h.elim
 | _::_::_,[_],_,h=>by obtain⟨_,_,_,_,h⟩:=h;exact h.elim
theorem jK:∀ {us:List TV} {id:Nat} {p:Nat×aB},p∈bX id us->id<=p.1/\p.1<id+us.length
 | [],id,p,h=>by cases h
 | u::us,id,p,h=>by
  rcases b4Q.1 h with h|h
  .have:=TP h;simp only[b4Y];omega
  .have:=jK h;simp only[b4Y];omega
theorem mu:∀ {us:List TV} {id:Nat},((bX id us).map (·.1)).Nodup
 | [],id=>b6b
 | u::us,id=>by
  simp only[bX,b6F];refine ei ?_ mu λ x hx DE=>?_
  .obtain⟨τ,y⟩:=u;cases τ<;>simp[fJ]
  .obtain⟨p,hp,rfl⟩:=b4W.1 hx;obtain⟨q,hq,e⟩:=b4W.1 DE;have h1:=TP hp;have h2:=jK hq;omega
theorem a5Q(v:TV):v.cells.length<=100:=by
 obtain⟨τ,y⟩:=v;cases τ with
 | st s =>
  show (s.cells y).length<=100;rw[aV.iV];exact Ty.size_le (.st s)
 | _=>exact Nat.succ_le_of_lt (Nat.zero_lt_of_lt (by decide:0<100))
theorem CD{c:Ctx}{a:Act}{w:World}{S:Nat->Prop}(hR:∀ j,c.R j=none):∀ {Z9:List Arg} {xs:List Value} {fp:List Nat} {p:Nat} {G:Gh} {s:aj},Inv c G s a w->uy P w S Z9 xs fp->fp.Nodup->Fr c G s.ah w fp ->
  (∀ i x,xs[i]?=some x->a.tmps.getD (p+i) undef=x)->p+Z9.length<=s.aC.length->(∀ id o,s.ah id=some o->id<1000000+100 * p)->∃ G',Inv c G' (sS p Z9 s) a w
 | [],xs,fp,p,G,s,h,_,_,_,_,_,_=>⟨G,h⟩
 | b::Z9,[],fp,p,G,s,h,hA,_,_,_,_,_=>hA.elim
 | b::Z9,x::xs,fp,p,G,s,h,hA,cR,hF,hx,hlen,aY=>by
  obtain⟨f1,f2,rfl,hb,hA⟩:=hA;rw[b5s] at cR;obtain⟨n1,n2,n3⟩:=cR;simp only[b4Y] at hlen;have DE:∀ i y,xs[i]?=some y->a.tmps.getD (p+1+i) undef=y:=λ i y hi=>by
   have:=hx (i+1) y (by simpa using hi);rwa [show p+(i+1)=p+1+i by omega] at this
  have other:f1=[]->sS p (b::Z9) s=sS (p+1) Z9 s->∃ G',Inv c G' (sS p (b::Z9) s) a w:=λ hf e=>by
   subst hf;rw[e];exact CD hR h hA n2 (λ q hq=>hF q (by simp[hq])) DE (by omega) λ id o ho=>by have:=aY id o ho;omega
  cases b with
  | own v =>
   have hO:xH w v x f1:=hb;obtain⟨G1,qK,l1,i1,e1,t1,fr1⟩:=bw.OU (id:=1000000+100 * p) h hO n1 (λ q hq=>hF q (by simp[hq]))
    (λ q hq=>by
     cases IT:s.ah q.1 with
     | none=>rfl
     | some o=>have h1:=aY _ o IT;have h2:=jK hq;omega) mu (λ j _=>hR j)
   have ct:aj.ah { aC:=s.aC.set p (eZ (1000000+100 * p) v),aJ:=bX (1000000+100 * p) v.cells++s.aJ }=qK:=by
    funext i;rw[l1 i];exact pF _ _ i
   have hI:Inv c G1 { aC:=s.aC.set p (eZ (1000000+100 * p) v),aJ:=bX (1000000+100 * p) v.cells++s.aJ } a w:=by
    unfold Inv;rw[ct,show aj.sl { aC:=s.aC.set p (eZ (1000000+100 * p) v),aJ:=bX (1000000+100 * p) v.cells++s.aJ }=jV s.aC.length s.sl (some p) (eZ (1000000+100 * p) v) from re s.aC p _ _,
     show ({ aC:=s.aC.set p (eZ (1000000+100 * p) v),aJ:=bX (1000000+100 * p) v.cells++s.aJ }:aj).aC.length=s.aC.length from by simp]
    exact { i1 with
     aC:=λ i=>by
      unfold jV;split
      .rename_i hi;obtain⟨e,_⟩:=hi;simp only[b4L] at e;subst e;rw[show a.tmps.getD p undef=x from hx 0 x rfl];exact t1.fU
      .exact i1.aC i }
   obtain⟨G2,h2⟩:=CD hR hI hA n2 (by
    rw[ct];exact fr1 f2 (λ q hq=>hF q (by simp[hq])) λ q hq YE=>n3 q YE q hq rfl) DE (by simp;omega) (λ id o ho=>by
     rw[ct,l1 id] at ho;unfold gj at ho;split at ho
     .rename_i o' cP;have h1:=jK (fC cP);have h2:=a5Q v;simp only at h1;omega
     .have:=aY id o ho;omega)
   exact⟨G2,h2⟩
  | val v=>exact other hb.1 rfl
  | ref v=>exact other hb.1 rfl
  | fn v=>exact other hb.1 rfl
  | dc v=>exact other hb.1 rfl
  | box k=>exact other hb.1 rfl
theorem uy.dJ{w:World}{S:Nat->Prop}:∀ {Z9:List Arg} {xs:List Value} {fp:List Nat},uy P w S Z9 xs fp->aT (a6P P w S) Z9 xs
 | [],[],_,_=>trivial
 | a::Z9,x::xs,_,h=>by
  obtain⟨f1,f2,_,h1,h2⟩:=h;refine⟨?_,uy.dJ h2⟩;cases a with
  | own v=>trivial
  | box k=>exact h1.2.elim
  | _=>exact h1.2
 | [],_::_,_,h=>h.elim
 | _::_,[],_,h=>h.elim
theorem a2R{w:World}{S:Nat->Prop}(hS:tm w S){fn:Func}{args:List Arg}{b9:List Value}{fa:List Nat}(ha:uy P w S args b9 fa)(TI:fa=[]\/∀ a∈args,a.Oz=true)(cR:fa.Nodup)(Fk:∀ b∈fa,b<w.heap.size/\¬ S b) :
  ∃ G,Inv ⟨P,E,w,λ b=>b∈fa,S,λ _=>none,λ _=>False,λ _=>none⟩ G (Rf fn args) { tmps:=b9.toArray++Array.replicate (fn.ntmps - b9.toArray.size) undef,defers:=[] } w:=by
 have h0:=TZ (P:=P) (E:=E) (fn:=fn) hS (X:=λ b=>b∈fa) Fk ha.dJ (TI.imp_left λ e b hb=>by rw[e] at hb;cases hb);have hlen:=ha.dJ.length;refine CD (S:=S) (λ _=>rfl) h0 ha cR (λ b hb=>⟨.inr hb,(Fk b hb).2,(Fk b hb).1,λ i o h=>(by cases h),λ j τ xs h=>by cases h⟩) (λ i x hi=>?_) (by simp[dO]<;>omega) (λ id o h=>by cases h);rw[Nat.zero_add,Array.getD_eq_getD_getElem?,Array.getElem?_append_left (by simpa using (List.getElem?_eq_some_iff.1 hi).1)];simp[hi]
theorem LU(hE:bF P E)(gH:P.follows .mixedOrders=true){f:FuncId}{fn:Func}{dd:Code}(hf:P.funcs[f]?=some fn)(hb:fn.body=some dd)(Λ:Nat->aA){args:List Arg}{res:List TV}{post:List TV->Prop}(WL:∀ vs,post vs->vs=res)
  (h:p6 E dd Λ 0 (Ex E fn post) (Rf fn args)):pT P f args res:=by
 intro w S b9 fa hS ha TI l7 Fk;refine b8c hf hb ?_;obtain⟨G0,hinv⟩:=a2R (P:=P) (E:=E) (fn:=fn) hS ha TI l7 Fk;refine b7P (fw (c:=⟨P,E,w,λ b=>b∈fa,S,λ _=>none,λ _=>False,λ _=>none⟩) hE gH dd Λ 0 _ _ _ _ w hinv h) ?_;have fin:∀ (e:Exit) (a:Act) (w':World),(e = .normal\/e = .ret)->(∃ G s,Inv ⟨P,E,w,λ b=>b∈fa,S,λ _=>none,λ _=>False,λ _=>none⟩ G s a w'/\Ex E fn post e s) ->
   a.defers=[]/\∃ v,(results fn a.tmps).run P w' = .ok v w'/\∃ x fp,Ending.returned v = .returned x/\bD (λ b=>b∈fa) w w'/\uz w' res x fp/\fp.Nodup/\∀ b∈fp,b∈fa\/(w.heap.size<=b/\b<w'.heap.size):=by
  rintro e a w' he ⟨G,s,hI,hp⟩;have Ld:∃ vs ids,uv E s fn.results.toList fn.resultTypes.toList=some (vs,ids)/\ids.Nodup/\vs=res:=by
   rcases he with rfl|rfl <;>
   .simp only[Ex] at hp;split at hp
    .rename_i vs ids Cj;split at hp
     .rename_i hn;exact⟨vs,ids,Cj,cW hn,WL vs hp⟩
     .exact hp.elim
    .exact hp.elim
  obtain⟨vs,ids,Cj,hn,rfl⟩:=Ld;obtain⟨xs,fp,h1,h2,h3,h4⟩:=FP (P:=P) (E:=E) (c:=⟨P,E,w,λ b=>b∈fa,S,λ _=>none,λ _=>False,λ _=>none⟩) hE rfl rfl hI Cj hn;refine⟨hI.defers,(if h:xs.toArray.size=1 then xs.toArray[0] else .tuple xs.toArray),?_,_,fp,rfl,hI.aR,ZS h2,h3,λ b hb=>?_⟩
  .rw[pL,b6H];simp only[b5x,b8A,h1];rfl
  .obtain⟨id,hi,hq⟩:=h4 b hb;rcases hq with ⟨τ,ys,q1,q2⟩|⟨e',τ,ys,q1,q2⟩
   .obtain⟨p1,_,p3,_⟩:=hI.aL.pl id τ ys b q1 q2;exact p1.elim (λ q => .inr ⟨q,p3⟩) .inl
   .obtain⟨p1,_,p3⟩:=hI.place id _ b q1 q2;exact p1.elim (λ q => .inr ⟨q,p3⟩) .inl
 intro e a w' hq;cases e with
 | normal=>exact fin .normal a w' (.inl rfl) hq
 | ret=>exact fin .ret a w' (.inr rfl) hq
 | exit i=>obtain⟨_,_,_,hp⟩:=hq;exact hp.elim
 | goto l=>obtain⟨_,_,_,hp⟩:=hq;exact hp.elim
 | panic ch=>obtain⟨_,_,_,hp⟩:=hq;exact hp.elim
 | outgrown=>obtain⟨_,_,_,hp⟩:=hq;exact hp.elim
theorem C1.reR{c:Ctx}{G:Gh}{lk:Nat->Option aB}{w:World}{v:AV}{x:Value}(h:C1 c G lk w v x)(R:Nat->Option Value):C1 { c with R:=R } G lk w v x:=by
 cases v<;>exact h
theorem TR.reR{c:Ctx}{G:Gh}{lk:Nat->Option aB}{w:World}{v:AV}{x:Value}(h:TR c G lk w v x)(R:Nat->Option Value):TR { c with R:=R } G lk w v x:=by
 cases v with
 | agg cs =>
  obtain⟨l,h1,h2⟩:=h;exact⟨l,h1,h2.imp λ u y _ hy=>hy.reR R⟩
 | av i=>exact C1.reR (c:=c) (w:=w) (v := .av i) h R
 | cX v=>exact C1.reR (c:=c) (w:=w) (lk:=lk) (v := .cX v) h R
 | _=>exact h
def jb(fn:Func)(v:TV)(k:Int):aj:={ aC:=eZ 50 v :: .aH ⟨.int .i64,k⟩::List.replicate (fn.ntmps - 2) .any,aJ:=bX 50 v.cells }
def D9(fn:Func)(m:CI)(x:m.τ.den)(k:Int)(e:Exit)(s:aj):Prop :=
 match e with
 | .ret | .normal=>match fn.results.toList with
  | [.tmp t]=>match s.eval (.tmp t),rh s.ah m.τ (eZ 50 ⟨m.τ,x⟩) with
   | .aH ⟨.int .i64,n⟩,some (x',ids)=>match nodupB ids&&ids.all λ id=>cx (s.ah id) with
    | true=>n=(m.g x k).2.2/\x'=(m.g x k).2.1
    | false=>False
   | _,_=>False
  | _=>False
 | _=>False
theorem PF{c c0:Ctx}{G G0:Gh}{lk lk0:Nat->Option aB}{w w':World}(WO:∀ j v,cx (lk0 j)=true->(∃ l,G0.η j = .tuple (v::l).toArray)->50<=j->cx (lk j)=true->∃ l,G.η j = .tuple (v::l).toArray) :
  ∀ {us:List TV} {id:Nat} {ts:List Ty} {us':List TV} {ids:List Nat} {l:List Value},50<=id->(∀ u∈us,u.τ.agg=false)->aT (C1 c0 G0 lk0 w) (cb id us) l->tg lk (cb id us) ts=some (us',ids)->aT (C1 c G lk w') (cb id us) l
 | [],id,ts,us',ids,l,_,_,h,_=>by
  match l,h with
  | [],_=>trivial
 | u::us,id,ts,us',ids,l,aY,hu,h,ht=>by
  match l,h,ts,ht with
  | v::l,h,t::ts,ht =>
   simp only[cb,tg] at ht;split at ht;case h_2=>cases ht
   case h_1 x i hx =>
   split at ht;case h_2=>cases ht
   case h_1 r j hr =>
   refine⟨?_,PF WO (by omega) (λ u hu'=>hu u (by simp[hu'])) h.2 hr⟩;have h1:=h.1;obtain⟨τ,y⟩:=u;cases τ with
   | slice t' =>
    obtain⟨q1,q2,q3,q4⟩:=h1;have hT:cx (lk id)=true:=by
     simp only[iQ,ea] at hx;split at hx
     .rename_i hl;rw[hl];rfl
     .cases hx
    obtain⟨l',mV⟩:=WO id v q1 ⟨q2,q3⟩ aY hT;exact⟨hT,l',mV,q4⟩
   | st s=>exact absurd (hu ⟨.st s,y⟩ (by simp)) (by simp[Ty.agg])
   | mv t'=>exact trivial
   | ptr=>exact⟨rfl,h1.2⟩
   | int k=>exact⟨rfl,h1.2⟩
   | bool=>exact⟨rfl,h1.2⟩
   | str=>exact⟨rfl,h1.2⟩
theorem Wk(hE:bF P E)(gH:P.follows .mixedOrders=true){f:FuncId}{fn:Func}{dd:Code}(hf:P.funcs[f]?=some fn)(hb:fn.body=some dd){m:CI}(Λ:m.τ.den->Int->Nat->aA)
  (Fi:∀ x:m.τ.den,(TV.cells ⟨m.τ,x⟩).length<=50) (hn:2<=fn.ntmps) (h:∀ (x:m.τ.den) (k:Int),(m.g x k).1.ok->O k->p6 E dd (Λ x k) 0 (D9 fn m x k) (jb fn ⟨m.τ,x⟩ k)):J2 P f m:=by
 intro x k w v fp yI hk hG hO cR bK;refine b8c hf hb ?_;have h0:bw ⟨P,E,w,λ b=>b∈fp,λ b=>b<w.heap.size/\b∉fp,λ _=>none,λ _=>False,λ _=>none⟩ ⟨λ b=>b<w.heap.size/\b∉fp,λ _=>undef,λ _=>[]⟩ (λ _ => .any) (jb fn ⟨m.τ,x⟩ k).aC.length (λ _=>none) { tmps := #[v, .int .i64 k]++Array.replicate (fn.ntmps - 2) undef,defers:=[] } w:={
  defers:=rfl
  size:=by simp[jb];omega
  aR:=bD.refl _ _
  jf:=⟨bK,λ g hg=>⟨(hG g hg).1,(hG g hg).1.2,(hG g hg).1.1,(hG g hg).2⟩⟩
  dT:=λ b _ _=>b6P
  sX:=λ b h=>h
  dB:=λ b h=>h.1
  aC:=λ _=>trivial
  aJ:=λ id o h=>by cases h
  place:=λ id o b h=>by cases h
  apart:=λ id dy o o' b h=>by cases h
  aL:=⟨(λ id τ xs h=>by cases h),(λ id τ xs h=>by cases h),(λ id τ xs b h=>by cases h),(λ id dy τ bf xs cS b h=>by cases h)⟩
  root:=λ id v h=>by cases h
  ic:=λ id v h=>by cases h
  dm:=λ id v h=>by cases h
  eN:=λ id v h=>by cases h }
 obtain⟨G1,qK,l1,i1,e1,t1,_⟩:=h0.OU (id:=50) hO cR (λ b hb=>⟨.inr hb,λ h=>h.2 hb,bK b hb,λ i o h=>(by cases h),λ j τ xs h=>by cases h⟩) (λ _ _=>rfl) mu (λ _ _=>rfl);have Qg:(jb fn ⟨m.τ,x⟩ k).ah=qK:=by
  funext i;rw[l1 i];unfold gj jb aj.ah;cases ah (bX 50 (TV.cells ⟨m.τ,x⟩)) i<;>rfl
 let R:Nat->Option Value:=λ id=>match cx (qK id),G1.η id with
  | true, .tuple arr=>arr[0]?
  | _,_=>none
 have hR:∀ id v',R id=some v'->cx (qK id)=true/\∃ l,G1.η id = .tuple (v'::l).toArray:=by
  intro id v' hr;simp only[R] at hr;split at hr
  .rename_i arr ht ec;refine⟨ht,?_⟩;rw[ec];have hl:arr.toList[0]?=some v':=by simpa using hr
   match hq:arr.toList,hl with
   | a0::l,hl =>
    simp at hl;subst hl;exact⟨l,by rw[<-hq]⟩
  .cases hr
 have hinv:Inv ⟨P,E,w,λ b=>b∈fp,λ b=>b<w.heap.size/\b∉fp,R,λ _=>False,λ _=>none⟩ G1 (jb fn ⟨m.τ,x⟩ k) { tmps := #[v, .int .i64 k]++Array.replicate (fn.ntmps - 2) undef,defers:=[] } w:=by
  unfold Inv;rw[Qg];exact {
   defers:=i1.defers,size:=i1.size,aR:=i1.aR,jf:=i1.jf,dT:=i1.dT,sX:=i1.sX,dB:=i1.dB
   aC:=λ i=>by
    match i with
    | 0 =>
     have e:(#[v,Value.int .i64 k]++Array.replicate (fn.ntmps - 2) undef).getD 0 undef=v:=by
      rw[b5I,b8j (by simp)];rfl
     show VR _ _ _ _ (eZ 50 ⟨m.τ,x⟩) ((#[v,Value.int .i64 k]++Array.replicate (fn.ntmps - 2) undef).getD 0 undef);rw[e];exact (t1.reR R).fU
    | 1 =>
     have e:(#[v,Value.int .i64 k]++Array.replicate (fn.ntmps - 2) undef).getD 1 undef = .int .i64 k:=by
      rw[b5I,b8j (by simp)];rfl
     show VR _ _ _ _ (.aH ⟨.int .i64,k⟩) ((#[v,Value.int .i64 k]++Array.replicate (fn.ntmps - 2) undef).getD 1 undef);rw[e];exact Q0 hk
    | i+2 =>
     have:(jb fn ⟨m.τ,x⟩ k).sl (i+2) = .any:=by
      simp only[aj.sl,jb,List.getD_cons_succ];rw[b5b,List.getElem?_replicate];split<;>rfl
     rw[this];trivial
   aJ:=i1.aJ,place:=i1.place,apart:=i1.apart
   aL:=⟨i1.aL.tr,i1.aL.nd,i1.aL.pl,i1.aL.ap⟩
   root:=λ id v' hr ht=>(hR id v' hr).2
   dm:=λ id b hr=>by cases hr
   eN:=λ id b hr=>by cases hr
   ic:=λ id v' hr=>by
    obtain⟨ht,_⟩:=hR id v' hr;rw[l1 id] at ht;unfold gj at ht;split at ht
    .rename_i o ho;have:=jK (fC ho);have:=Fi x;simp only at *
     omega
    .cases ht }
 refine b7P (fw (c:=⟨P,E,w,λ b=>b∈fp,λ b=>b<w.heap.size/\b∉fp,R,λ _=>False,λ _=>none⟩) hE gH dd (Λ x k) 0 _ _ _ _ w hinv (h x k yI hk)) ?_;have fin:∀ (e:Exit) (a:Act) (w':World),(e = .normal\/e = .ret)->(∃ G s,Inv ⟨P,E,w,λ b=>b∈fp,λ b=>b<w.heap.size/\b∉fp,R,λ _=>False,λ _=>none⟩ G s a w'/\D9 fn m x k e s) ->
   a.defers=[]/\∃ u,(results fn a.tmps).run P w' = .ok u w'/\Ending.returned u = .returned (.int .i64 (m.g x k).2.2)/\O (m.g x k).2.2/\bD (λ b=>b∈fp) w w'/\∃ mP,xH w' ⟨m.τ,(m.g x k).2.1⟩ v mP/\mP.Nodup/\∀ b∈mP,b∈fp\/(w.heap.size<=b/\b<w'.heap.size):=by
  rintro e a w' he ⟨G,s,hI,hp⟩;have Ld:∃ t n x' ids,fn.results.toList=[.tmp t]/\s.eval (.tmp t) = .aH ⟨.int .i64,n⟩/\rh s.ah m.τ (eZ 50 ⟨m.τ,x⟩)=some (x',ids)/\ids.Nodup/\(∀ id∈ids,cx (s.ah id)=true)/\n=(m.g x k).2.2/\x'=(m.g x k).2.1:=by
   rcases he with rfl|rfl <;>
   .simp only[D9] at hp;split at hp
    .rename_i t ht;split at hp
     .rename_i n x' ids h1 h2;split at hp
      .rename_i hb;simp only[b4S,b5F] at hb;exact⟨t,n,x',ids,ht,h1,h2,cW hb.1,hb.2,hp⟩
      .exact hp.elim
     .exact hp.elim
    .exact hp.elim
  obtain⟨t,n,x',ids,r1,r2,r3,r4,r5,rfl,rfl⟩:=Ld;have cU:=bp hI (.tmp t);rw[r2] at cU;obtain⟨q1,q2⟩:=a0C cU;have WO:∀ j v',cx (qK j)=true->(∃ l,G1.η j = .tuple (v'::l).toArray)->50<=j->cx (s.ah j)=true->∃ l,G.η j = .tuple (v'::l).toArray:=by
   rintro j v' ht ⟨l,hl⟩ _ Up;exact hI.root j v' (by simp only[R,ht,hl];rfl) Up
  have Uq:VR ⟨P,E,w,λ b=>b∈fp,λ b=>b<w.heap.size/\b∉fp,R,λ _=>False,λ _=>none⟩ G s.ah w' (eZ 50 ⟨m.τ,x⟩) v:=by
   obtain⟨LC,g⟩:=m;cases LC with
   | st st =>
    obtain⟨l,hl,hc⟩:=t1;refine⟨l,hl,?_⟩;simp only[eZ,rh] at r3;split at r3;case h_2=>cases r3
    case h_1 us i hus =>
    exact PF WO (b5w _) (Mt st x) hc hus
   | mv t'=>exact trivial
   | slice t' =>
    obtain⟨q1,q2,q3,q4⟩:=t1;have hT:cx (s.ah 50)=true:=by
     simp only[eZ,iQ,rh,ea] at r3;split at r3
     .rename_i hl;rw[hl];rfl
     .cases r3
    obtain⟨l',mV⟩:=WO 50 v q1 ⟨q2,q3⟩ (b5w _) hT;exact⟨hT,l',mV,q4⟩
   | ptr=>exact t1
   | int k=>exact t1
   | bool=>exact t1
   | str=>exact t1
  obtain⟨mP,o1,o2,o3⟩:=mz hI r3 Uq r4;have TH:(results fn a.tmps).run P w' = .ok (a.tmps.getD t undef) w':=by
   rw[pL,b6H,r1];simp[nv]
  refine⟨hI.defers,_,TH,by rw[show a.tmps.getD t undef=_ from q1],q2,hI.aR,mP,o1,o2,λ b hb=>?_⟩;obtain⟨id,hi,hq⟩:=o3 b hb;rcases hq with ⟨τ,ys,q1,q2⟩|⟨e',τ,ys,q1,q2⟩
  .obtain⟨p1,_,p3,_⟩:=hI.aL.pl id τ ys b q1 q2;exact p1.elim (λ q => .inr ⟨q,p3⟩) .inl
  .have:=r5 id hi;rw[q1] at this;cases this
 intro e a w' hq;cases e with
 | normal=>exact fin .normal a w' (.inl rfl) hq
 | ret=>exact fin .ret a w' (.inr rfl) hq
 | exit i=>obtain⟨_,_,_,hp⟩:=hq;exact hp.elim
 | goto l=>obtain⟨_,_,_,hp⟩:=hq;exact hp.elim
 | panic ch=>obtain⟨_,_,_,hp⟩:=hq;exact hp.elim
 | outgrown=>obtain⟨_,_,_,hp⟩:=hq;exact hp.elim
end
def l9:List CK->List TV->Nat->List AV
 | .d _::ks,v::ds,n => .aH v::l9 ks ds n
 | .o _::ks,v::ds,n=>iQ n v::l9 ks ds (n+1)
 | .p j::ks,ds,n => .ptr (400000+j) 0::l9 ks ds n
 | _,_,_=>[]
def l8:Nat->List (List CK)->List (List TV)->Nat->List (Nat×aB)
 | k,ks::sh,ds::bN,n=>(400000+k, .box (l9 ks ds n))::l8 (k+1) sh bN (n+(dG ks ds).length)
 | _,_,_,_=>[]
def km:List (List CK)->List (List TV)->List TV
 | ks::sh,ds::bN=>dG ks ds++km sh bN
 | _,_=>[]
def a0e:Arg->AV
 | .box k => .ptr (400000+k) 0
 | a=>BU a
def ed(fn:Func)(args:List Arg)(sh:List (List CK))(bN:List (List TV)):aj :=
 { aC:=args.map a0e++List.replicate (fn.ntmps - args.length) .any,aJ:=l8 0 sh bN 1000000++bX 1000000 (km sh bN) }
def idM(n:Nat):List (Nat×Nat):=(List.range n).map λ k=>(k,400000+k)
def Ko(E:Env)(fn:Func)(sh:List (List CK))(post:List TV->List (List TV)->Prop)(e:Exit)(s:aj):Prop :=
 match e with
 | .ret | .normal=>match uv E s fn.results.toList fn.resultTypes.toList with
  | some (vs,ids)=>match je s.ah sh 0 (idM sh.length) with
   | some (bN,IW,m)=>match nodupB (ids++IW)&&Nat.beq m.length sh.length with
    | true=>post vs bN
    | false=>False
   | none=>False
  | none=>False
 | _=>False
theorem a6j:∀ (n:Nat) (k:Nat),ah (idM n) k=if k<n then some (400000+k) else none:=by
 intro n k;have key:∀ (l:List Nat),l.Nodup->ah (l.map λ k=>(k,400000+k)) k=if k∈l then some (400000+k) else none:=by
  intro l;induction l with
  | nil=>intro _;rfl
  | cons j l ih =>
   intro hn;simp only[b5G] at hn;rw[b5J,pG,ih hn.2];by_cases hk:k=j
   .subst hk;simp
   .simp[hk]
 rw[idM,key _ b7N];simp
section
variable {P:Program} {E:Env}
theorem Zf{w:World}{S:Nat->Prop}{B:Nat->Nat}:∀ {sh:List (List CK)} {k:Nat} {bN:List (List TV)} {n:Nat} {fa:List Nat},fF w S B k sh bN fa ->
  ∃ xs,cT w ((km sh bN).map TV.aP) xs fa/\(∀ u∈km sh bN,u.τ.agg=false) /\
   ∀ p∈l8 k sh bN n,∃ j cs l t,p=(400000+j, .box cs)/\k<=j/\j<k+sh.length/\w.heap[B j]?=some (.cells l.toArray t (0,0))/\l.length=cs.length /\
    ∀ (c:Ctx) (G:Gh) (lk:Nat->Option aB) (N:Nat),(∀ b,S b->G.S b)->(∀ j,j<N->G.η (400000+j) = .pointer (some ⟨B j,0,none⟩)/\gi (lk (400000+j))=true)->(∀ ks∈sh,∀ j,CK.p j∈ks->j<N) ->
     aT (C1 c G lk w) (cb n (km sh bN)) xs->aT (C1 c G lk w) cs l
 | [],k,[],n,fa,h=>⟨[],⟨rfl,h⟩,by simp[km],by simp[l8]⟩
 | ks::sh,k,ds::bN,n,fa,h=>by
  obtain⟨l,t,f1,f2,rfl,hw,hB,hbs⟩:=h;obtain⟨xs,q1,q2,q3⟩:=Zf (n:=n+(dG ks ds).length) hbs;obtain⟨o1,o2,o3⟩:=hB.wX;have hlen:∀ (us:List TV) (n:Nat),(cb n us).length=us.length:=λ us=>by
   induction us with
   | nil=>intro n;rfl
   | cons u us ih=>intro n;simp[cb,ih]
  have Fj:∀ {ks:List CK} {ds:List TV} {l:List Value} {fp:List Nat} {n:Nat},jg w S B ks ds l fp->l.length=(l9 ks ds n).length:=by
   intro ks;induction ks with
   | nil=>intro ds l fp n h;cases ds<;>cases l<;>first|rfl|cases h
   | cons k0 ks ih =>
    intro ds l fp n h;cases l with
    | nil=>cases k0<;>cases ds<;>cases h
    | cons x l =>
     cases k0 with
     | d τ =>
      cases ds with
      | nil=>cases h
      | cons v ds=>simp[l9,ih h.2 (n:=n)]
     | o τ =>
      cases ds with
      | nil=>cases h
      | cons v ds=>obtain⟨_,_,_,_,h2⟩:=h;simp[l9,ih h2 (n:=n+1)]
     | p j =>
      have h:x = .pointer (some ⟨B j,0,none⟩)/\jg w S B ks ds l fp:=by cases ds<;>exact h
      simp[l9,ih h.2 (n:=n)]
  have R0:∀ (c:Ctx) (G:Gh) (lk:Nat->Option aB) (N:Nat),(∀ b,S b->G.S b)->(∀ j,j<N->G.η (400000+j) = .pointer (some ⟨B j,0,none⟩)/\gi (lk (400000+j))=true) ->
    ∀ {ks:List CK} {ds:List TV} {l:List Value} {fp:List Nat} {n:Nat},jg w S B ks ds l fp->(∀ j,CK.p j∈ks->j<N)->aT (C1 c G lk w) (cb n (dG ks ds)) (lp ks l)->aT (C1 c G lk w) (l9 ks ds n) l:=by
   intro c G lk N hS hN ks;induction ks with
   | nil=>intro ds l fp n h _ _;cases ds<;>cases l<;>first|exact trivial|cases h
   | cons k0 ks ih =>
    intro ds l fp n h hp hc;cases l with
    | nil=>cases k0<;>cases ds<;>cases h
    | cons x l =>
     cases k0 with
     | d τ =>
      cases ds with
      | nil=>cases h
      | cons v ds =>
       obtain⟨⟨e,h1,h2⟩,h3⟩:=h;exact⟨⟨by rw[e];exact h1,Rd.aR hS (λ _ _=>rfl) _ h2⟩,ih h3 (λ j hj=>hp j (by simp[hj])) hc⟩
     | o τ =>
      cases ds with
      | nil=>cases h
      | cons v ds =>
       obtain⟨_,_,_,_,h2⟩:=h;exact⟨hc.1,ih h2 (λ j hj=>hp j (by simp[hj])) hc.2⟩
     | p j =>
      have h:x = .pointer (some ⟨B j,0,none⟩)/\jg w S B ks ds l fp:=by cases ds<;>exact h
      have hc:aT (C1 c G lk w) (cb n (dG ks ds)) (lp ks l):=by cases ds<;>exact hc
      obtain⟨g1,g2⟩:=hN j (hp j (by simp));have r:=ih h.2 (λ j hj=>hp j (by simp[hj])) hc;show aT _ (AV.ptr (400000+j) 0::l9 ks ds n) (x::l);exact⟨⟨B j,g1,h.1,g2⟩,r⟩
  refine⟨lp ks l++xs,by rw[km,b6F];exact o1.append q1,λ u hu=>(b4Q.1 hu).elim (o2 u) (q2 u),λ p hp=>?_⟩;have sZ:∀ {c:Ctx} {G':Gh} {lk':Nat->Option aB},aT (C1 c G' lk' w) (cb n (km (ks::sh) (ds::bN))) (lp ks l++xs)->aT (C1 c G' lk' w) (cb n (dG ks ds)) (lp ks l)/\aT (C1 c G' lk' w) (cb (n+(dG ks ds).length) (km sh bN)) xs:=λ {c G' lk'} q=>by
   rw[km,sQ] at q;have hl:(cb n (dG ks ds)).length=(lp ks l).length:=by rw[<-o3];exact hlen _ _
   have h1:=q.take (cb n (dG ks ds)).length;have h2:=q.drop (cb n (dG ks ds)).length;rw[b7c,hl,b7c] at h1;rw[b7i,hl,b7i] at h2;exact⟨h1,h2⟩
  rcases b5h.1 hp with rfl|hp
  .exact⟨k,l9 ks ds n,l,t,rfl,b5w _,by simp,hw,Fj hB,λ c G lk N h1 h2 h3 h4=>R0 c G lk N h1 h2 hB (h3 ks (by simp)) (sZ h4).1⟩
  .obtain⟨j,cs,l',t',g1,g2,g3,g4,g5,g6⟩:=q3 p hp;exact⟨j,cs,l',t',g1,by omega,by simp;omega,g4,g5,λ c G lk N h1 h2 h3 h4=>g6 c G lk N h1 h2 (λ ks' hk=>h3 ks' (by simp[hk])) (sZ h4).2⟩
 | [],_,_::_,_,_,h=>h.elim
 | _::_,_,[],_,_,h=>h.elim
def X2(sh:List (List CK)):Bool:=Nat.blt sh.length 1000&&sh.all λ ks=>ks.all λ c=>match c with
 | .p j=>Nat.blt j sh.length
 | _=>true
theorem X3{sh:List (List CK)}(h:X2 sh=true):∀ ks∈sh,∀ j,CK.p j∈ks->j<sh.length:=λ ks hk j hj=>by
 unfold X2 at h;rw[Bool.and_eq_true] at h;obtain⟨_,h⟩:=h;rw[List.all_eq_true] at h;have h2:=h ks hk;rw[List.all_eq_true] at h2;exact Nat.le_of_ble_eq_true (h2 _ hj)
theorem jg.congr{w:World}{S:Nat->Prop}{B B':Nat->Nat}{N:Nat}(hB:∀ j,j<N->B j=B' j):∀ {ks:List CK} {ds:List TV} {l:List Value} {fp:List Nat},(∀ j,CK.p j∈ks->j<N)->jg w S B ks ds l fp->jg w S B' ks ds l fp:=by
 intro ks;induction ks with
 | nil=>intro ds l fp _ h;cases ds<;>cases l<;>exact h
 | cons k0 ks ih =>
  intro ds l fp hp h;cases l with
  | nil=>cases k0<;>cases ds<;>cases h
  | cons x l =>
   cases k0 with
   | d τ =>
    cases ds with
    | nil=>cases h
    | cons v ds=>exact⟨h.1,ih (λ j hj=>hp j (by simp[hj])) h.2⟩
   | o τ =>
    cases ds with
    | nil=>cases h
    | cons v ds =>
     obtain⟨f1,f2,e,h1,h2⟩:=h;exact⟨f1,f2,e,h1,ih (λ j hj=>hp j (by simp[hj])) h2⟩
   | p j =>
    have h:x = .pointer (some ⟨B j,0,none⟩)/\jg w S B ks ds l fp:=by cases ds<;>exact h
    have r:=ih (λ j hj=>hp j (by simp[hj])) h.2;have e:x = .pointer (some ⟨B' j,0,none⟩):=by rw[h.1,hB j (hp j (by simp))]
    cases ds<;>exact⟨e,r⟩
theorem fF.congr{w:World}{S:Nat->Prop}{B B':Nat->Nat}{N:Nat}(hB:∀ j,j<N->B j=B' j):∀ {sh:List (List CK)} {k:Nat} {bN:List (List TV)} {fa:List Nat},k+sh.length<=N->(∀ ks∈sh,∀ j,CK.p j∈ks->j<N)->fF w S B k sh bN fa->fF w S B' k sh bN fa
 | [],k,bN,fa,_,_,h=>by cases bN<;>exact h
 | ks::sh,k,[],fa,_,_,h=>h.elim
 | ks::sh,k,ds::bN,fa,hk,hp,h=>by
  obtain⟨l,t,f1,f2,e,h1,h2,h3⟩:=h;simp only[b4Y] at hk;exact⟨l,t,f1,f2,e,by rw[<-hB k (by omega)];exact h1,h2.congr hB (hp ks (by simp)),fF.congr hB (by omega) (λ ks' kM=>hp ks' (by simp[kM])) h3⟩
theorem L2:∀ {sh:List (List CK)} {k:Nat} {bN:List (List TV)} {n:Nat} {j:Nat},sh.length=bN.length->k<=j->j<k+sh.length->∃ cs,ah (l8 k sh bN n) (400000+j)=some (.box cs)
 | [],k,bN,n,j,_,h1,h2=>by simp at h2;omega
 | ks::sh,k,[],n,j,hl,_,_=>by simp at hl
 | ks::sh,k,ds::bN,n,j,hl,h1,h2=>by
  rw[l8,pG];by_cases hj:j=k
  .subst hj;exact⟨_,b5u rfl⟩
  .rw[if_neg (by omega)];exact L2 (by simpa using hl) (by omega) (by simp at h2;omega)
theorem fF.len{w:World}{S:Nat->Prop}{B:Nat->Nat}:∀ {sh:List (List CK)} {k:Nat} {bN:List (List TV)} {fa:List Nat},fF w S B k sh bN fa->sh.length=bN.length
 | [],_,[],_,_=>rfl
 | [],_,_::_,_,h=>h.elim
 | _::_,_,[],_,h=>h.elim
 | ks::sh,k,ds::bN,fa,h=>by
  obtain⟨l,t,f1,f2,e,h1,h2,h3⟩:=h;simp[fF.len h3]
theorem a1b{w:World}{S:Nat->Prop}{B:Nat->Nat}{fn:Func}{args:List Arg}{b9:List Value}{sh:List (List CK)}{bN:List (List TV)}{fa:List Nat}(Hv:X2 sh=true)(hS:tm w S)(Ws:fF w S B 0 sh bN fa)(TD:fa.Nodup)
  (Fk:∀ b∈fa,b<w.heap.size/\¬ S b/\∀ k,k<sh.length->B k≠b) (hB:∀ k,k<sh.length->B k<w.heap.size/\¬ S (B k)) (Gd:∀ j k,j<sh.length->k<sh.length->B j=B k->j=k) (ha:aT (Ta P w S (BX sh.length B fa) B) args b9)
  (IL:∀ k,Arg.box k∈args->k<sh.length) :
  ∃ G,Inv ⟨P,E,w,BX sh.length B fa,S,λ _=>none,λ _=>False,λ id=>if 400000<=id/\id<400000+sh.length then some (B (id - 400000)) else none⟩ G (ed fn args sh bN) { tmps:=b9.toArray++Array.replicate (fn.ntmps - b9.toArray.size) undef,defers:=[] } w:=by
 have hlen:=ha.length;let c1:Ctx:=⟨P,E,w,λ b=>b∈fa,S,λ _=>none,λ _=>False,λ _=>none⟩;have h0:bw c1 ⟨S,λ _=>undef,λ _=>[]⟩ (λ _ => .any) (ed fn args sh bN).aC.length (λ _=>none) { tmps:=b9.toArray++Array.replicate (fn.ntmps - b9.toArray.size) undef,defers:=[] } w:={
  defers:=rfl
  size:=by simp[ed,hlen]
  aR:=bD.refl _ _
  jf:=⟨λ b h=>(Fk b h).1,λ g hg=>⟨(hS.2 g hg).1,λ q=>(Fk g q).2.1 (hS.2 g hg).1,hS.1 g (hS.2 g hg).1,(hS.2 g hg).2⟩⟩
  dT:=λ b _ _=>b6P
  sX:=λ b hs=>hs
  dB:=hS.1
  aC:=λ i=>trivial
  aJ:=λ id o h=>by cases h
  place:=λ id o b h=>by cases h
  apart:=λ id dy o o' b h=>by cases h
  aL:=⟨(λ id τ xs h=>by cases h),(λ id τ xs h=>by cases h),(λ id τ xs b h=>by cases h),(λ id dy τ bf xs cS b h=>by cases h)⟩
  root:=λ id v h=>by cases h
  ic:=λ id v h=>by cases h
  dm:=λ id v h=>by cases h
  eN:=λ id v h=>by cases h }
 obtain⟨xs,o1,o2,o3⟩:=Zf (n:=1000000) Ws;have b4K:sh.length<1000:=by
  unfold X2 at Hv;rw[Bool.and_eq_true] at Hv;exact Nat.le_of_ble_eq_true Hv.1
 have hFr:Fr c1 ⟨S,λ _=>undef,λ _=>[]⟩ (λ _=>none) w fa:=λ b hb=>⟨.inr hb,(Fk b hb).2.1,(Fk b hb).1,(λ i o h=>by cases h),(λ j τ xs h=>by cases h)⟩;obtain⟨G1,qK,k1,k2,k3,k4,_⟩:=h0.CN (us:=km sh bN) (cs:=xs) (id:=1000000) o2 o1 TD hFr (λ p hp=>rfl) mu (λ j _=>rfl);have Qg:∀ i o,qK i=some o->1000000<=i/\cx (some o)=true:=λ i o ho=>by
  rw[k1 i] at ho;unfold gj at ho;split at ho
  .rename_i o' cP;simp only[b4L] at ho;subst ho;refine⟨(jK (fC cP)).1,?_⟩;have:∀ {us:List TV} {id:Nat} {p:Nat×aB},p∈bX id us->cx (some p.2)=true:=by
    intro us;induction us with
    | nil=>intro id p hp;cases hp
    | cons u us ih =>
     intro id p hp;rcases b4Q.1 hp with hp|hp
     .obtain⟨τ,y⟩:=u;cases τ<;>simp[fJ] at hp;subst hp;rfl
     .exact ih hp
   exact this (fC cP)
  .cases ho
 have a0x:∀ i o,qK i=some o->ef (G1.η i)=none:=λ i o ho=>by
  obtain⟨_,ht⟩:=Qg i o ho;match o,ht with
  | .av τ ys,_ =>
   obtain⟨v,l,_,_,q,_⟩:=k2.aL.tr i τ ys ho;rw[q];rfl
 let G2:Gh:=⟨S,λ i=>if 400000<=i/\i<400000+sh.length then .pointer (some ⟨B (i - 400000),0,none⟩) else G1.η i,G1.φ⟩;have ZH:∀ j,j<sh.length->G2.η (400000+j) = .pointer (some ⟨B j,0,none⟩):=λ j hj=>by
  show (if 400000<=400000+j/\400000+j<400000+sh.length then _ else _)=_;rw[b5u (by omega),b7m]
 have ZG:∀ i,1000000<=i->G2.η i=G1.η i:=λ i hi=>b4Z (by omega);have hGS:G1.S=S:=k3.S;have a3N:(ed fn args sh bN).ah=λ i=>match ah (l8 0 sh bN 1000000) i with
   | some o=>some o
   | none=>qK i:=by
  funext i;show ah (l8 0 sh bN 1000000++bX 1000000 (km sh bN)) i=_;rw[pF];unfold gj;cases ah (l8 0 sh bN 1000000) i with
  | some o=>rfl
  | none =>
   simp only;rw[k1 i];unfold gj;cases ah (bX 1000000 (km sh bN)) i<;>rfl
 have b3n:∀ j,j<sh.length->∃ cs,(ed fn args sh bN).ah (400000+j)=some (.box cs):=λ j hj=>by
  obtain⟨cs,q⟩:=L2 (n:=1000000) Ws.len (Nat.zero_le j) (by simpa using hj);exact⟨cs,by rw[a3N];simp only[q]⟩
 have yF:∀ i o,(ed fn args sh bN).ah i=some o->(∃ j cs l t,i=400000+j/\j<sh.length/\o = .box cs/\w.heap[B j]?=some (.cells l.toArray t (0,0)) /\
   ∀ (c:Ctx) (G:Gh) (lk:Nat->Option aB),(∀ b,S b->G.S b)->(∀ j,j<sh.length->G.η (400000+j) = .pointer (some ⟨B j,0,none⟩)/\gi (lk (400000+j))=true)->aT (C1 c G lk w) (cb 1000000 (km sh bN)) xs->aT (C1 c G lk w) cs l) \/
   (qK i=some o/\1000000<=i):=λ i o ho=>by
  rw[a3N] at ho;simp only at ho;cases hl:ah (l8 0 sh bN 1000000) i with
  | some o' =>
   rw[hl] at ho;simp only[Option.some.injEq] at ho;subst ho;obtain⟨j,cs,l,t,q1,_,q2,q3,_,q4⟩:=o3 _ (eW hl);simp only[Prod.mk.injEq] at q1;obtain⟨rfl,rfl⟩:=q1;exact .inl ⟨j,cs,l,t,rfl,by simpa using q2,rfl,q3,λ c G lk h1 h2 h3=>q4 c G lk sh.length h1 h2 (X3 Hv) h3⟩
  | none =>
   rw[hl] at ho;exact .inr ⟨ho,(Qg i o ho).1⟩
 have eU:∀ i,eK (qK i) ((ed fn args sh bN).ah i):=λ i=>by
  cases hl:qK i with
  | none=>exact⟨(λ q=>by cases q),(λ e τ xs q=>by cases q),(λ q=>by cases q),λ q=>by cases q⟩
  | some o =>
   have:=(Qg i o hl).1;have hn:ah (l8 0 sh bN 1000000) i=none:=ud λ p hp e=>by
    obtain⟨j,cs,l,t,q1,_,q2,_⟩:=o3 p hp;rw[q1] at e;simp only at e;omega
   rw[a3N];simp only[hn,hl];exact eK.refl _
 have Fi:aT (C1 ⟨P,E,w,BX sh.length B fa,S,λ _=>none,λ _=>False,λ id=>if 400000<=id/\id<400000+sh.length then some (B (id - 400000)) else none⟩ G2 (ed fn args sh bN).ah w) (cb 1000000 (km sh bN)) xs:=by
  have:∀ {us:List TV} {n:Nat} {xs:List Value},1000000<=n->aT (C1 c1 G1 qK w) (cb n us) xs->aT (C1 ⟨P,E,w,BX sh.length B fa,S,λ _=>none,λ _=>False,λ id=>if 400000<=id/\id<400000+sh.length then some (B (id - 400000)) else none⟩ G2 (ed fn args sh bN).ah w) (cb n us) xs:=by
   intro us;induction us with
   | nil=>intro n xs _ h;cases xs<;>exact h
   | cons u us ih =>
    intro n xs hn h;cases xs with
    | nil=>exact h.elim
    | cons x xs =>
     refine⟨?_,ih (by omega) h.2⟩;have h1:C1 c1 G1 qK w (iQ n u) x:=h.1;obtain⟨τ,y⟩:=u;have aH:C1 c1 G1 qK w (.aH ⟨τ,y⟩) x->C1 ⟨P,E,w,BX sh.length B fa,S,λ _=>none,λ _=>False,λ id=>if 400000<=id/\id<400000+sh.length then some (B (id - 400000)) else none⟩ G2 (ed fn args sh bN).ah w (.aH ⟨τ,y⟩) x:=λ q=>⟨q.1,Rd.aR (λ b hb=>by rw[hGS] at hb;exact hb) (λ _ _=>rfl) _ q.2⟩;cases τ with
     | slice τ =>
      obtain⟨g1,l,g2,g3⟩:=h1;exact⟨(eU n).2.2.1 g1,l,by rw[ZG n hn];exact g2,g3⟩
     | mv τ=>exact trivial
     | _=>exact aH h1
  exact this (b5w _) k4
 have hN:∀ j,j<sh.length->G2.η (400000+j) = .pointer (some ⟨B j,0,none⟩)/\gi ((ed fn args sh bN).ah (400000+j))=true:=λ j hj=>by
  obtain⟨cs,q⟩:=b3n j hj;exact⟨ZH j hj,by rw[q];rfl⟩
 have WQ:∀ i τ xs,(ed fn args sh bN).ah i=some (.av τ xs)->qK i=some (.av τ xs)/\1000000<=i:=λ i τ ys hi=>by
  rcases yF i _ hi with ⟨_,_,_,_,_,_,q,_⟩|q
  .cases q
  .exact q
 refine⟨G2,?_⟩;exact {
  defers:=rfl
  size:=by simp[ed,hlen]
  aR:=bD.refl _ _
  jf:=⟨λ b hb=>hb.elim (λ q=>(Fk b q).1) λ ⟨k,hk,e⟩=>(by rw[e];exact (hB k hk).1),λ g hg=>⟨(hS.2 g hg).1,λ q=>q.elim (λ q=>(Fk g q).2.1 (hS.2 g hg).1) λ ⟨k,hk,e⟩=>(hB k hk).2 (e ▸ (hS.2 g hg).1),hS.1 g (hS.2 g hg).1,(hS.2 g hg).2⟩⟩
  dT:=λ b _ _=>b6P
  sX:=λ b hs=>hs
  dB:=hS.1
  aC:=λ i=>by
   have NK:∀ v x,v∈args->Ta P w S (BX sh.length B fa) B v x->VR ⟨P,E,w,BX sh.length B fa,S,λ _=>none,λ _=>False,λ id=>if 400000<=id/\id<400000+sh.length then some (B (id - 400000)) else none⟩ G2 (ed fn args sh bN).ah w (a0e v) x:=by
    intro v x hm h;cases v with
    | val v=>exact h
    | ref v =>
     obtain⟨b,o,cs,h1,h2,h3,h4,h5⟩:=h;exact⟨b,o,cs,h1, .inr ⟨h2,h3,λ z=>z⟩,h4,h5⟩
    | fn f=>exact h
    | dc v =>
     obtain⟨f,eE,l,h1,h2,h3⟩:=h;refine⟨f,eE,l,h1,h2,h3.imp λ u z _ hz=>?_⟩;cases u with
     | val v=>exact hz
     | ref v =>
      obtain⟨b,o,cs,h1,h2,h3,h4,h5⟩:=hz;exact⟨b,o,cs,h1, .inr ⟨h2,h3,λ z=>z⟩,h4,h5⟩
     | fn f=>exact hz
     | _=>exact hz.elim
    | own v=>exact h.elim
    | box k =>
     obtain⟨g1,g2⟩:=hN k (IL k hm);exact⟨B k,g1,h,g2⟩
   have h1:aT (λ v x=>VR ⟨P,E,w,BX sh.length B fa,S,λ _=>none,λ _=>False,λ id=>if 400000<=id/\id<400000+sh.length then some (B (id - 400000)) else none⟩ G2 (ed fn args sh bN).ah w v x) (args.map a0e) b9:=aT.dZ _ (ha.imp λ v x hm h=>NK v x hm h);have h2:=aT.getD (d:=AV.any) (e:=undef) (show VR ⟨P,E,w,BX sh.length B fa,S,λ _=>none,λ _=>False,λ id=>if 400000<=id/\id<400000+sh.length then some (B (id - 400000)) else none⟩ G2 (ed fn args sh bN).ah w .any undef from trivial) (h1.pW (a:=AV.any) (b:=undef) (show VR ⟨P,E,w,BX sh.length B fa,S,λ _=>none,λ _=>False,λ id=>if 400000<=id/\id<400000+sh.length then some (B (id - 400000)) else none⟩ G2 (ed fn args sh bN).ah w .any undef from trivial) (fn.ntmps - args.length)) i;have e1:(ed fn args sh bN).sl i=(args.map a0e++List.replicate (fn.ntmps - args.length) AV.any).getD i AV.any:=rfl;have e2:(b9.toArray++Array.replicate (fn.ntmps - b9.toArray.size) undef).getD i undef=(b9++List.replicate (fn.ntmps - args.length) undef).getD i undef:=by
    rw[b5I,b5b,<-b7Q];simp[hlen]
   rw[e1];show VR _ _ _ _ _ ((b9.toArray++Array.replicate (fn.ntmps - b9.toArray.size) undef).getD i undef);rw[e2];exact h2
  aJ:=λ i o ho=>by
   rcases yF i o ho with ⟨j,cs,l,t,rfl,hj,rfl,q3,q4⟩|⟨q1,q2⟩
   .exact⟨B j,l,t,ZH j hj,q3,q4 _ G2 _ (λ b hb=>hb) hN Fi⟩
   .have:=(Qg i o q1).2;match o,this with
    | .av τ ys,_=>trivial
  place:=λ i o b ho hb=>by
   rcases yF i o ho with ⟨j,cs,l,t,rfl,hj,rfl,q3,q4⟩|⟨q1,q2⟩
   .rw[ZH j hj] at hb;simp only[ef,b4L] at hb;subst hb;exact⟨.inr (.inr ⟨j,hj,rfl⟩),(hB j hj).2,(hB j hj).1⟩
   .rw[ZG i q2,a0x i o q1] at hb;cases hb
  apart:=λ i i' o o' b ho cP hb cA=>by
   rcases yF i o ho with ⟨j,cs,l,t,rfl,hj,rfl,q3,q4⟩|⟨q1,q2⟩
   .rcases yF i' o' cP with ⟨j',dE,l',t',rfl,IQ,rfl,_,_⟩|⟨g1,g2⟩
    .rw[ZH j hj] at hb;rw[ZH j' IQ] at cA;simp only[ef,b4L] at hb cA;rw[Gd j j' hj IQ (hb.trans cA.symm)]
    .rw[ZG i' g2,a0x i' o' g1] at cA;cases cA
   .rw[ZG i q2,a0x i o q1] at hb;cases hb
  aL:={
   tr:=λ i τ ys hi=>by
    obtain⟨q1,q2⟩:=WQ i τ ys hi;rw[ZG i q2];exact k2.aL.tr i τ ys q1
   nd:=λ i τ ys hi=>k2.aL.nd i τ ys (WQ i τ ys hi).1
   pl:=λ i τ ys b hi hb=>by
    obtain⟨q1,q2⟩:=WQ i τ ys hi;obtain⟨p1,p2,p3,p4⟩:=k2.aL.pl i τ ys b q1 hb;have Yt:b∈fa:=p1.elim (λ q=>absurd p3 (Nat.not_lt.2 q)) id;refine⟨.inr (.inl Yt),(Fk b Yt).2.1,p3,λ i' o' cP e=>?_⟩;rcases yF i' o' cP with ⟨j,cs,l,t,rfl,hj,rfl,_,_⟩|⟨g1,g2⟩
    .rw[ZH j hj] at e;simp only[ef,b4L] at e;exact (Fk b Yt).2.2 j hj e
    .rw[ZG i' g2,a0x i' o' g1] at e;cases e
   ap:=λ i i' τ bf ys ys' b hi nU=>k2.aL.ap i i' τ bf ys ys' b (WQ i τ ys hi).1 (WQ i' bf ys' nU).1 }
  root:=λ id v h=>by cases h
  ic:=λ id v h=>by cases h
  dm:=λ id b hr ht=>by
   simp only at hr;split at hr
   .rename_i hc;simp only[b4L] at hr;show (if 400000<=id/\id<400000+sh.length then _ else _)=_;rw[b5u hc,hr]
   .cases hr
  eN:=λ id b hr=>by
   simp only at hr;split at hr
   .rename_i hc;exact hc.1
   .cases hr }
theorem a0t(hE:bF P E)(gH:P.follows .mixedOrders=true){f:FuncId}{fn:Func}{dd:Code}(hf:P.funcs[f]?=some fn)(hb:fn.body=some dd)(Λ:Nat->aA){args:List Arg}{sh:List (List CK)}{bN:List (List TV)}{res:List TV}{dI:List (List TV)}{post:List TV->List (List TV)->Prop}
  (WL:∀ vs ds,post vs ds->vs=res/\ds=dI) (Hv:X2 sh=true) (IL:∀ k,Arg.box k∈args->k<sh.length) (h:p6 E dd Λ 0 (Ko E fn sh post) (ed fn args sh bN)):OO P f sh args bN res dI:=by
 intro w S B b9 fa hS Ws TD Fk hB Gd ha;refine b8c hf hb ?_;obtain⟨G0,hinv⟩:=a1b (P:=P) (E:=E) (fn:=fn) Hv hS Ws TD Fk hB Gd ha IL;generalize hc:(⟨P,E,w,BX sh.length B fa,S,λ _=>none,λ _=>False,λ id=>if 400000<=id/\id<400000+sh.length then some (B (id - 400000)) else none⟩:Ctx)=c at *
 have hcP:c.P=P:=by rw[<-hc]
 have hcE:c.E=E:=by rw[<-hc]
 have hcw:c.w0=w:=by rw[<-hc]
 have hcX:c.X=BX sh.length B fa:=by rw[<-hc]
 have hcS:c.S0=S:=by rw[<-hc]
 have hcB:∀ j,j<sh.length->c.RB (400000+j)=some (B j):=λ j hj=>by
  rw[<-hc];show (if 400000<=400000+j/\400000+j<400000+sh.length then _ else _)=_;rw[b5u (by omega),b7m]
 have hE':bF c.P c.E:=by rw[hcP,hcE];exact hE
 have cI:=fw (c:=c) hE' (by rw[hcP];exact gH) dd Λ 0 (Ko E fn sh post) G0 (ed fn args sh bN) _ w hinv (by rw[hcE];exact h);rw[hcP] at cI;refine b7P cI ?_;have fin:∀ (e:Exit) (a:Act) (w':World),(e = .normal\/e = .ret)->(∃ G s,Inv c G s a w'/\Ko E fn sh post e s) ->
   a.defers=[]/\∃ v,(results fn a.tmps).run P w' = .ok v w'/\∃ x S' fp KU,Ending.returned v = .returned x/\bD (BX sh.length B fa) w w'/\(∀ b,S b->S' b)/\(∀ b,S' b->b<w'.heap.size)/\(∀ b,b<w.heap.size->¬ BX sh.length B fa b->(S' b↔S b)) /\
    uz w' res x fp/\fF w' S' B 0 sh dI KU/\(fp++KU).Nodup/\(∀ b∈fp++KU,(b∈fa\/(w.heap.size<=b/\b<w'.heap.size))/\¬ S' b/\∀ k,k<sh.length->B k≠b)/\∀ k,k<sh.length->¬ S' (B k):=by
  rintro e a w' he ⟨G,s,hI,hp⟩;have Ld:∃ vs ids ds IW m,uv E s fn.results.toList fn.resultTypes.toList=some (vs,ids)/\je s.ah sh 0 (idM sh.length)=some (ds,IW,m)/\(ids++IW).Nodup/\vs=res/\ds=dI:=by
   rcases he with rfl|rfl <;>
   .simp only[Ko] at hp;split at hp
    .rename_i vs ids Cj;split at hp
     .rename_i ds IW m R1;split at hp
      .rename_i hn;rw[b4S] at hn;obtain⟨q1,q2⟩:=WL _ _ hp;exact⟨vs,ids,ds,IW,m,Cj,R1,cW hn.1,q1,q2⟩
      .exact hp.elim
     .exact hp.elim
    .exact hp.elim
  obtain⟨vs,ids,ds,IW,m,Cj,R1,hn,rfl,rfl⟩:=Ld;rw[b5s] at hn;obtain⟨n1,n2,n3⟩:=hn;obtain⟨xs,fp,h1,h2,h3,h4⟩:=FP (P:=P) (E:=E) (c:=c) hE' hcP hcE hI Cj n1;obtain⟨x0,a0y,KU,b3g,b1J,b0N⟩:=wb hI R1 n2;have a5e:∀ k,k<sh.length->∃ cs,s.ah (400000+k)=some (.box cs)/\G.η (400000+k) = .pointer (some ⟨B k,0,none⟩)/\ah m k=some (400000+k):=λ k hk=>by
   obtain⟨id,cs,q1,q2⟩:=a0y k (Nat.zero_le _) (by simpa using hk);have q3:=x0 k (400000+k) (by rw[a6j,if_pos hk]);rw[q3] at q1;simp only[Option.some.injEq] at q1;subst q1;exact⟨cs,q2,hI.dm _ _ (hcB k hk) (by rw[q2];rfl),q3⟩
  have hbo:∀ k,k<sh.length->kJ G m k=B k:=λ k hk=>by
   obtain⟨cs,_,q2,q3⟩:=a5e k hk;simp only[kJ,q3,q2];rfl
  have b3h:=fF.congr (N:=sh.length) hbo (by omega) (X3 Hv) (b3g m (lr.refl m));have gh:bD (BX sh.length B fa) w w':=by
   have:=hI.aR;rwa [hcX,hcw] at this
  have eA:∀ ids b,wZ G s.ah ids b->(b∈fa\/(w.heap.size<=b/\b<w'.heap.size))/\¬ G.S b/\∀ k,k<sh.length->B k≠b:=λ ids b hb=>by
   obtain⟨id,hi,hq⟩:=hb;have hp:(c.w0.heap.size<=b\/c.X b)/\¬ G.S b/\b<w'.heap.size/\∀ k,k<sh.length->B k≠b:=by
    rcases hq with ⟨τ,ys,q1,q2⟩|⟨e',τ,ys,q1,q2⟩
    .obtain⟨p1,p2,p3,p4⟩:=hI.aL.pl id τ ys b q1 q2;refine⟨p1,p2,p3,λ k hk e=>?_⟩;obtain⟨cs,g1,g2,_⟩:=a5e k hk;exact p4 _ _ g1 (by rw[g2,<-e];rfl)
    .obtain⟨p1,p2,p3⟩:=hI.place id _ b q1 q2;refine⟨p1,p2,p3,λ k hk e=>?_⟩;obtain⟨cs,g1,g2,_⟩:=a5e k hk;have:=hI.apart id _ _ _ b q1 g1 q2 (by rw[g2,<-e];rfl);subst this;rw[q1] at g1;cases g1
   obtain⟨p1,p2,p3,p4⟩:=hp;refine⟨?_,p2,p4⟩;rw[hcw,hcX] at p1;rcases p1 with p1|p1|⟨k,hk,e⟩
   .exact .inr ⟨p1,p3⟩
   .exact .inl p1
   .exact absurd e.symm (p4 k hk)
  refine⟨hI.defers,(if h:xs.toArray.size=1 then xs.toArray[0] else .tuple xs.toArray),?_,_,G.S,fp,KU,rfl,gh,?_,hI.dB,?_,ZS h2,b3h,?_,?_,?_⟩
  .rw[pL,b6H];simp only[b5x,b8A,h1];rfl
  .intro b hb;exact hI.sX b (by rw[hcS];exact hb)
  .intro b hb hx;have:=hI.dT b (by rw[hcw];exact hb) (by rw[hcX];exact hx);rwa [hcS] at this
  .exact ei h3 b1J λ b hb cA=>hI.iZ (h4 b hb) (b0N b cA) λ x hx y hy=>n3 x hx y hy
  .intro b hb;rcases b4Q.1 hb with hb|hb
   .exact eA ids b (h4 b hb)
   .exact eA IW b (b0N b hb)
  .intro k hk;obtain⟨cs,q1,q2,_⟩:=a5e k hk;exact (hI.place _ _ (B k) q1 (by rw[q2];rfl)).2.1
 intro e a w' hq;cases e with
 | normal=>exact fin .normal a w' (.inl rfl) hq
 | ret=>exact fin .ret a w' (.inr rfl) hq
 | exit i=>obtain⟨_,_,_,hp⟩:=hq;exact hp.elim
 | goto l=>obtain⟨_,_,_,hp⟩:=hq;exact hp.elim
 | panic ch=>obtain⟨_,_,_,hp⟩:=hq;exact hp.elim
 | outgrown=>obtain⟨_,_,_,hp⟩:=hq;exact hp.elim
def pf(fn:Func)(args:List Arg)(τ:Ty)(xs:List τ.den):aj:={ aC:=args.map BU++(.av 50::List.replicate (fn.ntmps - (args.length+1)) .any),aJ:=[(50, .av τ xs)] }
def Kt(τ:Ty)(post:List τ.den->Prop)(e:Exit)(s:aj):Prop :=
 match e with
 | .ret | .normal=>match s.ah 50 with
  | some (.av bf ys)=>match TV.Z9 (.slice τ) ⟨.slice bf,ys⟩ with
   | some ys=>post ys
   | none=>False
  | _=>False
 | _=>False
theorem Wl(hE:bF P E)(gH:P.follows .mixedOrders=true){f:FuncId}{fn:Func}{dd:Code}(hf:P.funcs[f]?=some fn)(hb:fn.body=some dd)(Λ:Nat->aA){args:List Arg}{τ:Ty}{xs ys:List τ.den}(hr:fn.results.size=0)(IL:∀ k,Arg.box k∉args)
  (R3:args.length+1<=fn.ntmps) (h:p6 E dd Λ 0 (Kt τ λ zs=>zs=ys) (pf fn args τ xs)):J3 P f args τ xs ys:=by
 intro w S b9 v fp hS ha hO cR jM;refine b8c hf hb ?_;have hlen:=ha.length;have h0:bw ⟨P,E,w,λ b=>b∈fp,S,λ _=>none,λ _=>False,λ _=>none⟩ ⟨S,λ _=>undef,λ _=>[]⟩ (λ _ => .any) (pf fn args τ xs).aC.length (λ _=>none) { tmps:=(b9++[v]).toArray++Array.replicate (fn.ntmps - (b9++[v]).toArray.size) undef,defers:=[] } w:={
  defers:=rfl
  size:=by simp[pf,hlen];omega
  aR:=bD.refl _ _
  jf:=⟨λ b hb=>(jM b hb).1,λ g hg=>⟨(hS.2 g hg).1,λ q=>(jM g q).2 (hS.2 g hg).1,hS.1 g (hS.2 g hg).1,(hS.2 g hg).2⟩⟩
  dT:=λ b _ _=>b6P
  sX:=λ b h=>h
  dB:=hS.1
  aC:=λ _=>trivial
  aJ:=λ id o h=>by cases h
  place:=λ id o b h=>by cases h
  apart:=λ id dy o o' b h=>by cases h
  aL:=⟨(λ id τ xs h=>by cases h),(λ id τ xs h=>by cases h),(λ id τ xs b h=>by cases h),(λ id dy τ bf xs cS b h=>by cases h)⟩
  root:=λ id v h=>by cases h
  ic:=λ id v h=>by cases h
  dm:=λ id v h=>by cases h
  eN:=λ id v h=>by cases h }
 obtain⟨G1,qK,l1,i1,e1,t1,_⟩:=h0.OU (id:=50) (v:=⟨.slice τ,xs⟩) hO cR (λ b hb=>⟨.inr hb,(jM b hb).2,(jM b hb).1,λ i o h=>(by cases h),λ j τ xs h=>by cases h⟩) (λ _ _=>rfl) mu (λ _ _=>rfl);have Qg:(pf fn args τ xs).ah=qK:=by
  funext i;rw[l1 i];show ah [(50, .av τ xs)] i=gj (bX 50 (TV.cells ⟨.slice τ,xs⟩)) (λ _=>none) i;unfold gj;show _=match ah [(50,aB.av τ xs)] i with
   | some o=>some o
   | none=>none
  cases ah [(50,aB.av τ xs)] i<;>rfl
 have hC1:C1 ⟨P,E,w,λ b=>b∈fp,S,λ _=>none,λ _=>False,λ _=>none⟩ G1 qK w (.av 50) v:=t1;obtain⟨YF,l,hl,Aq⟩:=hC1;have b4I:qK 50=some (.av τ xs):=by rw[<-Qg];rfl
 let R:Nat->Option Value:=λ id=>if id=50 then some v else none
 have hGS:G1.S=S:=e1.S;have hinv:Inv ⟨P,E,w,λ b=>b∈fp,S,R,λ _=>False,λ _=>none⟩ G1 (pf fn args τ xs) { tmps:=(b9++[v]).toArray++Array.replicate (fn.ntmps - (b9++[v]).toArray.size) undef,defers:=[] } w:=by
  unfold Inv;rw[Qg];exact {
   defers:=i1.defers,size:=i1.size,aR:=i1.aR,jf:=i1.jf,dT:=i1.dT,sX:=i1.sX,dB:=i1.dB
   aC:=λ i=>by
    have NK:∀ u z,u∈args->Ta P w S (λ b=>b∈fp) (λ _=>0) u z->VR ⟨P,E,w,λ b=>b∈fp,S,R,λ _=>False,λ _=>none⟩ G1 qK w (BU u) z:=by
     intro u z hm hz;cases u with
     | val u=>exact dV.mono (G:=⟨S,G1.η,G1.φ⟩) (G':=G1) hz (λ b hb=>by rw[hGS];exact hb) (λ _ _=>rfl)
     | ref u =>
      obtain⟨b,o,cs,h1,h2,h3,h4,h5⟩:=hz;exact⟨b,o,cs,h1, .inr ⟨h2,h3,λ z=>z⟩,h4,Rd.aR (λ b hb=>by rw[hGS];exact hb) (λ _ _=>rfl) _ h5⟩
     | fn f=>exact hz
     | dc u =>
      obtain⟨f,eE,l,h1,h2,h3⟩:=hz;refine⟨f,eE,l,h1,h2,h3.imp λ u z _ hz=>?_⟩;cases u with
      | val u=>exact dV.mono (G:=⟨S,G1.η,G1.φ⟩) (G':=G1) hz (λ b hb=>by rw[hGS];exact hb) (λ _ _=>rfl)
      | ref u =>
       obtain⟨b,o,cs,h1,h2,h3,h4,h5⟩:=hz;exact⟨b,o,cs,h1, .inr ⟨h2,h3,λ z=>z⟩,h4,Rd.aR (λ b hb=>by rw[hGS];exact hb) (λ _ _=>rfl) _ h5⟩
      | fn f=>exact hz
      | _=>exact hz.elim
     | own u=>exact hz.elim
     | box k=>exact absurd hm (IL k)
    have h1:aT (λ u z=>VR ⟨P,E,w,λ b=>b∈fp,S,R,λ _=>False,λ _=>none⟩ G1 qK w u z) (args.map BU) b9:=aT.dZ _ (ha.imp λ u z hm hz=>NK u z hm hz);have h2:aT (λ u z=>VR ⟨P,E,w,λ b=>b∈fp,S,R,λ _=>False,λ _=>none⟩ G1 qK w u z) (args.map BU++[.av 50]) (b9++[v]):=h1.append ⟨⟨YF,l,hl,Aq⟩,ae⟩;have h3:=aT.getD (d:=AV.any) (e:=undef) (show VR ⟨P,E,w,λ b=>b∈fp,S,R,λ _=>False,λ _=>none⟩ G1 qK w .any undef from trivial) (h2.pW (a:=AV.any) (b:=undef) (show VR ⟨P,E,w,λ b=>b∈fp,S,R,λ _=>False,λ _=>none⟩ G1 qK w .any undef from trivial) (fn.ntmps - (args.length+1))) i;have e1:(pf fn args τ xs).sl i=(args.map BU++[AV.av 50]++List.replicate (fn.ntmps - (args.length+1)) AV.any).getD i AV.any:=by
     rw[b5O];rfl
    have e2:((b9++[v]).toArray++Array.replicate (fn.ntmps - (b9++[v]).toArray.size) undef).getD i undef=(b9++[v]++List.replicate (fn.ntmps - (args.length+1)) undef).getD i undef:=by
     rw[b5I,b5b,<-b7Q];simp[hlen]
    rw[e1];show VR _ _ _ _ _ (((b9++[v]).toArray++Array.replicate (fn.ntmps - (b9++[v]).toArray.size) undef).getD i undef);rw[e2];exact h3
   aJ:=i1.aJ,place:=i1.place,apart:=i1.apart
   aL:=⟨i1.aL.tr,i1.aL.nd,i1.aL.pl,i1.aL.ap⟩
   root:=λ id v' hr ht=>by
    simp only[R] at hr;split at hr
    .rename_i e;simp only[b4L] at hr;subst e hr;exact⟨l,hl⟩
    .cases hr
   dm:=λ id b hr=>by cases hr
   eN:=λ id b hr=>by cases hr
   ic:=λ id v' hr=>by
    simp only[R] at hr;split at hr
    .omega
    .cases hr }
 refine b7P (fw (c:=⟨P,E,w,λ b=>b∈fp,S,R,λ _=>False,λ _=>none⟩) hE gH dd Λ 0 _ _ _ _ w hinv h) ?_;have fin:∀ (e:Exit) (a:Act) (w':World),(e = .normal\/e = .ret)->(∃ G s,Inv ⟨P,E,w,λ b=>b∈fp,S,R,λ _=>False,λ _=>none⟩ G s a w'/\Kt τ (λ zs=>zs=ys) e s) ->
   a.defers=[]/\∃ u,(results fn a.tmps).run P w' = .ok u w'/\∃ r,Ending.returned u = .returned r/\bD (λ b=>b∈fp) w w'/\∃ mP,xH w' ⟨.slice τ,ys⟩ v mP/\mP.Nodup/\∀ b∈mP,b∈fp\/(w.heap.size<=b/\b<w'.heap.size):=by
  rintro e a w' he ⟨G,s,hI,hp⟩;have Ld:s.ah 50=some (.av τ ys):=by
   rcases he with rfl|rfl <;>
   .simp only[Kt] at hp;split at hp
    .rename_i bf zs hz;split at hp
     .rename_i zs' R8;have:=TV.aU R8;simp only[TV.mk.injEq,Ty.slice.injEq] at this;obtain⟨rfl,h2⟩:=this;have h2:=b7O h2;subst h2;rw[hz,hp]
     .exact hp.elim
    .exact hp.elim
  have TH:(results fn a.tmps).run P w' = .ok (.tuple #[]) w':=by
   have:fn.results = #[]:=b6W hr;rw[pL,this,b6H];simp
  obtain⟨l',mV⟩:=hI.root 50 v (by simp[R]) (by rw[Ld];rfl);have mR:=Ow.a0R (hI.aL.tr 50 τ ys Ld) mV;refine⟨hI.defers,_,TH,_,rfl,hI.aR,G.φ 50,mR,hI.aL.nd 50 τ ys Ld,λ b hb=>?_⟩;obtain⟨p1,_,p3,_⟩:=hI.aL.pl 50 τ ys b Ld hb;exact p1.elim (λ q => .inr ⟨q,p3⟩) .inl
 intro e a w' hq;cases e with
 | normal=>exact fin .normal a w' (.inl rfl) hq
 | ret=>exact fin .ret a w' (.inr rfl) hq
 | exit i=>obtain⟨_,_,_,hp⟩:=hq;exact hp.elim
 | goto l=>obtain⟨_,_,_,hp⟩:=hq;exact hp.elim
 | panic ch=>obtain⟨_,_,_,hp⟩:=hq;exact hp.elim
 | outgrown=>obtain⟨_,_,_,hp⟩:=hq;exact hp.elim
end
def CG:List (Nat×Ty×Nat×Nat) :=
 [(2,(.int .i64),0,0),
  (3,(.int .i64),0,0),
  (4, .bool,0,0),
  (5,(.int .u8),0,0),
  (9, .str,0,0),
  (12,(.int .u64),0,0),
  (23,(.st .sig),0,0),
  (24,(.slice (.st .claim)),120,124),
  (26,(.st .proof),0,0),
  (27,(.slice (.st .expr)),40,29),
  (29,(.st .expr),0,0),
  (30,(.slice (.int .i64)),8,2),
  (32,(.st .proofStep),0,0),
  (36,(.slice (.st .expr)),40,38),
  (38,(.st .expr),0,0),
  (41,(.st .sig),0,0),
  (42,(.slice (.st .claim)),120,99),
  (44,(.st .proof),0,0),
  (48,(.st .proofStep),0,0),
  (94,(.st .equation),0,0),
  (97,(.slice (.st .proofStep)),88,48),
  (99,(.st .claim),0,0),
  (118,(.slice .bool),1,4),
  (122,(.slice (.st .proofStep)),88,32),
  (124,(.st .claim),0,0),
  (129,(.slice .str),16,9),
  (154,(.slice (.st .proof)),40,44),
  (168,(.slice (.st .equation)),80,94),
  (183,(.st .l01Reader),0,0),
  (187,(.st .reader),0,0),
  (194,(.slice (.int .u8)),1,5),
  (203,(.int .u64),0,0),
  (221,(.int .u64),0,0)]
def QY:List (Nat×Ty) :=
 [(73,(.st .proof)),(75,(.st .expr)),(77,(.st .proofStep)),(96,(.st .claim)),(101,(.st .equation)),(149,(.int .i64)),(181,(.st .l01Reader)),(191,(.st .reader)),(212,(.int .u8))]
def Kj:List (Nat×Ty×Ty):=[]
def Pt:List Nat:=[23,41]
abbrev OT:Nat:=2
abbrev J4:Nat:=4
abbrev LD:Nat:=26
abbrev a0b:Nat:=38
abbrev OS:Nat:=48
abbrev Yo:Nat:=99
noncomputable abbrev prog:Program:=Tryz.prog
def xD(c:Nat->List Arg->Option (Vc×List TV))(wr own:List Nat)(oc:Nat->List Arg->Option (Vc×List TV))(mk:Nat->Option CI)(cl:Nat->Option nz)(ro:List Nat)(tk:Nat->List Bool)(sk:Nat->Option SK)(sc:Nat->List Arg->List (List TV)->Option (Vc×List TV×List (List TV)))(nc:Nat->List Arg->Option (Vc×a1k))
 (tc:Nat->List Arg->(τ:Ty)->List τ.den->Option (Vc×List τ.den))
 : ((CG.all λ r=>tj prog (Env.mk CG QY c wr own oc mk cl ro tk sk sc Kj nc Pt
 tc
 ) r.1 r.2.1 r.2.2.1 r.2.2.2)&&Kj.all λ r=>Xk prog (Env.mk CG QY c wr own oc mk cl ro tk sk sc Kj nc Pt
 tc
 ) r.1 r.2.1 r.2.2)=true:=by kernel_rfl
def mw:prog.follows .mixedOrders=true:=Checked.mixed Tryz.checked
def aQ(f:Func):Code:=match f.body with
 | some c=>c
 | none => .skip
abbrev jd:Nat:=7
noncomputable abbrev iW:Func:=Tryz.f7
def nA:prog.funcs[jd]?=some iW:=Tryz.func7
def xc:iW.body=some (aQ iW):=by kernel_rfl
abbrev GS:Nat:=8
noncomputable abbrev uO:Func:=Tryz.f8
def CY:prog.funcs[GS]?=some uO:=Tryz.func8
def ME:uO.body=some (aQ uO):=by kernel_rfl
abbrev zF:Nat:=9
noncomputable abbrev ym:Func:=Tryz.f9
def ot:prog.funcs[zF]?=some ym:=Tryz.func9
def Pg:ym.body=some (aQ ym):=by kernel_rfl
abbrev wW:Nat:=10
noncomputable abbrev nO:Func:=Tryz.f10
def tw:prog.funcs[wW]?=some nO:=Tryz.func10
def EX:nO.body=some (aQ nO):=by kernel_rfl
abbrev vU:Nat:=12
noncomputable abbrev uR:Func:=Tryz.f12
def mH:prog.funcs[vU]?=some uR:=Tryz.func12
def xW:uR.body=some (aQ uR):=by kernel_rfl
abbrev mq:Nat:=13
noncomputable abbrev yn:Func:=Tryz.f13
def fk:prog.funcs[mq]?=some yn:=Tryz.func13
def AU:yn.body=some (aQ yn):=by kernel_rfl
abbrev nZ:Nat:=14
noncomputable abbrev nP:Func:=Tryz.f14
def iB:prog.funcs[nZ]?=some nP:=Tryz.func14
def p8:nP.body=some (aQ nP):=by kernel_rfl
abbrev zy:Nat:=16
noncomputable abbrev yl:Func:=Tryz.f16
def oq:prog.funcs[zy]?=some yl:=Tryz.func16
def Pf:yl.body=some (aQ yl):=by kernel_rfl
abbrev GQ:Nat:=17
noncomputable abbrev uL:Func:=Tryz.f17
def CW:prog.funcs[GQ]?=some uL:=Tryz.func17
def MB:uL.body=some (aQ uL):=by kernel_rfl
abbrev wV:Nat:=18
noncomputable abbrev nN:Func:=Tryz.f18
def tv:prog.funcs[wV]?=some nN:=Tryz.func18
def EW:nN.body=some (aQ nN):=by kernel_rfl
abbrev BH:Nat:=19
noncomputable abbrev qk:Func:=Tryz.f19
def xP:prog.funcs[BH]?=some qk:=Tryz.func19
def Ig:qk.body=some (aQ qk):=by kernel_rfl
abbrev vS:Nat:=25
noncomputable abbrev uN:Func:=Tryz.f25
def mF:prog.funcs[vS]?=some uN:=Tryz.func25
def MD:uN.body=some (aQ uN):=by kernel_rfl
abbrev kN:Nat:=27
noncomputable abbrev uQ:Func:=Tryz.f27
def eL:prog.funcs[kN]?=some uQ:=Tryz.func27
def xV:uQ.body=some (aQ uQ):=by kernel_rfl
abbrev vR:Nat:=29
noncomputable abbrev uK:Func:=Tryz.f29
def mD:prog.funcs[vR]?=some uK:=Tryz.func29
def MA:uK.body=some (aQ uK):=by kernel_rfl
abbrev qO:Nat:=30
noncomputable abbrev qj:Func:=Tryz.f30
def jZ:prog.funcs[qO]?=some qj:=Tryz.func30
def Ie:qj.body=some (aQ qj):=by kernel_rfl
abbrev BG:Nat:=31
noncomputable abbrev qi:Func:=Tryz.f31
def xO:prog.funcs[BG]?=some qi:=Tryz.func31
def Ic:qi.body=some (aQ qi):=by kernel_rfl
abbrev BI:Nat:=34
noncomputable abbrev ql:Func:=Tryz.f34
def xQ:prog.funcs[BI]?=some ql:=Tryz.func34
def Ih:ql.body=some (aQ ql):=by kernel_rfl
abbrev BB:Nat:=35
noncomputable abbrev qc:Func:=Tryz.f35
def xJ:prog.funcs[BB]?=some qc:=Tryz.func35
def H6:qc.body=some (aQ qc):=by kernel_rfl
abbrev Ek:Nat:=36
noncomputable abbrev r6:Func:=Tryz.f36
def AL:prog.funcs[Ek]?=some r6:=Tryz.func36
def KJ:r6.body=some (aQ r6):=by kernel_rfl
abbrev El:Nat:=37
noncomputable abbrev r7:Func:=Tryz.f37
def AM:prog.funcs[El]?=some r7:=Tryz.func37
def KK:r7.body=some (aQ r7):=by kernel_rfl
abbrev Mf:Nat:=38
noncomputable abbrev Cb:Func:=Tryz.f38
def H0:prog.funcs[Mf]?=some Cb:=Tryz.func38
def RF:Cb.body=some (aQ Cb):=by kernel_rfl
abbrev Cu:Nat:=39
noncomputable abbrev Ca:Func:=Tryz.f39
def HZ:prog.funcs[Cu]?=some Ca:=Tryz.func39
def RE:Ca.body=some (aQ Ca):=by kernel_rfl
abbrev G6:Nat:=40
noncomputable abbrev vC:Func:=Tryz.f40
def C6:prog.funcs[G6]?=some vC:=Tryz.func40
def MQ:vC.body=some (aQ vC):=by kernel_rfl
abbrev Ct:Nat:=41
noncomputable abbrev B9:Func:=Tryz.f41
def HY:prog.funcs[Ct]?=some B9:=Tryz.func41
def RD:B9.body=some (aQ B9):=by kernel_rfl
abbrev En:Nat:=42
noncomputable abbrev sd:Func:=Tryz.f42
def AO:prog.funcs[En]?=some sd:=Tryz.func42
def KN:sd.body=some (aQ sd):=by kernel_rfl
abbrev Me:Nat:=43
noncomputable abbrev B8:Func:=Tryz.f43
def HX:prog.funcs[Me]?=some B8:=Tryz.func43
def RC:B8.body=some (aQ B8):=by kernel_rfl
abbrev sK:Nat:=44
noncomputable abbrev r8:Func:=Tryz.f44
def lA:prog.funcs[sK]?=some r8:=Tryz.func44
def wv:r8.body=some (aQ r8):=by kernel_rfl
abbrev sL:Nat:=45
noncomputable abbrev r9:Func:=Tryz.f45
def lB:prog.funcs[sL]?=some r9:=Tryz.func45
def wx:r9.body=some (aQ r9):=by kernel_rfl
abbrev zq:Nat:=46
noncomputable abbrev oK:Func:=Tryz.f46
def we:prog.funcs[zq]?=some oK:=Tryz.func46
def Hd:oK.body=some (aQ oK):=by kernel_rfl
abbrev Jo:Nat:=48
noncomputable abbrev ye:Func:=Tryz.f48
def FZ:prog.funcs[Jo]?=some ye:=Tryz.func48
def O9:ye.body=some (aQ ye):=by kernel_rfl
abbrev Jt:Nat:=49
noncomputable abbrev yj:Func:=Tryz.f49
def F3:prog.funcs[Jt]?=some yj:=Tryz.func49
def Pe:yj.body=some (aQ yj):=by kernel_rfl
abbrev BC:Nat:=50
noncomputable abbrev qd:Func:=Tryz.f50
def xK:prog.funcs[BC]?=some qd:=Tryz.func50
def H7:qd.body=some (aQ qd):=by kernel_rfl
abbrev Md:Nat:=51
noncomputable abbrev B7:Func:=Tryz.f51
def HW:prog.funcs[Md]?=some B7:=Tryz.func51
def RA:B7.body=some (aQ B7):=by kernel_rfl
abbrev Ei:Nat:=52
noncomputable abbrev rY:Func:=Tryz.f52
def AJ:prog.funcs[Ei]?=some rY:=Tryz.func52
def KH:rY.body=some (aQ rY):=by kernel_rfl
abbrev Ej:Nat:=53
noncomputable abbrev rZ:Func:=Tryz.f53
def AK:prog.funcs[Ej]?=some rZ:=Tryz.func53
def KI:rZ.body=some (aQ rZ):=by kernel_rfl
abbrev zB:Nat:=54
noncomputable abbrev oP:Func:=Tryz.f54
def wk:prog.funcs[zB]?=some oP:=Tryz.func54
def Hi:oP.body=some (aQ oP):=by kernel_rfl
abbrev zD:Nat:=55
noncomputable abbrev oQ:Func:=Tryz.f55
def wm:prog.funcs[zD]?=some oQ:=Tryz.func55
def Hj:oQ.body=some (aQ oQ):=by kernel_rfl
abbrev qM:Nat:=56
noncomputable abbrev qh:Func:=Tryz.f56
def jY:prog.funcs[qM]?=some qh:=Tryz.func56
def Ib:qh.body=some (aQ qh):=by kernel_rfl
abbrev Eo:Nat:=57
noncomputable abbrev sf:Func:=Tryz.f57
def AP:prog.funcs[Eo]?=some sf:=Tryz.func57
def KO:sf.body=some (aQ sf):=by kernel_rfl
abbrev GL:Nat:=58
noncomputable abbrev uF:Func:=Tryz.f58
def CQ:prog.funcs[GL]?=some uF:=Tryz.func58
def Mv:uF.body=some (aQ uF):=by kernel_rfl
abbrev Et:Nat:=59
noncomputable abbrev so:Func:=Tryz.f59
def AT:prog.funcs[Et]?=some so:=Tryz.func59
def KS:so.body=some (aQ so):=by kernel_rfl
abbrev GX:Nat:=60
noncomputable abbrev uY:Func:=Tryz.f60
def C2:prog.funcs[GX]?=some uY:=Tryz.func60
def MM:uY.body=some (aQ uY):=by kernel_rfl
abbrev GY:Nat:=62
noncomputable abbrev uZ:Func:=Tryz.f62
def C3:prog.funcs[GY]?=some uZ:=Tryz.func62
def MN:uZ.body=some (aQ uZ):=by kernel_rfl
abbrev rL:Nat:=63
noncomputable abbrev lf:Func:=Tryz.f63
def pZ:prog.funcs[rL]?=some lf:=Tryz.func63
def BZ:lf.body=some (aQ lf):=by kernel_rfl
abbrev zI:Nat:=64
noncomputable abbrev Wd:Func:=Tryz.f64
def Ua:prog.funcs[zI]?=some Wd:=Tryz.func64
abbrev zG:Nat:=66
noncomputable abbrev oR:Func:=Tryz.f66
def wo:prog.funcs[zG]?=some oR:=Tryz.func66
def Hk:oR.body=some (aQ oR):=by kernel_rfl
abbrev zx:Nat:=67
noncomputable abbrev oM:Func:=Tryz.f67
def wh:prog.funcs[zx]?=some oM:=Tryz.func67
def Hf:oM.body=some (aQ oM):=by kernel_rfl
abbrev Ec:Nat:=68
noncomputable abbrev rQ:Func:=Tryz.f68
def AD:prog.funcs[Ec]?=some rQ:=Tryz.func68
def Kz:rQ.body=some (aQ rQ):=by kernel_rfl
abbrev Jm:Nat:=69
noncomputable abbrev yc:Func:=Tryz.f69
def FX:prog.funcs[Jm]?=some yc:=Tryz.func69
def O7:yc.body=some (aQ yc):=by kernel_rfl
abbrev rJ:Nat:=70
noncomputable abbrev la:Func:=Tryz.f70
def pX:prog.funcs[rJ]?=some la:=Tryz.func70
def BW:la.body=some (aQ la):=by kernel_rfl
abbrev Ef:Nat:=71
noncomputable abbrev rU:Func:=Tryz.f71
def AG:prog.funcs[Ef]?=some rU:=Tryz.func71
def KD:rU.body=some (aQ rU):=by kernel_rfl
abbrev BE:Nat:=73
noncomputable abbrev qf:Func:=Tryz.f73
def xM:prog.funcs[BE]?=some qf:=Tryz.func73
def H9:qf.body=some (aQ qf):=by kernel_rfl
abbrev zz:Nat:=74
noncomputable abbrev oN:Func:=Tryz.f74
def wi:prog.funcs[zz]?=some oN:=Tryz.func74
def Hg:oN.body=some (aQ oN):=by kernel_rfl
abbrev Er:Nat:=76
noncomputable abbrev sj:Func:=Tryz.f76
def AR:prog.funcs[Er]?=some sj:=Tryz.func76
def KQ:sj.body=some (aQ sj):=by kernel_rfl
abbrev BD:Nat:=77
noncomputable abbrev qe:Func:=Tryz.f77
def xL:prog.funcs[BD]?=some qe:=Tryz.func77
def H8:qe.body=some (aQ qe):=by kernel_rfl
abbrev Eh:Nat:=78
noncomputable abbrev rW:Func:=Tryz.f78
def AI:prog.funcs[Eh]?=some rW:=Tryz.func78
def KF:rW.body=some (aQ rW):=by kernel_rfl
abbrev qV:Nat:=80
noncomputable abbrev qn:Func:=Tryz.f80
def j8:prog.funcs[qV]?=some qn:=Tryz.func80
def Ij:qn.body=some (aQ qn):=by kernel_rfl
abbrev Mc:Nat:=81
noncomputable abbrev B6:Func:=Tryz.f81
def HV:prog.funcs[Mc]?=some B6:=Tryz.func81
def Rz:B6.body=some (aQ B6):=by kernel_rfl
abbrev nX:Nat:=82
noncomputable abbrev nJ:Func:=Tryz.f82
def tq:prog.funcs[nX]?=some nJ:=Tryz.func82
def ES:nJ.body=some (aQ nJ):=by kernel_rfl
abbrev GR:Nat:=83
noncomputable abbrev uM:Func:=Tryz.f83
def CX:prog.funcs[GR]?=some uM:=Tryz.func83
def MC:uM.body=some (aQ uM):=by kernel_rfl
abbrev Jv:Nat:=84
noncomputable abbrev yq:Func:=Tryz.f84
def F5:prog.funcs[Jv]?=some yq:=Tryz.func84
def Pk:yq.body=some (aQ yq):=by kernel_rfl
abbrev Ep:Nat:=85
noncomputable abbrev si:Func:=Tryz.f85
def AQ:prog.funcs[Ep]?=some si:=Tryz.func85
def KP:si.body=some (aQ si):=by kernel_rfl
abbrev vV:Nat:=86
noncomputable abbrev uT:Func:=Tryz.f86
def mI:prog.funcs[vV]?=some uT:=Tryz.func86
def MG:uT.body=some (aQ uT):=by kernel_rfl
abbrev sM:Nat:=87
noncomputable abbrev sb:Func:=Tryz.f87
def lC:prog.funcs[sM]?=some sb:=Tryz.func87
def KM:sb.body=some (aQ sb):=by kernel_rfl
abbrev vY:Nat:=88
noncomputable abbrev uW:Func:=Tryz.f88
def mL:prog.funcs[vY]?=some uW:=Tryz.func88
def MJ:uW.body=some (aQ uW):=by kernel_rfl
abbrev rK:Nat:=89
noncomputable abbrev ld:Func:=Tryz.f89
def pY:prog.funcs[rK]?=some ld:=Tryz.func89
def BY:ld.body=some (aQ ld):=by kernel_rfl
abbrev G7:Nat:=90
noncomputable abbrev vD:Func:=Tryz.f90
def C7:prog.funcs[G7]?=some vD:=Tryz.func90
def MR:vD.body=some (aQ vD):=by kernel_rfl
abbrev td:Nat:=91
noncomputable abbrev Yr:Func:=Tryz.f91
def VN:prog.funcs[td]?=some Yr:=Tryz.func91
abbrev vW:Nat:=92
noncomputable abbrev uU:Func:=Tryz.f92
def mJ:prog.funcs[vW]?=some uU:=Tryz.func92
def MH:uU.body=some (aQ uU):=by kernel_rfl
abbrev ky:Nat:=93
noncomputable abbrev M0:Func:=Tryz.f93
def Kw:prog.funcs[ky]?=some M0:=Tryz.func93
abbrev vT:Nat:=94
noncomputable abbrev uP:Func:=Tryz.f94
def mG:prog.funcs[vT]?=some uP:=Tryz.func94
def xU:uP.body=some (aQ uP):=by kernel_rfl
abbrev Eb:Nat:=95
noncomputable abbrev rP:Func:=Tryz.f95
def AB:prog.funcs[Eb]?=some rP:=Tryz.func95
def Ky:rP.body=some (aQ rP):=by kernel_rfl
abbrev Jn:Nat:=96
noncomputable abbrev yd:Func:=Tryz.f96
def FY:prog.funcs[Jn]?=some yd:=Tryz.func96
def O8:yd.body=some (aQ yd):=by kernel_rfl
abbrev GM:Nat:=97
noncomputable abbrev uG:Func:=Tryz.f97
def CS:prog.funcs[GM]?=some uG:=Tryz.func97
def Mw:uG.body=some (aQ uG):=by kernel_rfl
abbrev Js:Nat:=98
noncomputable abbrev yi:Func:=Tryz.f98
def F2:prog.funcs[Js]?=some yi:=Tryz.func98
def Pd:yi.body=some (aQ yi):=by kernel_rfl
abbrev Jq:Nat:=99
noncomputable abbrev yg:Func:=Tryz.f99
def F1:prog.funcs[Jq]?=some yg:=Tryz.func99
def Pb:yg.body=some (aQ yg):=by kernel_rfl
abbrev ns:Nat:=100
noncomputable abbrev rO:Func:=Tryz.f100
def lu:prog.funcs[ns]?=some rO:=Tryz.func100
def Kx:rO.body=some (aQ rO):=by kernel_rfl
abbrev nW:Nat:=101
noncomputable abbrev nI:Func:=Tryz.f101
def iz:prog.funcs[nW]?=some nI:=Tryz.func101
def ER:nI.body=some (aQ nI):=by kernel_rfl
abbrev BF:Nat:=102
noncomputable abbrev qg:Func:=Tryz.f102
def xN:prog.funcs[BF]?=some qg:=Tryz.func102
def Ia:qg.body=some (aQ qg):=by kernel_rfl
abbrev GP:Nat:=103
noncomputable abbrev uJ:Func:=Tryz.f103
def CV:prog.funcs[GP]?=some uJ:=Tryz.func103
def Mz:uJ.body=some (aQ uJ):=by kernel_rfl
abbrev qP:Nat:=104
noncomputable abbrev ka:Func:=Tryz.f104
def pn:prog.funcs[qP]?=some ka:=Tryz.func104
def Ag:ka.body=some (aQ ka):=by kernel_rfl
abbrev Es:Nat:=105
noncomputable abbrev sn:Func:=Tryz.f105
def AS:prog.funcs[Es]?=some sn:=Tryz.func105
def KR:sn.body=some (aQ sn):=by kernel_rfl
abbrev GN:Nat:=106
noncomputable abbrev uH:Func:=Tryz.f106
def CT:prog.funcs[GN]?=some uH:=Tryz.func106
def Mx:uH.body=some (aQ uH):=by kernel_rfl
abbrev zJ:Nat:=107
noncomputable abbrev yx:Func:=Tryz.f107
def oz:prog.funcs[zJ]?=some yx:=Tryz.func107
def Pq:yx.body=some (aQ yx):=by kernel_rfl
abbrev iO:Nat:=108
noncomputable abbrev lX:Func:=Tryz.f108
def gZ:prog.funcs[iO]?=some lX:=Tryz.func108
def De:lX.body=some (aQ lX):=by kernel_rfl
abbrev qW:Nat:=109
noncomputable abbrev yw:Func:=Tryz.f109
def ov:prog.funcs[qW]?=some yw:=Tryz.func109
def Pp:yw.body=some (aQ yw):=by kernel_rfl
abbrev qQ:Nat:=110
noncomputable abbrev yp:Func:=Tryz.f110
def ou:prog.funcs[qQ]?=some yp:=Tryz.func110
def Pj:yp.body=some (aQ yp):=by kernel_rfl
abbrev zH:Nat:=111
noncomputable abbrev oS:Func:=Tryz.f111
def wq:prog.funcs[zH]?=some oS:=Tryz.func111
def Hl:oS.body=some (aQ oS):=by kernel_rfl
abbrev FC:Nat:=112
noncomputable abbrev E6:Func:=Tryz.f112
def sU:prog.funcs[FC]?=some E6:=Tryz.func112
def Ud:E6.body=some (aQ E6):=by kernel_rfl
abbrev FD:Nat:=113
noncomputable abbrev E8:Func:=Tryz.f113
def sV:prog.funcs[FD]?=some E8:=Tryz.func113
def F8:E8.body=some (aQ E8):=by kernel_rfl
abbrev zr:Nat:=114
noncomputable abbrev yb:Func:=Tryz.f114
def om:prog.funcs[zr]?=some yb:=Tryz.func114
def O6:yb.body=some (aQ yb):=by kernel_rfl
abbrev sI:Nat:=115
noncomputable abbrev rR:Func:=Tryz.f115
def lv:prog.funcs[sI]?=some rR:=Tryz.func115
def KA:rR.body=some (aQ rR):=by kernel_rfl
abbrev qN:Nat:=116
noncomputable abbrev j9:Func:=Tryz.f116
def pk:prog.funcs[qN]?=some j9:=Tryz.func116
def Af:j9.body=some (aQ j9):=by kernel_rfl
abbrev Ed:Nat:=117
noncomputable abbrev rS:Func:=Tryz.f117
def AE:prog.funcs[Ed]?=some rS:=Tryz.func117
def KB:rS.body=some (aQ rS):=by kernel_rfl
abbrev uj:Nat:=118
noncomputable abbrev lV:Func:=Tryz.f118
def ry:prog.funcs[uj]?=some lV:=Tryz.func118
def Dd:lV.body=some (aQ lV):=by kernel_rfl
abbrev Ju:Nat:=119
noncomputable abbrev yo:Func:=Tryz.f119
def F4:prog.funcs[Ju]?=some yo:=Tryz.func119
def Ph:yo.body=some (aQ yo):=by kernel_rfl
abbrev GU:Nat:=120
noncomputable abbrev uS:Func:=Tryz.f120
def CZ:prog.funcs[GU]?=some uS:=Tryz.func120
def MF:uS.body=some (aQ uS):=by kernel_rfl
abbrev GZ:Nat:=121
noncomputable abbrev vA:Func:=Tryz.f121
def C4:prog.funcs[GZ]?=some vA:=Tryz.func121
def MO:vA.body=some (aQ vA):=by kernel_rfl
abbrev G8:Nat:=122
noncomputable abbrev vE:Func:=Tryz.f122
def C8:prog.funcs[G8]?=some vE:=Tryz.func122
def MS:vE.body=some (aQ vE):=by kernel_rfl
abbrev mr:Nat:=123
noncomputable abbrev lW:Func:=Tryz.f123
def gY:prog.funcs[mr]?=some lW:=Tryz.func123
def pt:lW.body=some (aQ lW):=by kernel_rfl
abbrev zw:Nat:=124
noncomputable abbrev yh:Func:=Tryz.f124
def oo:prog.funcs[zw]?=some yh:=Tryz.func124
def Pc:yh.body=some (aQ yh):=by kernel_rfl
abbrev Jl:Nat:=125
noncomputable abbrev ya:Func:=Tryz.f125
def FW:prog.funcs[Jl]?=some ya:=Tryz.func125
def O5:ya.body=some (aQ ya):=by kernel_rfl
abbrev oe:Nat:=126
noncomputable abbrev iX:Func:=Tryz.f126
def nB:prog.funcs[oe]?=some iX:=Tryz.func126
def xd:iX.body=some (aQ iX):=by kernel_rfl
abbrev sJ:Nat:=127
noncomputable abbrev rX:Func:=Tryz.f127
def ly:prog.funcs[sJ]?=some rX:=Tryz.func127
def KG:rX.body=some (aQ rX):=by kernel_rfl
abbrev ui:Nat:=128
noncomputable abbrev lU:Func:=Tryz.f128
def ru:prog.funcs[ui]?=some lU:=Tryz.func128
def Dc:lU.body=some (aQ lU):=by kernel_rfl
abbrev G5:Nat:=129
noncomputable abbrev vB:Func:=Tryz.f129
def C5:prog.funcs[G5]?=some vB:=Tryz.func129
def MP:vB.body=some (aQ vB):=by kernel_rfl
abbrev Ee:Nat:=130
noncomputable abbrev rT:Func:=Tryz.f130
def AF:prog.funcs[Ee]?=some rT:=Tryz.func130
def KC:rT.body=some (aQ rT):=by kernel_rfl
abbrev Jw:Nat:=131
noncomputable abbrev yr:Func:=Tryz.f131
def F6:prog.funcs[Jw]?=some yr:=Tryz.func131
def Pm:yr.body=some (aQ yr):=by kernel_rfl
abbrev vX:Nat:=132
noncomputable abbrev uV:Func:=Tryz.f132
def mK:prog.funcs[vX]?=some uV:=Tryz.func132
def MI:uV.body=some (aQ uV):=by kernel_rfl
abbrev jI:Nat:=133
noncomputable abbrev Wc:Func:=Tryz.f133
def T9:prog.funcs[jI]?=some Wc:=Tryz.func133
abbrev zA:Nat:=134
noncomputable abbrev oO:Func:=Tryz.f134
def wj:prog.funcs[zA]?=some oO:=Tryz.func134
def Hh:oO.body=some (aQ oO):=by kernel_rfl
abbrev eu:Nat:=135
noncomputable abbrev Hm:Func:=Tryz.f135
def EO:prog.funcs[eu]?=some Hm:=Tryz.func135
abbrev Jx:Nat:=136
noncomputable abbrev yv:Func:=Tryz.f136
def F7:prog.funcs[Jx]?=some yv:=Tryz.func136
def Pn:yv.body=some (aQ yv):=by kernel_rfl
abbrev Em:Nat:=137
noncomputable abbrev sa:Func:=Tryz.f137
def AN:prog.funcs[Em]?=some sa:=Tryz.func137
def KL:sa.body=some (aQ sa):=by kernel_rfl
abbrev Jp:Nat:=138
noncomputable abbrev yf:Func:=Tryz.f138
def F0:prog.funcs[Jp]?=some yf:=Tryz.func138
def Pa:yf.body=some (aQ yf):=by kernel_rfl
abbrev ug:Nat:=139
noncomputable abbrev lS:Func:=Tryz.f139
def rp:prog.funcs[ug]?=some lS:=Tryz.func139
def Da:lS.body=some (aQ lS):=by kernel_rfl
abbrev zu:Nat:=140
noncomputable abbrev oL:Func:=Tryz.f140
def wg:prog.funcs[zu]?=some oL:=Tryz.func140
def He:oL.body=some (aQ oL):=by kernel_rfl
abbrev GW:Nat:=141
noncomputable abbrev uX:Func:=Tryz.f141
def C0:prog.funcs[GW]?=some uX:=Tryz.func141
def ML:uX.body=some (aQ uX):=by kernel_rfl
abbrev GO:Nat:=142
noncomputable abbrev uI:Func:=Tryz.f142
def CU:prog.funcs[GO]?=some uI:=Tryz.func142
def My:uI.body=some (aQ uI):=by kernel_rfl
abbrev kx:Nat:=143
noncomputable abbrev kc:Func:=Tryz.f143
def fW:prog.funcs[kx]?=some kc:=Tryz.func143
def Ah:kc.body=some (aQ kc):=by kernel_rfl
abbrev Jy:Nat:=144
noncomputable abbrev We:Func:=Tryz.f144
def Ub:prog.funcs[Jy]?=some We:=Tryz.func144
abbrev Eg:Nat:=145
noncomputable abbrev rV:Func:=Tryz.f145
def AH:prog.funcs[Eg]?=some rV:=Tryz.func145
def KE:rV.body=some (aQ rV):=by kernel_rfl
abbrev pI:Nat:=146
noncomputable abbrev jw:Func:=Tryz.f146
def iU:prog.funcs[pI]?=some jw:=Tryz.func146
def xX:jw.body=some (aQ jw):=by kernel_rfl
abbrev qT:Nat:=147
noncomputable abbrev kg:Func:=Tryz.f147
def pq:prog.funcs[qT]?=some kg:=Tryz.func147
def Ak:kg.body=some (aQ kg):=by kernel_rfl
abbrev nY:Nat:=149
noncomputable abbrev nL:Func:=Tryz.f149
def iA:prog.funcs[nY]?=some nL:=Tryz.func149
def EU:nL.body=some (aQ nL):=by kernel_rfl
abbrev Jr:Nat:=150
noncomputable abbrev Wb:Func:=Tryz.f150
def T8:prog.funcs[Jr]?=some Wb:=Tryz.func150
abbrev qR:Nat:=151
noncomputable abbrev ke:Func:=Tryz.f151
def po:prog.funcs[qR]?=some ke:=Tryz.func151
def Ai:ke.body=some (aQ ke):=by kernel_rfl
abbrev qS:Nat:=152
noncomputable abbrev kf:Func:=Tryz.f152
def jr:prog.funcs[qS]?=some kf:=Tryz.func152
def Aj:kf.body=some (aQ kf):=by kernel_rfl
abbrev wU:Nat:=154
noncomputable abbrev nM:Func:=Tryz.f154
def tu:prog.funcs[wU]?=some nM:=Tryz.func154
def EV:nM.body=some (aQ nM):=by kernel_rfl
abbrev wT:Nat:=155
noncomputable abbrev nK:Func:=Tryz.f155
def lP:prog.funcs[wT]?=some nK:=Tryz.func155
def ET:nK.body=some (aQ nK):=by kernel_rfl
abbrev BJ:Nat:=158
noncomputable abbrev qm:Func:=Tryz.f158
def xR:prog.funcs[BJ]?=some qm:=Tryz.func158
def Ii:qm.body=some (aQ qm):=by kernel_rfl
abbrev qU:Nat:=159
noncomputable abbrev kh:Func:=Tryz.f159
def pr:prog.funcs[qU]?=some kh:=Tryz.func159
def Al:kh.body=some (aQ kh):=by kernel_rfl
abbrev uk:Nat:=164
noncomputable abbrev lY:Func:=Tryz.f164
def rz:prog.funcs[uk]?=some lY:=Tryz.func164
def Df:lY.body=some (aQ lY):=by kernel_rfl
abbrev QK:Nat:=165
noncomputable abbrev E7:Func:=Tryz.f165
def LH:prog.funcs[QK]?=some E7:=Tryz.func165
def Ue:E7.body=some (aQ E7):=by kernel_rfl
abbrev uh:Nat:=166
noncomputable abbrev lT:Func:=Tryz.f166
def rr:prog.funcs[uh]?=some lT:=Tryz.func166
def Db:lT.body=some (aQ lT):=by kernel_rfl
abbrev ij:Nat:=171
noncomputable abbrev eO:Func:=Tryz.f171
def gT:prog.funcs[ij]?=some eO:=Tryz.func171
def nH:eO.body=some (aQ eO):=by kernel_rfl
def T3:∀ (xs:List Int) (k:Nat),k<xs.length->xs.take (k+1)=xs.take k++[xs.getD k 0]
 | [],k,h=>by simp at h
 | x::xs,0,h=>by simp
 | x::xs,k+1,h=>by
  have:=T3 xs k (by simpa using h);simp at this ⊢;exact this
def R9(x:J)(k:Int):Bool:=decide (0<=k/\k<=(x.M.length:Int) - 1)
def isN(x:J):Bool:=decide (x.aq=5)
def eC:J->List Int->Bool
 | _,[]=>true
 | x,k::ks=>R9 x k&&eC (x.M.getD k.toNat zE) ks
def dM:J->List Int->J
 | x,[]=>x
 | x,k::ks=>dM (x.M.getD k.toNat zE) ks
def o7:J->List Int->Bool
 | _,[]=>false
 | x,k::ks=>isN x||o7 (x.M.getD k.toNat zE) ks
def XB(k:Int):∀ (ks:List Int) (x:J),eC x (ks++[k])=(eC x ks&&R9 (dM x ks) k)/\dM x (ks++[k])=(dM x ks).M.getD k.toNat zE/\o7 x (ks++[k])=(o7 x ks||isN (dM x ks))
 | [],x=>⟨by simp[eC,dM],rfl,by simp[o7,dM]⟩
 | j::ks,x=>by
  obtain⟨h1,h2,h3⟩:=XB k ks (x.M.getD j.toNat zE);simp only[b6g,eC,dM,o7,h1,h2,h3,b8b,Bool.or_assoc,and_self]
def zK(x:J)(ks:List Int)(k:Nat)(h:k<ks.length):eC x (ks.take (k+1))=(eC x (ks.take k)&&R9 (dM x (ks.take k)) (ks.getD k 0)) /\
  dM x (ks.take (k+1))=(dM x (ks.take k)).M.getD (ks.getD k 0).toNat zE/\o7 x (ks.take (k+1))=(o7 x (ks.take k)||isN (dM x (ks.take k))):=by
 rw[T3 ks k h];exact XB _ _ _
def a5s:∀ (ks js:List Int) (x:J),eC x (ks++js)=(eC x ks&&eC (dM x ks) js)
 | [],js,x=>by simp[eC,dM]
 | k::ks,js,x=>by simp only[b6g,eC,dM,a5s ks js,b8b]
def a5t(x:J)(ks:List Int)(k:Nat)(h:eC x (ks.take k)=false):eC x ks=false:=by
 conv=>lhs;rw[<-b6d k ks]
 rw[a5s,h,b6j]
def a0P(x:J)(ks:List Int)(k:Nat)(h:ks.length<=k):eC x (ks.take k)=eC x ks/\dM x (ks.take k)=dM x ks/\o7 x (ks.take k)=o7 x ks:=by
 rw[b5o h];exact⟨rfl,rfl,rfl⟩
def QM:J->List Int->J
 | x,[]=>x
 | x,k::ks=>bif R9 x k then QM (x.M.getD k.toNat zE) ks else x
def YQ:J->List Int->Bool
 | _,[]=>false
 | x,k::ks=>bif R9 x k then isN x||YQ (x.M.getD k.toNat zE) ks else false
def XC:∀ (ks:List Int) (x:J) (k:Nat),k<=ks.length->eC x (ks.take k)=true->(k<ks.length->R9 (dM x (ks.take k)) (ks.getD k 0)=false)->dM x (ks.take k)=QM x ks/\o7 x (ks.take k)=YQ x ks
 | [],x,k,h,_,_=>by rw[List.take_nil];exact⟨rfl,rfl⟩
 | j::js,x,0,_,_,h=>by
  have h:=h (by simp);rw[b5T] at h ⊢;have h:R9 x j=false:=h;simp only[dM,o7,QM,YQ];rw[h];exact⟨rfl,rfl⟩
 | j::js,x,k+1,hl,ho,h=>by
  rw[List.take_succ_cons] at ho h ⊢;simp only[eC,Bool.and_eq_true] at ho;simp only[dM,o7,QM,YQ];rw[ho.1];have:=XC js _ k (by simpa using hl) ho.2 (λ q=>h (by simpa using q));rw[this.1,this.2];exact⟨rfl,rfl⟩
def XA:∀ (ks:List Int) (x:J),eC x ks=true->QM x ks=dM x ks/\YQ x ks=o7 x ks
 | [],_,_=>⟨rfl,rfl⟩
 | j::js,x,h=>by
  simp only[eC,b4S] at h;simp only[dM,o7,QM,YQ];rw[h.1];have:=XA js _ h.2;rw[this.1,this.2];exact⟨rfl,rfl⟩
open Go.RowKit Go.Proofs
set_option maxRecDepth 100000 in
def a7Y(n lo hi:Int)(w:World):Calls prog Ct #[.int .i64 n, .int .i64 lo, .int .i64 hi] w λ e w'=>e = .returned (.bool (decide (lo<=n/\n<=hi)))/\w'=w:=by
 go_enter Tryz.func41,Tryz.ntmps41;go_wp2
 .go_ret;refine⟨?_,rfl⟩;simp_all
 .go_ret;refine⟨?_,rfl⟩;simp;omega
def a6Q(w:World)(x:J)(ks:List Int)(R:Nat->Nat->Nat->Prop):Prop:=∀ k b o,R k b o->k<=ks.length->w.cell? ⟨b,o,none⟩=some (.int .i64 (dM x (ks.take k)).aq) /\
 ∃ a cap,w.cell? ⟨b,o+2,none⟩=some (.slice a (dM x (ks.take k)).M.length cap)/\(dM x (ks.take k)).M.length<=140737488355328/\∀ j:Nat,k<ks.length->ks.getD k 0=(j:Int)->j<(dM x (ks.take k)).M.length->∃ bk q,a=some ⟨bk,q,none⟩/\R (k+1) bk (q+j * 3)
def b1m(w0:World)(x:J)(ks:List Int)(R:Nat->Nat->Nat->Prop)(p bl i:Value)(w:World):Prop :=
 (∃ m,w=w0.drewN m)/\∃ (k b o:Nat),i = .int .i64 (k:Int)/\k<=ks.length/\p = .pointer (some ⟨b,o,none⟩)/\bl = .bool (o7 x (ks.take k))/\eC x (ks.take k)=true/\R k b o
def a7f(n:Nat):Value->Nat
 | .int _ k=>n - k.toNat
 | _=>0
set_option maxRecDepth 100000 in
def a1r(w:World)(x:J)(ks:List Int)(R:Nat->Nat->Nat->Prop)(b0 o0:Nat)(h0:R 0 b0 o0)(hR:a6Q w x ks R)(v:Value)(S:Nat->Prop)(hv:Rd w S (.slice 1 (ks.map (D.int .i64))) [v]) :
  Calls prog td #[.pointer (some ⟨b0,o0,none⟩),v] w λ e w'=>(∃ m,w'=w.drewN m)/\∃ p bl,e = .returned (.tuple #[p, .bool bl, .bool (eC x ks)]) /\
   ∃ k b o,k<=ks.length/\p = .pointer (some ⟨b,o,none⟩)/\R k b o/\dM x (ks.take k)=QM x ks/\bl=YQ x ks/\(eC x ks=true->k=ks.length):=by
 obtain⟨a,cap,hv1,_,Gc,hlen,eG⟩:=hv;simp only[b4X,b5d] at hv1;subst hv1;simp only[b5g] at *
 go_enter Tryz.func91,Tryz.ntmps91;go_wp2;go_loopw [0,7,8] (λ p bl i w'=>b1m w x ks R p bl i w') (λ p bl i w'=>a7f ks.length i)
 .exact⟨⟨0,rfl⟩,0,b0,o0,rfl,b5Y _,rfl,by rw[b5T];rfl,by rw[b5T];rfl,h0⟩
 obtain⟨⟨nd,hwn⟩,k,b,o,rfl,hk,rfl,rfl,Ww,hL⟩:=hrel;have hw:wr.heap=w.heap:=by rw[hwn];rfl
 have hwd:∀ m,∃ m',wr.drewN m=w.drewN m':=λ m=>⟨nd+m,by rw[hwn,World.drewN_drewN]⟩;have hw0:∃ m,wr=w.drewN m:=⟨nd,hwn⟩;clear hwn;obtain⟨tF,a5,b4E,hc5,hl5,WI⟩:=hR k b o hL hk;have hcc:∀ a,wr.cell? a=w.cell? a:=λ a=>by simp only[World.cell?,hw]
 rw[<-hcc] at tF hc5;clear hcc;by_cases hkn:k<ks.length
 .obtain eG|⟨q0,p0,rfl,P8,eG⟩:=eG
  .rw[b7l] at eG;subst eG;simp at hkn
  obtain⟨c0,R0,hc2,hc3⟩:=eG.at_ (n:=1) _ _ _ (λ d hd=>by obtain⟨y,_,rfl⟩:=b4W.1 hd;rfl) k (.int .i64 (ks.getD k 0)) (by simp[hkn]);rw[hc2.1] at hc3;have hck:wr.cell? ⟨q0,p0+k,none⟩=some (.int .i64 (ks.getD k 0)):=by
   have:=hc3 0 _ rfl;rw[<-this];simp only[Nat.mul_one,b6R,World.cell?,hw]
  have lg:=zK x ks k hkn;have b0K:=a5t x ks (k+1);generalize hj:ks.getD k 0=j at *
  generalize hnn:(dM x (ks.take k)).M.length=nk at *
  generalize hkk:(dM x (ks.take k)).aq=kk at *
  generalize hbl:o7 x (ks.take k)=bl at *
  have b3w:isN (dM x (ks.take k))=decide (kk=5):=by unfold isN;rw[hkk]
  have fM:¬ (0<=j/\j<=(nk:Int) - 1)->eC x ks=false/\dM x (ks.take k)=QM x ks/\bl=YQ x ks:=λ h=>by
   refine⟨b0K ?_,?_⟩
   .rw[lg.1];simp only[R9,hnn];rw[b5c h,b6n]
   .have:=XC ks x k hk Ww λ _=>by
     rw[hj];simp only[R9,hnn];exact b5c h
    exact⟨this.1,hbl.symm.trans this.2⟩
  have b0X:∀ j':Nat,j=(j':Int)->j'<nk->eC x (ks.take (k+1))=true:=λ j' e h=>by
   rw[lg.1,Ww];simp only[R9,hnn];rw[b5B (by omega)];rfl
  have hB:=lg.2.2;rw[b3w] at hB;clear lg b0K;cases bl;all_goals
   go_wp2
   go_quiet (first|(go_at_call 41;exact Calls.quiet_of_same (a7Y _ _ _ _)))
   go_wp2
  .rename_i eA;have hb:=fM (by simp at eA;omega);go_ret3;exact⟨hwd _,_,false,by rw[hb.1];rfl,k,b,o,hk,rfl,hL,hb.2.1,hb.2.2,λ e=>by rw[hb.1] at e;cases e⟩
  .rename_i eA;have WD:0<=j/\j<=(nk:Int) - 1:=by simp at eA;omega
   obtain⟨j,rfl⟩:=b7I WD.1;obtain⟨bk,q,rfl,IK⟩:=WI j hkn rfl (by omega);have a7D:=b0X j rfl (by omega);go_quiet (skip);go_wp2;refine⟨⟨hwd _,k+1,bk,q+j * 3,rfl,by omega,rfl,?_,a7D,IK⟩,?_⟩
   .rw[hB];simp;by_cases h5:kk=5<;>simp[h5]
   .simp only[a7f];omega
  .rename_i eA;have hb:=fM (by simp at eA;omega);go_ret3;exact⟨hwd _,_,true,by rw[hb.1];rfl,k,b,o,hk,rfl,hL,hb.2.1,hb.2.2,λ e=>by rw[hb.1] at e;cases e⟩
  .rename_i eA;have WD:0<=j/\j<=(nk:Int) - 1:=by simp at eA;omega
   obtain⟨j,rfl⟩:=b7I WD.1;obtain⟨bk,q,rfl,IK⟩:=WI j hkn rfl (by omega);have a7D:=b0X j rfl (by omega);go_quiet (skip);go_wp2;refine⟨⟨hwd _,k+1,bk,q+j * 3,rfl,by omega,rfl,?_,a7D,IK⟩,?_⟩
   .rw[hB];rfl
   .simp only[a7f];omega
 .go_wp2;have LY:=a0P x ks k (by omega);have hke:k=ks.length:=by omega
  subst hke;go_ret3;rw[LY.1] at Ww;have hs:=XC ks x ks.length (b5w _) (by rw[LY.1];exact Ww) λ h=>absurd h (b7n _);exact⟨hw0,_,o7 x (ks.take ks.length),by rw[Ww];rfl,ks.length,b,o,b5w _,rfl,hL,hs.1,hs.2,λ _=>rfl⟩
def a6K(x:J):x.aP.size=3:=by cases x;rfl
def b2m{w:World}{S T:Nat->Prop}{x:J}{ks:List Int}(hS:∀ b,S b->b<w.heap.size):a6Q w x ks λ k b o=>b<w.heap.size/\(S b\/T b)/\∃ cs,cf w b o cs/\Rd w S (dM x (ks.take k)).aP cs:=by
 rintro k b o ⟨hb,_,cs,hc,hr⟩ hk;have NI:=hr;generalize hz:dM x (ks.take k)=z at *
 cases z with
 | mk kd n M =>
  simp only[J.aP,J.uw] at hr;obtain⟨v0,r0,rfl,a0,v1,r1,rfl,a1,v2,r2,rfl,a2,rfl⟩:=hr;have e0:[v0]=[.int .i64 kd]:=a0.1;obtain⟨a,cap,e2,_,_,hl,eG⟩:=a2;simp only[b4X,b5d] at e0 e2;subst e0 e2;rw[b5g] at hl;refine⟨hc 0 _ rfl,a,cap,by rw[hc 2 _ rfl,b5g],hl,λ j hkn hj Yz=>?_⟩;obtain eG|⟨bk,q,rfl,cA,eG⟩:=eG
  .rw[b7l] at eG;subst eG;simp at Yz
  have Yz:j<M.length:=Yz;obtain⟨c0,R0,hc2,hc3⟩:=eG.at_ (n:=3) _ _ _ (λ d hd=>by obtain⟨y,_,rfl⟩:=b4W.1 hd;exact a6K y) j (M.getD j zE).aP (by simp[Yz]);refine⟨bk,q,rfl,hS bk cA, .inl cA,c0,hc3,?_⟩;have cw:=(zK x ks k hkn).2.1;rw[cw,hz,hj];exact hc2
def qX:Nat->List Arg->Option (Vc×a1k):=λ f zs=>match Nat.beq f td with
 | true=>match zs with
  | [.ref ⟨.st .expr,x⟩, .val ⟨.slice (.int .i64),ks⟩]=>some (.none, .res [(true,⟨.st .expr,QM x ks⟩),(false,⟨.bool,YQ x ks⟩),(false,⟨.bool,eC x ks⟩)])
  | _=>none
 | false=>none
def a9s(x:J)(ks:List Int):a3b prog td [.ref ⟨.st .expr,x⟩, .val ⟨.slice (.int .i64),ks⟩] (.res [(true,⟨.st .expr,QM x ks⟩),(false,⟨.bool,YQ x ks⟩),(false,⟨.bool,eC x ks⟩)]):=by
 intro w S T b9 hS hT ha;match b9,ha with
 | [v1,v2],ha =>
  obtain⟨⟨b,o,cs,rfl,hb,hc,r⟩,r2,_⟩:=ha;have r:Rd w S x.aP cs:=r;have r2:Rd w S (.slice 1 (ks.map (D.int .i64))) [v2]:=r2;have hTb:T b:=hT _ (b7p ..) ⟨b,o,none⟩ rfl;refine (a1r w x ks (λ k b o=>b<w.heap.size/\(S b\/T b)/\∃ cs,cf w b o cs/\Rd w S (dM x (ks.take k)).aP cs) b o (by exact⟨hb, .inr hTb,cs,hc,by rw[b5T];exact r⟩) (b2m hS.1) v2 S r2).mono ?_;rintro e w' ⟨⟨m,rfl⟩,p,bl,rfl,k,b',o',hk,rfl,⟨cA,cw,dE,Ul,NI⟩,hE,rfl,_⟩;refine⟨_,S,rfl,⟨rfl,rfl,rfl,b5w _,λ _ _ _=>rfl⟩,λ _ _=>b6P,hS.1,λ b hb=>(by cases hb),[_,_,_],rfl,⟨b',o',dE,rfl,cw,Ul,?_⟩,rfl,rfl,ae⟩;rw[hE] at NI;exact Rd.aR (w:=w) (w':=w.drewN m) (λ _ h=>h) (λ _ _=>rfl) _ NI
def N7:∀ f args pre cells,qX f args=some (pre,cells)->pre.ok->iw prog f/\a3b prog f args cells:=by
 intro f args pre cells h _;unfold qX at h;split at h
 .rename_i hf;have hf:=b4O hf;subst hf;split at h
  .simp only[b4L,b4P] at h;obtain⟨rfl,rfl⟩:=h;exact⟨⟨_,VN,rfl,by decide⟩,a9s _ _⟩
  .cases h
 .cases h
end Go.Proofs.YtmjfpcajohhbeaaGreatDoor

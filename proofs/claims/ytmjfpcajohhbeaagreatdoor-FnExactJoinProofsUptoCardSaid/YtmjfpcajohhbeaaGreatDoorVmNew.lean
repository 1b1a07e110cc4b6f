/- VmDraw2, VmDraw3, VmFrz, VmMix, VmDraw4, VmGuard, VmCode, VmFun, VmOwnFun, VmStFun, VmTab, VmNew. -/
import Derived.Test.YtmjfpcajohhbeaaGreatDoorVmDraw
import Derived.Eval
import Derived.Deep.LoopGhost
import Derived.Test.YtmjfpcajohhbeaaGreatDoorChecked
import Derived.WalkKit
import Derived.Deep.QuietTactic
import Derived.BigQuiet
import Derived.LoopTactic
set_option linter.all false
namespace Go.Proofs.YtmjfpcajohhbeaaGreatDoor
def b5Z:=@List.singleton_append
def b5D:=@List.length_erase_of_mem
def b5I:=@List.length_pos_of_mem
def b6S:=@List.any_eq_false
def b4H:=@Array.getElem?_eq_some_iff
def b5W:=@List.eq_nil_iff_forall_not_mem
def b4Z:=@Array.size_setIfInBounds
def b5t:=@of_decide_eq_false
def b6a:=@Nat.testBit_two_pow_sub_one
def b7l:=@Classical.not_forall
def b6T:=@Classical.not_imp
def b5E:=@List.mem_append_left
def b7u:=@List.map_congr_left
def b6f:=@List.not_mem_nil
def b7m:=@or_false
def b7a:=@forall_eq_or_imp
def b4X:=@Array.getElem?_eq_none
def b3I:=@Bool.not_eq_true'
def b3u:=@decide_eq_false_iff_not
def b5B:=@List.mem_filterMap
def b7i:=@List.foldl_nil
def b6V:=@Nat.blt_eq
def b4u:=@true_and
def b7b:=@List.filter_cons
def b4T:=@List.mem_filter
def b5g:=@List.mem_of_mem_erase
def b7n:=@List.perm_cons_erase
def b6g:=@List.Sublist.map
def b6I:=@List.erase_sublist
def b5L:=@List.mem_erase_of_ne
def b3z:=@Bool.not_false
def b7v:=@List.filter_sublist
def b7o:=@Bool.or_eq_false_iff
def b7r:=@Bool.false_or
def b6E:=@Go.wp_mono
def b7j:=@Array.getElem?_toList
def b7e:=@Go.calls_of_wp
def b5C:=@Array.mapM_eq_mapM_toList
def b7f:=@Go.Sem.run_map
def b6N:=@Array.getElem?_append_left
def b6F:=@Bool.and_assoc
def b4P:=@Bool.false_and
def b5P:=@List.map_eq_nil_iff
def b3K:=@decide_eq_false
def b4U:=@Bool.and_false
def b4k:=@decide_eq_true
theorem xg(l:List Oper)(es:List QQ)(s0:ai)(π:List Nat)(i:Nat):dR l es s0 (π++[i])=(dR l es s0 π).jw (cE l i) (es.getD i ⟨false, .any,none⟩).v (es.getD i ⟨false, .any,none⟩).ob:=by
 simp[dR,List.foldl_append]
theorem Zz{E:Env}{l:List Oper}{m:Nat}{ck:List Nat}{s0:ai}:∀ (r:List Oper) (i:Nat) (es BN:List QQ) (s s':ai),Trace E l m ck i r es s s'->(∀ j o,r[j]?=some o->l[i+j]?=some o)->BN.length=i ->
  s=dR l (BN++es) s0 (List.range i) ->
  (∀ j o,r[j]?=some o->UR E l m (ck.getD (i+j) 0) (dR l (BN++es) s0 (List.range (i+j))) o ((BN++es).getD (i+j) ⟨false, .any,none⟩))/\s'=dR l (BN++es) s0 (List.range (i+r.length))
 | [],i,[],BN,s,s',h,_,_,hs=>by
  have h:s=s':=h;subst h;exact⟨by simp,by simpa using hs⟩
 | o::r,i,e::es,BN,s,s',h,hl,h0,hs=>by
  obtain⟨h1,h2⟩:=h;have ho:l[i]?=some o:=hl 0 o rfl;have SQ:(BN++e::es).getD i ⟨false, .any,none⟩=e:=by simp[b3N,<-h0]
  have cw:s.jw o.dst e.v e.ob=dR l ((BN++[e])++es) s0 (List.range (i+1)):=by
   rw[b4x,List.range_succ,xg,b5Z,SQ,<-hs];simp[cE,ho]
  have ih:=Zz r (i+1) es (BN++[e]) _ s' h2 (λ j p hj=>by
   have:=hl (j+1) p (by simpa using hj);rwa [show i+(j+1)=i+1+j by omega] at this) (by simp[h0]) cw
  rw[b4x,b5Z] at ih;refine⟨λ j p hj=>?_,by rw[ih.2];congr 2;simp;omega⟩;cases j with
  | zero =>
   simp at hj;subst hj;rw[b5s,SQ,<-hs];exact h1
  | succ j =>
   have:=ih.1 j p (by simpa using hj);rwa [show i+1+j=i+(j+1) by omega] at this
 | [],_,_::_,_,_,_,h,_,_,_=>h.elim
 | _::_,_,[],_,_,_,h,_,_,_=>h.elim
theorem xf:∀ (m:Nat) (π:List Nat),π.Nodup->(∀ k∈π,k<m)->π.length<=m
 | 0,π,_,h=>by
  cases π with
  | nil=>simp
  | cons k r=>exact absurd (h k (by simp)) (by omega)
 | m+1,π,hn,h=>by
  by_cases hm:m∈π
  .have h1:=xf m (π.erase m) (hn.erase m) (λ k hk=>by
    have h2:=(hn.mem_erase_iff).1 hk;have:=h k h2.2;have:=h2.1;omega)
   have h3:=b5D hm;have:0<π.length:=b5I hm;omega
  .have:=xf m π hn (λ k hk=>by
    have:=h k hk;have:k≠m:=λ e=>by subst e;exact hm hk
    omega)
   omega
section
variable {c:Ctx} {G:Gh} {s:ai} {a:Act} {w w':World}
theorem C1.ef{lk:Nat->Option aA}{v:AV}{x:Value}(h:C1 c G lk w v x){d:Nat}(hr:v.refs d=true):lk d≠none:=by
 cases v with
 | ptr i o =>
  have:=b3x (show Nat.beq i d=true from hr);subst this;obtain⟨_,_,_,h3⟩:=h;intro e;rw[e] at h3;cases h3
 | row i =>
  have:=b3x (show Nat.beq i d=true from hr);subst this;obtain⟨_,h3,_⟩:=h;intro e;rw[e] at h3;cases h3
 | eG i k o =>
  have:=b3x (show Nat.beq i d=true from hr);subst this;obtain⟨_,_,_,_,_,_,_,h3,_⟩:=h;intro e;rw[e] at h3;cases h3
 | aw i =>
  have:=b3x (show Nat.beq i d=true from hr);subst this;intro e;have h1:=h.1;rw[e] at h1;cases h1
 | sub i k o z =>
  have:=b3x (show Nat.beq i d=true from hr);subst this;intro e;have h1:=h.1;rw[e] at h1;cases h1
 | eP i k o z =>
  have:=b3x (show Nat.beq i d=true from hr);subst this;intro e;have h1:=h.1;rw[e] at h1;cases h1
 | mp i =>
  have:=b3x (show Nat.beq i d=true from hr);subst this;intro e;have h1:=h.2.1;rw[e] at h1;cases h1
 | agg cs=>exact h.elim
 | iP cs=>exact h.elim
 | c9 f cs=>exact h.elim
 | _=>cases hr
theorem py{d:Nat}:∀ {cs:List AV},AV.gh d cs=true->∃ v∈cs,v.refs d=true
 | v::r,h=>by
  simp only[AV.gh] at h;split at h
  .rename_i hv;exact⟨v,by simp,hv⟩
  .obtain⟨u,hu,hr⟩:=py h;exact⟨u,by simp[hu],hr⟩
theorem aT.mem_left{α β:Type}{R:α->β->Prop}:∀ {Z9:List α} {bs:List β},aT R Z9 bs->∀ x∈Z9,∃ y,R x y
 | _::_,b::_,h,x,hx=>by
  rcases b3S.1 hx with rfl|hx
  .exact⟨b,h.1⟩
  .exact aT.mem_left h.2 x hx
theorem VR.ef{lk:Nat->Option aA}{v:AV}{x:Value}(h:VR c G lk w v x){d:Nat}(hr:v.refs d=true):lk d≠none:=by
 cases v with
 | aF u=>cases hr
 | agg cs =>
  obtain⟨l,_,hl⟩:=h;obtain⟨u,hu,Iz⟩:=py (show AV.gh d cs=true from hr);obtain⟨y,hy⟩:=hl.mem_left u hu;exact hy.ef Iz
 | iP vs =>
  obtain⟨l,_,hl⟩:=h;obtain⟨u,hu,Iz⟩:=py (show AV.gh d vs=true from hr);obtain⟨y,hy⟩:=hl.mem_left u hu;cases u with
  | aw i=>exact C1.ef (c:=c) (G:=G) (w:=w) (v := .aw i) hy Iz
  | agg cs =>
   obtain⟨l,_,hl⟩:=hy;obtain⟨u,hu,Iz⟩:=py (show AV.gh d cs=true from Iz);obtain⟨y,hy⟩:=hl.mem_left u hu;exact hy.ef Iz
  | _=>first|(cases Iz;done)|exact hy.elim
 | c9 f vs =>
  obtain⟨l,_,hl⟩:=h;obtain⟨u,hu,Iz⟩:=py (show AV.gh d vs=true from hr);obtain⟨y,hy⟩:=hl.mem_left u hu;rcases hy.inv with ⟨v,rfl,_⟩|⟨cs,l,rfl,_,hl⟩|h1
  .cases Iz
  .obtain⟨u,hu,Iz⟩:=py (show AV.gh d cs=true from Iz);obtain⟨y,hy⟩:=hl.mem_left u hu;exact hy.ef Iz
  .exact h1.ef Iz
 | ptr i o=>exact C1.ef (c:=c) (G:=G) (w:=w) (v := .ptr i o) h hr
 | row i=>exact C1.ef (c:=c) (G:=G) (w:=w) (v := .row i) h hr
 | eG i k o=>exact C1.ef (c:=c) (G:=G) (w:=w) (v := .eG i k o) h hr
 | aw i=>exact C1.ef (c:=c) (G:=G) (w:=w) (v := .aw i) h hr
 | sub i k o z=>exact C1.ef (c:=c) (G:=G) (w:=w) (v := .sub i k o z) h hr
 | eP i k o z=>exact C1.ef (c:=c) (G:=G) (w:=w) (v := .eP i k o z) h hr
 | mp i=>exact C1.ef (c:=c) (G:=G) (w:=w) (v := .mp i) h hr
 | _=>cases hr
theorem Inv.W6(h:Inv c G s a w){d:Nat}(hd:s.ah d=none):(∀ i,(s.sl i).refs d=false)/\∀ i o,s.ah i=some o->o.refs d=false:=by
 refine⟨λ i=>?_,λ i o ho=>?_⟩
 .cases hr:(s.sl i).refs d with
  | false=>rfl
  | true=>exact absurd hd ((h.aC i).ef hr)
 .cases o with
  | row e τ xs=>rfl
  | aw τ xs=>rfl
  | map m=>rfl
  | box cs =>
   cases hr:aA.refs d (.box cs) with
   | false=>rfl
   | true =>
    obtain⟨b,l,t,_,_,k3⟩:=h.aK i _ ho;obtain⟨u,hu,Iz⟩:=py (show AV.gh d cs=true from hr);obtain⟨y,hy⟩:=k3.mem_left u hu;exact absurd hd (hy.ef Iz)
theorem SW(h0:Inv c G s a w){d:Option Nat}{v:AV}{ob:Option aA}{a':Act}(M4:uf d=true)(uN:∀ i o,d=some i->ob=some o->s.ah i=none)(h:Ad c G s.sl s.aC.length s.ah d a w v ob a' w') :
  ∃ G',Inv c G' (s.jw d v ob) a' w':=by
 obtain⟨x,S',rfl,hI,hx⟩:=h;cases ob with
 | none =>
  refine⟨⟨S',G.η,G.φ⟩,?_⟩;have:s.jw d v none=s.put d v:=by cases d<;>rfl
  rw[this];exact Inv.put (s:=s) hI hx
 | some o =>
  obtain⟨hL,hN,hb⟩:=hx;have hd:∃ i,d=some i:=by cases o<;>first|exact⟨_,hL.choose_spec.1⟩|exact hL.elim
  obtain⟨i,rfl⟩:=hd;have hi:=uN i o rfl rfl;have zU:Inv c ⟨S',G.η,G.φ⟩ s a w':=hI;obtain⟨V2,XX⟩:=zU.W6 hi;have hor:o.refs i=false:=by
   cases o with
   | row e τ xs=>rfl
   | aw τ xs=>rfl
   | map m=>rfl
   | box cs =>
    cases hr:aA.refs i (.box cs) with
    | false=>rfl
    | true =>
     obtain⟨b,l,t,_,_,k3⟩:=hN;obtain⟨u,hu,Iz⟩:=py (show AV.gh i cs=true from hr);obtain⟨y,hy⟩:=k3.mem_left u hu;exact absurd hi (hy.ef Iz)
  have qU:OR c ⟨S',λ j=>if j=i then x else G.η j,G.φ⟩ (λ j=>if j=i then some o else s.ah j) w' i o:=by
   cases o with
   | box cs =>
    obtain⟨b,l,t,k1,k2,k3⟩:=hN;refine⟨b,l,t,by simp[k1],k2,k3.imp λ u y hu hy=>hy.mono (λ j hj=>?_) (λ _ h=>h) (λ _ _=>rfl)⟩;have eQ:j≠i:=λ e=>by
     subst e;have:=mh hu hj;rw[show AV.gh j cs=aA.refs j (.box cs) from rfl,hor] at this;cases this
    simp only[b3H eQ];exact⟨eJ.refl _,ae⟩
   | row e τ xs =>
    obtain⟨l,k1,k2,k3⟩:=hN;exact⟨l,by simpa using k1,k2,k3⟩
   | aw τ xs=>exact hN.elim
   | map m =>
    obtain⟨b,es,clock,k1,k2,k3⟩:=hN;exact⟨b,es,clock,by simp[k1],k2,k3⟩
  have hot:cx (some o)=false:=by
   cases o with
   | aw τ xs=>exact hN.elim
   | _=>rfl
  have h4:=bu.newObj zU i o x hi V2 XX hor qU hot (.inr (b4B M4)) (λ b Ri=>by
   obtain⟨q1,q2,q3⟩:=hb b Ri;have hle:=h0.aS.size;refine⟨by omega,q3,q2,λ j p hjp Tx=>?_,λ j τ xs hj Tx=>?_⟩
   .have:=(h0.place j p b hjp Tx).2.2;omega
   .have:=(h0.aR.pl j τ xs b hj Tx).2.2.1;omega)
  refine⟨⟨S',λ j=>if j=i then x else G.η j,G.φ⟩,?_⟩;unfold Inv;have cr:(s.jw (some i) v (some o)).ah=λ j=>if j=i then some o else s.ah j:=by
   funext j;rw[Ff];by_cases hj:j=i
   .subst hj;simp
   .have:¬ (some i=some j):=by simp;exact λ e=>hj e.symm
    rw[b3H this,b3H hj]
  rw[Qy,cr,RR];refine bu.put h4 ?_;cases o with
  | box cs =>
   obtain⟨j,hj,rfl⟩:=hL;simp only[b3t] at hj;subst hj;obtain⟨b,l,t,k1,k2,k3⟩:=hN;exact⟨b,by simp[k1],k1,by simp[gf]⟩
  | row e τ xs =>
   obtain⟨j,hj,rfl⟩:=hL;simp only[b3t] at hj;subst hj;obtain⟨l,k1,k2,k3⟩:=hN;refine⟨by simp,by simp[isRow],?_⟩;rcases k1.2 with ⟨rfl,_⟩|⟨g,cap,cur,rfl,_⟩
   .exact⟨_,_,_,rfl⟩
   .exact⟨_,_,_,rfl⟩
  | aw τ xs=>exact hN.elim
  | map m =>
   obtain⟨j,hj,rfl⟩:=hL;simp only[b3t] at hj;subst hj;obtain⟨b,es,clock,k1,k2,k3⟩:=hN;exact⟨by simp,by simp[Ni],b,k1⟩
theorem a2X(h:Inv c G s a w)(o:Oper):Inv c G (s.fresh o) a w:=by
 unfold ai.fresh;split
 .rename_i d _ _;obtain⟨h1,_,_⟩:=h.clear d;have cr:ai.ah { s.cp d with aK:=bR d (s.cp d).aK }=λ i=>if i=d then none else (s.cp d).ah i:=by
   funext i;exact eH d _ i
  unfold Inv;show bu c G (s.cp d).sl (s.cp d).aC.length (ai.ah { s.cp d with aK:=bR d (s.cp d).aK }) a w;rw[cr,show (s.cp d).aC.length=s.aC.length from by simp[ai.cp]];exact h1
 .exact h
theorem a1s(s:ai)(o:Oper)(j:Nat):(s.ah j=none->(s.fresh o).ah j=none)/\(xH o.op=true->o.dst=some j->(s.fresh o).ah j=none):=by
 unfold ai.fresh;split
 .rename_i d hc hd;have cr:ai.ah { s.cp d with aK:=bR d (s.cp d).aK } j=if j=d then none else (s.ah j).map (aA.kill d):=by
   show ah (bR d (s.cp d).aK) j=_;rw[eH];have:=congrFun (eh s d) j;show (if j=d then none else (s.cp d).ah j)=_;rw[this]
  rw[cr];refine⟨λ h=>by rw[h];simp,λ _ hj=>?_⟩;rw[hd] at hj;simp only[b3t] at hj;rw[b4d hj.symm]
 .rename_i gm;exact⟨λ h=>h,λ hc hd=>(gm j hc hd).elim⟩
theorem ES:∀ (l:List Oper) {s:ai},Inv c G s a w->Inv c G (l.foldl ai.fresh s) a w
 | [],_,h=>h
 | o::r,_,h=>ES r (a2X h o)
theorem BU:∀ (l:List Oper) (s:ai) (j:Nat),(s.ah j=none->(l.foldl ai.fresh s).ah j=none)/\(∀ o∈l,xH o.op=true->o.dst=some j->(l.foldl ai.fresh s).ah j=none)
 | [],s,j=>⟨λ h=>h,by simp⟩
 | o::r,s,j=>by
  obtain⟨h1,h2⟩:=BU r (s.fresh o) j;obtain⟨h3,h4⟩:=a1s s o j;refine⟨λ h=>h1 (h3 h),λ p hp hc hd=>?_⟩;rcases b3S.1 hp with rfl|hp
  .exact h1 (h4 hc hd)
  .exact h2 p hp hc hd
theorem Vk{E:Env}{lk:Nat->Option aA}{f:FuncId}{Ts:List TypeId}{vs:List AV}{vc:Vc}{v:AV}{ob:Option aA}(h:JO E lk f Ts vs=some (vc,v,ob)):ob=none:=by
 unfold JO at h;repeat' split at h
 all_goals first
  | (simp only[b3t,b3w] at h;exact h.2.2.symm)
  | cases h
theorem SC{E:Env}{lk:Nat->Option aA}{g:AV}{Ts:List TypeId}{vs:List AV}{vc:Vc}{v:AV}{ob:Option aA}(h:CY E lk g Ts vs=some (vc,v,ob)):ob=none:=by
 unfold CY at h;split at h
 .rename_i r hr;repeat' split at hr
  all_goals first
   | (simp only[b3t] at hr h;subst hr;simp only[b3w] at h;exact h.2.2.symm)
   | cases hr
 .repeat' split at h
  all_goals first
   | (simp only[b3t,b3w] at h;exact h.2.2.symm)
   | cases h
theorem Qp{E:Env}{lk:Nat->Option aA}{ev:Operand->AV}{o:Oper}{vc:Vc}{v:AV}{ob:aA}(h:NN E lk ev o=some (vc,v,some ob)):xH o.op=true:=by
 unfold NN at h;split at h;case h_4 T bx=>rw[bx];rfl
 case h_5 T x bx=>rw[bx];rfl
 case h_7 T n ps bx=>rw[bx];rfl
 case h_21 T bx=>rw[bx];rfl
 case h_19 T x y bx=>rw[bx];rfl
 case h_20 cl bx =>
  split at h
  .repeat' split at h
   all_goals first
    | (simp at h;done)
    | cases h
  .rename_i gQ;rw[bx];simp[xH,gQ]
  .rename_i gQ;repeat' (split at h)
   all_goals first|cases h|skip
  .exact absurd (Vk h) (by simp)
  .split at h
   .exact absurd (Vk h) (by simp)
   .exact absurd (SC h) (by simp)
   .exact absurd (SC h) (by simp)
   .cases h
  .cases h
 all_goals (repeat' split at h)
 all_goals first
  | (simp at h;done)
  | cases h
end
theorem HG{l:List Oper}{D:Nat->Prop}(hD:∀ (k:Nat),D k->∀ (o:Oper),l[k]?=some o->∀ e∈o.after.toList,Region.binds .any e=true->D e.on):∀ (i:Nat) (o:Oper),l[i]?=some o->(∀ e∈o.after.toList,Region.binds .any e=true->D e.on) ->
  ∀ k,Nat.testBit ((bU l []).getD i 0) k=true->D k:=by
 obtain⟨r,h1,h2,h3⟩:=Ae l [];rw[h1];simp only[List.nil_append,List.length_nil,Nat.zero_add] at h3 ⊢;intro i;induction i using Nat.strongRecOn with
 | _ i ih =>
  intro o ho b2d k hk;obtain⟨e,he,hb,h⟩:=h3 i o ho k hk;have hde:=b2d e he hb;rcases h with rfl|⟨bK,h⟩
  .exact hde
  .have hll:i<l.length:=(b4p.1 ho).1;have hp:l[e.on]?=some (l[e.on]'(by omega)):=b3Z (by omega);exact ih e.on bK _ hp (λ e' Dh cz=>hD e.on hde _ hp e' Dh cz) k h
theorem cf{l:List Oper}(h:backward l=true):∀ (i:Nat) (o:Oper),l[i]?=some o->∀ e∈o.after.toList,Region.binds .any e=true->e.on<i:=by
 intro i o ho e he hb;unfold backward at h;rw[List.all_eq_true] at h;have hi:i<l.length:=(List.getElem?_eq_some_iff.1 ho).1;have:=h i (by simpa using hi);rw[ho] at this;simp only[List.all_eq_true] at this;have:=this e he;rw[hb] at this;simpa [Nat.blt_eq] using this
theorem Ib:∀ {ds:List (Option Nat)},distinct ds=true->(∀ d∈ds,∃ t,d=some t)/\∀ (j k t:Nat),ds[j]?=some (some t)->ds[k]?=some (some t)->j=k
 | [],_=>⟨by simp,by simp⟩
 | none::_,h=>by cases h
 | some d::r,h=>by
  simp only[distinct] at h;split at h
  .cases h
  .rename_i a1u;obtain⟨h1,h2⟩:=Ib h;have gm:∀ x∈r,x≠some d:=by
    intro x hx e;subst e;rw[b6S] at a1u;have:=a1u _ hx;simp at this
   refine⟨λ x hx=>?_,λ j k t hj hk=>?_⟩
   .rcases b3S.1 hx with rfl|hx
    .exact⟨d,rfl⟩
    .exact h1 x hx
   .cases j with
    | zero =>
     simp at hj;subst hj;cases k with
     | zero=>rfl
     | succ k=>exact absurd rfl (gm _ (List.mem_of_getElem? (by simpa using hk)))
    | succ j =>
     cases k with
     | zero =>
      simp at hk;subst hk;exact absurd rfl (gm _ (List.mem_of_getElem? (by simpa using hj)))
     | succ k=>rw[h2 j k t (by simpa using hj) (by simpa using hk)]
theorem mem_ready{ops:Array Oper}{listed:Array Bool}{i:Nat}(hs:listed.size=ops.size):i∈Region.ready .any ops listed↔∃ o,ops[i]?=some o/\listed.getD i false=false/\∀ e∈o.after.toList,Region.binds .any e=true->listed.getD e.on false=true:=by
 unfold Region.ready;simp only[List.mem_filter,List.mem_range,Bool.and_eq_true,Bool.not_eq_true'];constructor
 .rintro⟨hi,h1,h2⟩;have ho:ops[i]?=some ops[i]:=b4J hi;rw[ho] at h2;simp only[b5S,b6e] at h2;refine⟨_,ho,?_,λ e he hb=>?_⟩
  .have:i<listed.size:=by omega
   simpa [Array.getD_eq_getD_getElem?,this] using h1
  .rw[Array.all_eq_true_iff_forall_mem] at h2;have:=h2 e (by simpa using he);simpa [hb] using this
 .rintro⟨o,ho,h1,h2⟩;have hi:i<ops.size:=(b4H.1 ho).1;refine⟨hi,?_,?_⟩
  .have:i<listed.size:=by omega
   simpa [Array.getD_eq_getD_getElem?,this] using h1
  .rw[ho];simp only[b5S,b6e];rw[Array.all_eq_true_iff_forall_mem];intro e he;cases hb:Region.binds .any e with
   | false=>simp
   | true=>simp[h2 e (by simpa using he) hb]
theorem tH{listed:Array Bool}{i k:Nat}(hi:i<listed.size):(listed.setIfInBounds i true).getD k false=true↔listed.getD k false=true\/k=i:=by
 rw[b4s,b4s,b6B];by_cases h:i=k
 .subst h;simp[hi]
 .simp[h,Ne.symm h]
section
variable {c:Ctx} {G:Gh} {s:ai} {a:Act} {w w':World}
theorem OS(hE:bE c.P c.E){ops:Array Oper}{m:Nat}(dM:backward ops.toList=true)(p8:∀ j o,m<=j->ops.toList[j]?=some o->∀ k,k<j->Nat.testBit ((bU ops.toList []).getD j 0) k=true)
  {Q:ai->Prop} {Q':Exit->Act->World->Prop} (hQ:∀ G s a w,Inv c G s a w->Q s->Q' .normal a w) :
  ∀ (fuel j:Nat) (kn:List (Nat×Bool)) (G:Gh) (s:ai) (a:Act) (w:World) (listed:Array Bool),m<=j->ops.size<=j+fuel->listed.size=ops.size->(∀ k,k<ops.size->(listed.getD k false=true↔k<j)) ->
   Inv c G s a w->ft c.E ops (ops.toList.drop j) kn Q s->wpAny c.P .any ops Q' fuel listed a w:=by
 intro fuel;induction fuel with
 | zero =>
  intro j kn G s a w listed hmj hf cJ hl hI hr;have tg:ops.toList.drop j=[]:=b5H (by simp;omega);rw[tg] at hr;refine⟨?_,hQ _ _ _ _ hI hr⟩;apply b5W.2;intro i hi;obtain⟨o,ho,h1,_⟩:=(mem_ready cJ).1 hi;have bK:=(b4H.1 ho).1;have:=(hl i bK).2 (by omega);rw[h1] at this;cases this
 | succ fuel ih =>
  intro j kn G s a w listed hmj hf cJ hl hI hr;by_cases hj:j<ops.size
  .have ho:ops[j]?=some ops[j]:=b4J hj;have b0z:ops.toList.drop j=ops[j]::ops.toList.drop (j+1):=by
    rw[List.drop_eq_getElem_cons (by simpa using hj)];simp
   rw[b0z] at hr;constructor
   .intro tg;have:j∈Region.ready .any ops listed:=(mem_ready cJ).2 ⟨_,ho,by
     cases hb:listed.getD j false with
     | false=>rfl
     | true=>have:=(hl j hj).1 hb;omega,λ e he hb=>by
     have:=cf dM j ops[j] (by simp) e he hb;exact (hl e.on (by omega)).2 this⟩
    rw[tg] at this;cases this
   .intro i hi;obtain⟨o,cF,h1,h2⟩:=(mem_ready cJ).1 hi;have Lz:=(b4H.1 cF).1;have hge:j<=i:=by
     rcases b4y i j with h|h
     .have:=(hl i Lz).2 h;rw[h1] at this;cases this
     .exact h
    have Dj:i=j:=by
     rcases b4y j i with h|h
     .have eL:=HG (l:=ops.toList) (D:=λ k=>k<j) (λ k hk o' cO e he hb=>by
       have:=cf dM k o' cO e he hb;omega) i o (by simpa using cF) (λ e he hb=>by
        have bK:=cf dM i o (by simpa using cF) e he hb;exact (hl e.on (by omega)).1 (h2 e he hb)) j (p8 i o (by omega) (by simpa using cF) j h)
      omega
     .omega
    subst Dj;have hoe:o=ops[i]:=by rw[ho] at cF;exact (b6l cF).symm
    have yo:∀ k,k<ops.size->((listed.setIfInBounds i true).getD k false=true↔k<i+1):=λ k hk=>by
     rw[tH (by omega),hl k hk];omega
    unfold wpOp;simp only[ho];have kV:=Ey hE hI hr;split at kV
    .rename_i hw;rw[b4d hw];exact .inl (b5d (λ a' w' ⟨G',s',oM,h1,h2⟩=>ih (i+1) oM G' s' a' w' _ (by omega) (by omega) (by rw[b4Z];exact cJ) yo h1 h2) (kV Q'))
    .rename_i hw;rw[b3H hw];obtain⟨G',s',oM,h1,h2⟩:=kV;exact ih (i+1) oM G' s' _ w _ (by omega) (by omega) (by rw[b4Z];exact cJ) yo h1 h2
  .have tg:ops.toList.drop j=[]:=b5H (by simp;omega);rw[tg] at hr;have hH:Region.ready .any ops listed=[]:=by
    apply b5W.2;intro i hi;obtain⟨o,ho,h1,_⟩:=(mem_ready cJ).1 hi;have bK:=(b4H.1 ho).1;have:=(hl i bK).2 (by omega);rw[h1] at this;cases this
   exact⟨λ _=>hQ _ _ _ _ hI hr,λ i hi=>by rw[hH] at hi;cases hi⟩
theorem Lw{l:List Oper}{ops:Array Oper}(hl:ops.toList=l){bits:Nat}{o:Oper}{Lh:Bool}(h:Inv c G s a w)(hg:gj l bits s o Lh):Region.wanted o (yielded ops a.tmps)=Lh:=by
 unfold gj at hg;split at hg
 .rename_i hn;simp[Region.wanted,hn,hg]
 .rename_i g want hn;obtain⟨t,v,h1,_,h3,h4⟩:=hg;have hx:=br h (.tmp t);rw[h3] at hx;have hs:yg ops g=some t:=by
   unfold yg;rw[<-h1];unfold cE;rw[<-hl];simp
  unfold GV at h4;split at h4
  .have hy:=M1 (s:=s) hs hx;simp[Region.wanted,hn,hy,h4]
  .have hy:=Ir (s:=s) hs hx;simp[Region.wanted,hn,hy,h4]
  .exact h4.elim
theorem a2A(hE:bE c.P c.E){ops:Array Oper}{m:Nat}{es:List QQ}{s0:ai}(dM:backward ops.toList=true)(hm:m<=ops.size)
  (p8:∀ j o,m<=j->ops.toList[j]?=some o->∀ k,k<j->Nat.testBit ((bU ops.toList []).getD j 0) k=true)
  (p9:∀ j k t,j<m->k<m->cE ops.toList j=some t->cE ops.toList k=some t->j=k)
  (a6U:∀ i o,i<m->ops.toList[i]?=some o->UR c.E ops.toList m ((bU ops.toList []).getD i 0) (dR ops.toList es s0 (List.range i)) o (es.getD i ⟨false, .any,none⟩))
  (M4:∀ i o,i<m->ops.toList[i]?=some o->uf o.dst=true) (rZ:∀ i o t,i<m->ops.toList[i]?=some o->xH o.op=true->o.dst=some t->s0.ah t=none)
  {Q:ai->Prop} {Q':Exit->Act->World->Prop} (hQ:∀ G s a w,Inv c G s a w->Q s->Q' .normal a w) {kn:List (Nat×Bool)} (Lx:∀ G a w,Inv c G (dR ops.toList es s0 (List.range m)) a w->ft c.E ops (ops.toList.drop m) kn Q (dR ops.toList es s0 (List.range m))) :
  ∀ (fuel:Nat) (π:List Nat) (G:Gh) (a:Act) (w:World) (listed:Array Bool),ops.size=π.length+fuel->π.Nodup->(∀ k∈π,k<m)->listed.size=ops.size->(∀ k,k<ops.size->(listed.getD k false=true↔k∈π)) ->
   (∀ k∈π,∀ o,ops.toList[k]?=some o->∀ e∈o.after.toList,Region.binds .any e=true->e.on∈π)->Inv c G (dR ops.toList es s0 π) a w->wpAny c.P .any ops Q' fuel listed a w:=by
 intro fuel;induction fuel with
 | zero =>
  intro π G a w listed hf hn bK cJ hl yl hI;have hlen:=xf m π hn bK;have kF:∀ k,k<m->k∈π:=λ k hk=>by
   cases hb:decide (k∈π) with
   | true=>exact b4l hb
   | false =>
    have:=xf m (k::π) (b4n.2 ⟨b5t hb,hn⟩) (λ j hj=>by
     rcases b3S.1 hj with rfl|hj
     .exact hk
     .exact bK j hj)
    simp at this;omega
  suffices zU:Inv c G (dR ops.toList es s0 (List.range m)) a w from OS hE dM p8 hQ 0 m kn G (dR ops.toList es s0 (List.range m)) a w listed (b4h _) (by omega) cJ (λ k hk=>by rw[hl k hk];exact⟨bK k,kF k⟩) zU (Lx G a w zU)
  have heq:∀ t,(dR ops.toList es s0 π).sl t=(dR ops.toList es s0 (List.range m)).sl t/\(dR ops.toList es s0 π).ah t=(dR ops.toList es s0 (List.range m)).ah t:=λ t =>
   Xn (bits:=2 ^ m - 1) p9 bK (by simp) hn List.nodup_range (λ k hk _=>⟨kF k hk,by simpa using hk⟩) t (by
    unfold hidden;rw[List.any_eq_false];intro k hk;simp only[List.mem_range] at hk;split
    .split
     .simp[b6a,hk]
     .simp
    .simp)
  unfold Inv at hI ⊢;rw[PZ] at hI ⊢;rw[<-funext λ t=>(heq t).1,<-funext λ t=>(heq t).2];exact hI
 | succ fuel ih =>
  intro π G a w listed hf hn bK cJ hl yl hI;by_cases kF:∀ k,k<m->k∈π
  .suffices zU:Inv c G (dR ops.toList es s0 (List.range m)) a w from OS hE dM p8 hQ (fuel+1) m kn G (dR ops.toList es s0 (List.range m)) a w listed (b4h _) (by have:=xf m π hn bK;omega) cJ (λ k hk=>by rw[hl k hk];exact⟨bK k,kF k⟩) zU (Lx G a w zU)
   have heq:∀ t,(dR ops.toList es s0 π).sl t=(dR ops.toList es s0 (List.range m)).sl t/\(dR ops.toList es s0 π).ah t=(dR ops.toList es s0 (List.range m)).ah t:=λ t =>
    Xn (bits:=2 ^ m - 1) p9 bK (by simp) hn List.nodup_range (λ k hk _=>⟨kF k hk,by simpa using hk⟩) t (by
     unfold hidden;rw[List.any_eq_false];intro k hk;simp only[List.mem_range] at hk;split
     .split
      .simp[b6a,hk]
      .simp
     .simp)
   unfold Inv at hI ⊢;rw[PZ] at hI ⊢;rw[<-funext λ t=>(heq t).1,<-funext λ t=>(heq t).2];exact hI
  ·
   have hex:∃ k,k<m/\k∉π/\∀ j,j<k->j∈π:=by
    have:∀ n,(∃ k,k<n/\k<m/\k∉π)->∃ k,k<m/\k∉π/\∀ j,j<k->j∈π:=by
     intro n;induction n with
     | zero=>rintro⟨k,hk,_⟩;omega
     | succ n ihn =>
      rintro⟨k,hk,hkm,BY⟩;by_cases hs:∃ k,k<n/\k<m/\k∉π
      .exact ihn hs
      .refine⟨k,hkm,BY,λ j hj=>?_⟩;cases hb:decide (j∈π) with
       | true=>exact b4l hb
       | false=>exact absurd ⟨j,by omega,by omega,b5t hb⟩ hs
    refine this m ?_;have h1:∃ k,¬ (k<m->k∈π):=b7l.1 kF;obtain⟨k,hk⟩:=h1;have h2:=b6T.1 hk;exact⟨k,h2.1,h2.1,h2.2⟩
   obtain⟨k0,a4s,tf,a1A⟩:=hex;have a1x:ops[k0]?=some (ops[k0]'(by omega)):=b4J (by omega);constructor
   .intro tg;have:k0∈Region.ready .any ops listed:=(mem_ready cJ).2 ⟨_,a1x,by
     cases hb:listed.getD k0 false with
     | false=>rfl
     | true=>exact absurd ((hl k0 (by omega)).1 hb) tf,λ e he hb=>by
     have a1z:=cf dM k0 ops[k0] (by simp) e he hb;exact (hl e.on (by omega)).2 (a1A e.on a1z)⟩
    rw[tg] at this;cases this
   .intro i hi;obtain⟨o,cF,h1,h2⟩:=(mem_ready cJ).1 hi;have Lz:=(Array.getElem?_eq_some_iff.1 cF).1;have eE:ops.toList[i]?=some o:=by simpa using cF
    have wR:i∉π:=λ hh=>by
     have:=(hl i Lz).2 hh;rw[h1] at this;cases this
    have VX:∀ e∈o.after.toList,Region.binds .any e=true->e.on∈π:=λ e he hb=>by
     have a1z:=cf dM i o eE e he hb;exact (hl e.on (by omega)).1 (h2 e he hb)
    have FX:=HG (l:=ops.toList) (D:=λ k=>k∈π) (λ k hk o' cO e he hb=>yl k hk o' cO e he hb) i o eE VX;have te:i<m:=by
     rcases b4y i m with h|h
     .exact h
     .exact absurd (FX k0 (p8 i o h eE k0 (by omega))) tf
    have Pu:=HG (l:=ops.toList) (D:=λ k=>k<i) (λ k hk o' cO e he hb=>by
     have:=cf dM k o' cO e he hb;omega) i o eE (λ e he hb=>cf dM i o eE e he hb)
    have Nf:=λ t hh=>Xn (l:=ops.toList) (es:=es) (s0:=s0) (m:=m) (bits:=(bU ops.toList []).getD i 0) (π:=π) (π':=List.range i) p9 bK (by intro k hk;simp at hk;omega) hn b6t
     (λ k hk hb=>⟨FX k hb,by simpa using Pu k hb⟩) t hh
    obtain⟨hg,cG,a3h⟩:=a6U i o te eE;have cU:XM ops.toList m ((bU ops.toList []).getD i 0) (dR ops.toList es s0 (List.range i))=XM ops.toList m ((bU ops.toList []).getD i 0) (dR ops.toList es s0 π):=by
     funext x;cases x with
     | tmp t =>
      simp only[XM];split
      .rfl
      .rename_i hh;exact ((Nf t hh).1).symm
     | _=>rfl
    have cr:Ua ops.toList m ((bU ops.toList []).getD i 0) (dR ops.toList es s0 (List.range i))=Ua ops.toList m ((bU ops.toList []).getD i 0) (dR ops.toList es s0 π):=by
     funext t;simp only[Ua];split
     .rfl
     .rename_i hh;exact ((Nf t hh).2).symm
    have hg':gj ops.toList ((bU ops.toList []).getD i 0) (dR ops.toList es s0 π) o (es.getD i ⟨false, .any,none⟩).Lh:=by
     unfold gj at hg ⊢;split
     .rename_i BZ;simpa [BZ] using hg
     .rename_i g want BZ;simp only[BZ] at hg;obtain⟨t,b,q1,q2,q3,q4⟩:=hg;refine⟨t,b,q1,q2,?_,q4⟩;have hgm:g<m:=Nat.lt_trans (Pu g q2) te;have hh:hidden ops.toList m ((bU ops.toList []).getD i 0) t=false:=by
       unfold hidden;rw[List.any_eq_false];intro k hk;simp only[List.mem_range] at hk;split
       .rename_i d hd;split
        .rename_i It;have It:=b3x It;subst It;have:=p9 k g d hk hgm hd q1;subst this;rw[q2];simp
        .simp
       .simp
      exact ((Nf t hh).1).trans q3
    have hw:=Lw (ops:=ops) rfl hI hg';have ym:∀ (G':Gh) (a':Act) (w':World),Inv c G' (dR ops.toList es s0 (π++[i])) a' w'->wpAny c.P .any ops Q' fuel (listed.setIfInBounds i true) a' w':=by
     intro G' a' w' zU;refine ih (π++[i]) G' a' w' _ (by simp;omega) ?_ ?_ (by rw[b4Z];exact cJ) ?_ ?_ zU
     .rw[b4a];exact⟨hn,by simp,λ x hx y hy=>by simp at hy;subst hy;exact λ e=>wR (e ▸ hx)⟩
     .intro k hk;rcases b3y.1 hk with hk|hk
      .exact bK k hk
      .simp at hk;omega
     .intro k hk;rw[tH (by omega),hl k hk];simp
     .intro k hk o' cO e he hb;rcases b3y.1 hk with hk|hk
      .exact b5E _ (yl k hk o' cO e he hb)
      .simp at hk;subst hk;rw[eE] at cO;simp only[b3t] at cO;subst cO;exact b5E _ (VX e he hb)
    have Rk:cE ops.toList i=o.dst:=by simp[cE,eE]
    unfold wpOp;simp only[cF];cases PG:(es.getD i ⟨false, .any,none⟩).Lh with
    | true =>
     rw[PG] at hw;rw[b4d hw];obtain⟨vc,hq,er⟩:=cG PG;rw[cU,cr] at hq;refine .inl (b5d ?_ (NO hE hI (lk':=Ua ops.toList m ((bU ops.toList []).getD i 0) (dR ops.toList es s0 π)) ?_ ?_ hq er))
     .intro a' w' hd;obtain⟨G',nP⟩:=SW hI (M4 i o te eE) (λ t ob It TA=>by
       rw[TA] at hq;have VW:=Qp hq;have h0:=rZ i o t te eE VW It;have Dk:=(gF ops.toList es t π s0 (λ k hk hkd=>by
        have:=p9 k i t (bK k hk) te hkd (by rw[Rk];exact It);subst this;exact wR hk)).2
       rw[Dk,h0]) hd
      refine ym G' a' w' ?_;rw[xg,Rk];exact nP
     .intro id ob aZ;unfold Ua at aZ;split at aZ
      .cases aZ
      .exact aZ
     .intro x;cases x with
      | tmp t =>
       simp only[XM];split
       .trivial
       .exact br hI (.tmp t)
      | const v=>exact br hI (.const v)
      | global g=>exact br hI (.global g)
      | func f=>exact br hI (.func f)
    | false =>
     rw[PG] at hw;rw[hw];obtain⟨hv,TA⟩:=a3h PG;refine ym G _ w ?_;rw[xg,Rk,hv,TA,RQ];exact Inv.put (v := .ei) hI rfl
theorem Wm{l:List Oper}{K:Prop}(h:Inv c G s a w):xe l s K->K:=by
 induction l with
 | nil=>exact λ h=>h
 | cons o r ih =>
  intro hk;simp only[xe] at hk;split at hk
  .exact ih (JY (h.aC _) hk)
  .exact ih hk
theorem Ve(hE:bE c.P c.E)(hU:c.P.follows .mixedOrders=true){id:Nat}{ops:Array Oper}{Q:ai->Prop}{Q':Exit->Act->World->Prop}(hQ:∀ G s a w,Inv c G s a w->Q s->Q' .normal a w)
  (h:Inv c G s a w) (hd:Vd c.E ops Q s):(Code.region id ops true).wp c.P Q' a w:=by
 unfold Vd at hd;simp only at hd;split at hd;case h_2=>exact hd.elim
 case h_1 hb =>
  simp only[Bool.and_eq_true] at hb;obtain⟨Pv,yi,dM⟩:=hb;obtain⟨r,ha1,ha2,_⟩:=Ae ops.toList [];have VU:(bU ops.toList []).length=ops.size:=by rw[ha1];simpa using ha2
  obtain⟨hm1,_,hm3⟩:=Ci (bU ops.toList []) 0 0 (b4h _);simp only[b5b] at hm1 hm3;rw[VU] at hm1;generalize hmd:nW (bU ops.toList []) 0 0=m at *
  have p8:∀ j o,m<=j->ops.toList[j]?=some o->∀ k,k<j->Nat.testBit ((bU ops.toList []).getD j 0) k=true:=by
   intro j o hmj ho k hk;have hj:j<ops.size:=by have:=(List.getElem?_eq_some_iff.1 ho).1;simpa using this
   have hg:(bU ops.toList [])[j]?=some ((bU ops.toList [])[j]'(by omega)):=List.getElem?_eq_getElem (by omega);have:=hm3 j _ hg hmj;rw[List.getD_eq_getElem?_getD,hg,Option.getD_some,show (bU ops.toList [])[j]'(by omega)=2 ^ j - 1 by omega,Nat.testBit_two_pow_sub_one];simpa using hk
  obtain⟨_,Rk⟩:=Ib yi;have p9:∀ j k t,j<m->k<m->cE ops.toList j=some t->cE ops.toList k=some t->j=k:=by
   have get:∀ j t,j<m->cE ops.toList j=some t->((ops.toList.take m).map (·.dst))[j]?=some (some t):=by
    intro j t hj PA;unfold cE at PA;simp only[Option.bind_eq_some_iff] at PA;obtain⟨o,ho,hot⟩:=PA;rw[List.getElem?_map,List.getElem?_take,if_pos hj,ho];simp[hot]
   intro j k t hj hk PA hkt;exact Rk j k t (get j t hj PA) (get k t hk hkt)
  obtain⟨es,oM,s',Ho,hq⟩:=sI hd;have hlen:(ops.toList.take m).length=m:=by simp;omega
  have yn:∀ j o,(ops.toList.take m)[j]?=some o->ops.toList[0+j]?=some o:=λ j o ho=>by
   rw[b4W] at ho;split at ho
   .simpa using ho
   .cases ho
  obtain⟨ht1,ht2⟩:=Zz (ops.toList.take m) 0 es [] _ s' Ho yn rfl rfl;simp only[b3Y,b5b,hlen] at ht1 ht2;subst ht2;have hI0:Inv c G ((ops.toList.take m).foldl ai.fresh s) a w.drew:=ES _ (bu.drew h);refine wp_region_any hU ?_;refine a2A hE (m:=m) (es:=es) (s0:=(ops.toList.take m).foldl ai.fresh s) dM hm1 p8 p9 ?_ (λ i o te ho=>b4r.1 Pv o (b4S (by rw[b4W,b4d te];exact ho))) ?_ hQ (kn:=oM) (λ G a w hI=>Wm hI hq) ops.size [] G a _ _ (by simp) (by simp) (by simp) (by simp) ?_ (by simp) hI0
  .intro i o te ho;exact ht1 i o (by rw[b4W,b4d te];exact ho)
  .intro i o t te ho hc It;exact (BU (ops.toList.take m) s t).2 o (b4S (by rw[b4W,b4d te];exact ho)) hc It
  .intro k hk;simp[hk]
end
section
variable {w w':World}
theorem UQ.ctx{c c':Ctx}{S:Nat->Prop}{v:Arg}{x:Value}(h:UQ c S w v x)(cw:∀ b,St c S b->St c' S b):UQ c' S w v x:=by
 cases v with
 | ref v=>obtain⟨b,o,cs,h1,h2,h3⟩:=h;exact⟨b,o,cs,h1,cw b h2,h3⟩
 | val v=>exact h
 | fn f=>exact h
 | c9 v=>exact h
 | own v=>exact h
 | box k=>exact h
theorem C1.ctx{c c':Ctx}(hP:c'.P=c.P){G:Gh}{lk:Nat->Option aA}{v:AV}{x:Value}(h:C1 c G lk w v x)(cw:∀ b,St c G.S b->St c' G.S b):C1 c' G lk w v x:=by
 cases v with
 | cZ v=>obtain⟨b,o,cs,h1,h2,h3⟩:=h;exact⟨b,o,cs,h1,cw b h2,h3⟩
 | iC v=>obtain⟨f,eO,l,h1,h2,h3⟩:=h;exact⟨f,eO,l,h1,hP ▸ h2,h3.imp λ _ _ _ q=>q.ctx cw⟩
 | _=>exact h
theorem TR.ctx{c c':Ctx}(hP:c'.P=c.P){G:Gh}{lk:Nat->Option aA}{v:AV}{x:Value}(h:TR c G lk w v x)(cw:∀ b,St c G.S b->St c' G.S b):TR c' G lk w v x:=by
 cases v with
 | aw id=>exact (show C1 c G lk w (.aw id) x from h).ctx hP cw
 | cZ v=>exact (show C1 c G lk w (.cZ v) x from h).ctx hP cw
 | agg cs=>obtain⟨l,h1,h2⟩:=h;exact⟨l,h1,h2.imp λ _ _ _ q=>q.ctx hP cw⟩
 | aF v=>exact h
 | any=>trivial
 | _=>exact h.elim
theorem CR.ctx{c c':Ctx}(hP:c'.P=c.P){G:Gh}{lk:Nat->Option aA}{v:AV}{x:Value}(h:CR c G lk w v x)(cw:∀ b,St c G.S b->St c' G.S b):CR c' G lk w v x:=by
 cases v with
 | aF v=>exact h
 | agg cs=>obtain⟨l,h1,h2⟩:=h;exact⟨l,h1,h2.imp λ _ _ _ q=>q.ctx hP cw⟩
 | any=>exact (show C1 c G lk w (.any) x from h).ctx hP cw
 | ei=>exact (show C1 c G lk w (.ei) x from h).ctx hP cw
 | nil=>exact (show C1 c G lk w (.nil) x from h).ctx hP cw
 | cZ v=>exact (show C1 c G lk w (.cZ v) x from h).ctx hP cw
 | ptr i o=>exact (show C1 c G lk w (.ptr i o) x from h).ctx hP cw
 | row i=>exact (show C1 c G lk w (.row i) x from h).ctx hP cw
 | eG i j o=>exact (show C1 c G lk w (.eG i j o) x from h).ctx hP cw
 | iP vs=>exact (show C1 c G lk w (.iP vs) x from h).ctx hP cw
 | fn f=>exact (show C1 c G lk w (.fn f) x from h).ctx hP cw
 | aw i=>exact (show C1 c G lk w (.aw i) x from h).ctx hP cw
 | sub i j o z=>exact (show C1 c G lk w (.sub i j o z) x from h).ctx hP cw
 | eP i j o z=>exact (show C1 c G lk w (.eP i j o z) x from h).ctx hP cw
 | c9 f cs=>exact (show C1 c G lk w (.c9 f cs) x from h).ctx hP cw
 | iC v=>exact (show C1 c G lk w (.iC v) x from h).ctx hP cw
 | mp i=>exact (show C1 c G lk w (.mp i) x from h).ctx hP cw
theorem VR.ctx{c c':Ctx}(hP:c'.P=c.P){G:Gh}{lk:Nat->Option aA}{v:AV}{x:Value}(h:VR c G lk w v x)(cw:∀ b,St c G.S b->St c' G.S b):VR c' G lk w v x:=by
 cases v with
 | aF v=>exact h
 | agg cs=>obtain⟨l,h1,h2⟩:=h;exact⟨l,h1,h2.imp λ _ _ _ q=>q.ctx hP cw⟩
 | iP vs=>obtain⟨l,h1,h2⟩:=h;exact⟨l,h1,h2.imp λ _ _ _ q=>q.ctx hP cw⟩
 | c9 f cs=>obtain⟨l,h1,h2⟩:=h;exact⟨l,h1,h2.imp λ _ _ _ q=>q.ctx hP cw⟩
 | any=>exact (show C1 c G lk w (.any) x from h).ctx hP cw
 | ei=>exact (show C1 c G lk w (.ei) x from h).ctx hP cw
 | nil=>exact (show C1 c G lk w (.nil) x from h).ctx hP cw
 | cZ v=>exact (show C1 c G lk w (.cZ v) x from h).ctx hP cw
 | ptr i o=>exact (show C1 c G lk w (.ptr i o) x from h).ctx hP cw
 | row i=>exact (show C1 c G lk w (.row i) x from h).ctx hP cw
 | eG i j o=>exact (show C1 c G lk w (.eG i j o) x from h).ctx hP cw
 | fn f=>exact (show C1 c G lk w (.fn f) x from h).ctx hP cw
 | aw i=>exact (show C1 c G lk w (.aw i) x from h).ctx hP cw
 | sub i j o z=>exact (show C1 c G lk w (.sub i j o z) x from h).ctx hP cw
 | eP i j o z=>exact (show C1 c G lk w (.eP i j o z) x from h).ctx hP cw
 | iC v=>exact (show C1 c G lk w (.iC v) x from h).ctx hP cw
 | mp i=>exact (show C1 c G lk w (.mp i) x from h).ctx hP cw
theorem OR.ctx{c c':Ctx}(hP:c'.P=c.P){G:Gh}{lk:Nat->Option aA}{id:Nat}{o:aA}(h:OR c G lk w id o)(cw:∀ b,St c G.S b->St c' G.S b):OR c' G lk w id o:=by
 cases o with
 | box cs=>obtain⟨b,l,t,h1,h2,h3⟩:=h;exact⟨b,l,t,h1,h2,h3.imp λ _ _ _ q=>q.ctx hP cw⟩
 | row e τ xs=>exact h
 | aw τ xs=>exact h
 | map m=>exact h
def Ctx.fz(c:Ctx)(w:World)(S:Nat->Prop)(Z:Nat->Prop):Ctx :=
 { c with w0:=w,X:=λ b=>((c.w0.heap.size<=b/\b<w.heap.size)\/c.X b)/\¬ Z b,S0:=S,Z:=λ b=>Z b\/c.Z b }
theorem Inv.fz{c:Ctx}{G:Gh}{s:ai}{a:Act}(h:Inv c G s a w){Z:Nat->Prop}(hZ:∀ b,Z b->wJ c G s.ah w b):Inv (c.fz w G.S Z) G s a w:=by
 have cw:∀ b,St c G.S b->St (c.fz w G.S Z) G.S b:=λ b hb=>by
  rcases hb with hb|⟨h1,h2,h3⟩
  .exact .inl hb
  .refine .inr ⟨b3P h1 h.aS.size,λ q=>q.1.elim (λ q=>by omega) h2,λ q=>q.elim (λ z=>(hZ b z).1.elim (λ q=>by omega) h2) h3⟩
 exact {
  defers:=h.defers,size:=h.size
  aS:=bC.refl _ _
  jE:=⟨λ b hb=>hb.1.elim (λ q=>q.2) λ q=>b3P (h.jE.1 b q) h.aS.size,λ g hg=>by
   obtain⟨_,h2,h3,_⟩:=h.jE.2 g hg;obtain⟨g1,g2⟩:=h.sOk.2 g hg;exact⟨g1,λ q=>q.1.elim (λ q=>by omega) h2,h.dE g g1,g2⟩⟩
  ez:=λ b _ _=>b5z
  sX:=λ b hb=>hb
  dE:=h.dE
  aC:=λ i=>(h.aC i).ctx (c:=c) (c':=c.fz w G.S Z) rfl cw
  aK:=λ id o ho=>(h.aK id o ho).ctx (c:=c) (c':=c.fz w G.S Z) rfl cw
  place:=λ id o b ho hb=>by
   obtain⟨h1,h2,h3⟩:=h.place id o b ho hb;exact⟨.inr ⟨h1.imp (λ q=>⟨q,h3⟩) (λ q=>q),λ z=>(hZ b z).2.2.2.1 id o ho hb⟩,h2,h3⟩
  apart:=h.apart
  aR:={
   tr:=h.aR.tr,nd:=h.aR.nd,ap:=h.aR.ap
   pl:=λ id τ xs b ht hb=>by
    obtain⟨h1,h2,h3,h4⟩:=h.aR.pl id τ xs b ht hb;exact⟨.inr ⟨h1.imp (λ q=>⟨q,h3⟩) (λ q=>q),λ z=>(hZ b z).2.2.2.2 id τ xs ht hb⟩,h2,h3,h4⟩ }
  root:=h.root,iO:=h.iO,du:=h.du,fc:=h.fc }
theorem Inv.b2P{c:Ctx}{G:Gh}{s:ai}{a:Act}{G':Gh}{s':ai}{a':Act}(h:Inv c G s a w){Z:Nat->Prop}(hZ:∀ b,Z b->wJ c G s.ah w b)(h':Inv (c.fz w G.S Z) G' s' a' w') :
  Inv c G' s' a' w'/\∀ b,Z b->w'.heap[b]?=w.heap[b]?/\wJ c G' s'.ah w' b:=by
 have cw:∀ b,St (c.fz w G.S Z) G'.S b->St c G'.S b:=λ b hb=>by
  rcases hb with hb|⟨h1,h2,h3⟩
  .exact .inl hb
  .have hz:¬ Z b:=λ z=>h3 (.inl z);refine .inr ⟨?_,λ q=>h2 ⟨.inr q,hz⟩,λ q=>h3 (.inr q)⟩;rcases b4y b c.w0.heap.size with q|q
   .exact q
   .exact absurd ⟨.inl ⟨q,h1⟩,hz⟩ h2
 have back:∀ b,(w.heap.size<=b\/(c.fz w G.S Z).X b)->c.w0.heap.size<=b\/c.X b:=λ b hb=>by
  have:=h.aS.size;exact hb.elim (λ q => .inl (by omega)) λ q=>q.1.elim (λ q => .inl q.1) .inr
 refine⟨{
  defers:=h'.defers,size:=h'.size
  aS:=h.aS.trans h'.aS λ i hi hx=>hx.1.elim (λ q=>by omega) (λ q=>q)
  jE:=h.jE
  ez:=λ b hb hx=>(h'.ez b (b3P hb h.aS.size) (λ q=>q.1.elim (λ q=>by omega) hx)).trans (h.ez b hb hx)
  sX:=λ b hb=>h'.sX b (h.sX b hb)
  dE:=h'.dE
  aC:=λ i=>(h'.aC i).ctx (c:=c.fz w G.S Z) (c':=c) rfl cw
  aK:=λ id o ho=>(h'.aK id o ho).ctx (c:=c.fz w G.S Z) (c':=c) rfl cw
  place:=λ id o b ho hb=>by
   obtain⟨h1,h2,h3⟩:=h'.place id o b ho hb;exact⟨back b h1,h2,h3⟩
  apart:=h'.apart
  aR:={
   tr:=h'.aR.tr,nd:=h'.aR.nd,ap:=h'.aR.ap
   pl:=λ id τ xs b ht hb=>by
    obtain⟨h1,h2,h3,h4⟩:=h'.aR.pl id τ xs b ht hb;exact⟨back b h1,h2,h3,h4⟩ }
  root:=h'.root,iO:=h'.iO,du:=h'.du,fc:=h'.fc },λ b z=>?_⟩
 obtain⟨z1,z2,z3,z4,z5⟩:=hZ b z;have V5:¬ (c.fz w G.S Z).X b:=λ q=>q.2 z;have gm:¬ (w.heap.size<=b\/(c.fz w G.S Z).X b):=λ q=>q.elim (λ q=>by omega) V5;exact⟨h'.aS.block b z3 V5,z1,λ q=>z2 ((h'.ez b z3 V5).1 q),b3P z3 h'.aS.size,λ i o cF hb=>gm (h'.place i o b cF hb).1,λ j τ xs hj hb=>gm (h'.aR.pl j τ xs b hj hb).1⟩
end
theorem yR{α β:Type}{f g:α->β}{l:Array α}(h:∀ x∈l.toList,f x=g x):l.map f=l.map g:=by
 apply b7k;rw[b5y,b5y];exact b7u h
theorem execOp_congr{o:Oper}{ρ ρ':Operand->Value}{l:List Operand}(h:a0z o.op=some l)(he:∀ x∈l,ρ x=ρ' x):execOp ρ o=execOp ρ' o:=by
 have parts:∀ ps:Array (Nat×Operand),l=ps.toList.map (·.2)->(ps.map λ (i,x)=>(i,ρ x))=ps.map λ (i,x)=>(i,ρ' x):=λ ps hl=>yR λ x hx=>by
  obtain⟨i,x⟩:=x;simp only;rw[he x (by rw[hl];exact b3E.2 ⟨(i,x),hx,rfl⟩)]
 unfold a0z at h;split at h;case h_21=>cases h
 case h_20 T x l hh m bx =>
  simp only[b3t] at h;subst h;have key:∀ q:Option Operand,(∀ y∈q.toList,ρ y=ρ' y)->q.map ρ=q.map ρ':=λ q hq=>by
   cases q with
   | none=>rfl
   | some y=>rw[b5S,b5S,hq y (by simp)]
  simp only[execOp,bx,he x (by simp),key l (λ y hy=>he y (by simp at hy;simp[hy])),key hh (λ y hy=>he y (by simp at hy;simp[hy])),key m (λ y hy=>he y (by simp at hy;simp[hy]))]
 case h_18 c bx =>
  split at h;case h_3=>cases h
  case h_1 f hc =>
   simp only[b3t] at h;subst h;have ha:c.args.map ρ=c.args.map ρ':=yR λ x hx=>he x (by simp[hx]);simp only[execOp,bx,resolve,hc,ha,he f (by simp)]
  case h_2 b hc =>
   simp only[b3t] at h;subst h;have ha:c.args.map ρ=c.args.map ρ':=yR λ x hx=>he x hx;simp only[execOp,bx,resolve,hc,ha]
 all_goals
  rename_i bx
  simp only[b3t] at h
  first
   | (have:=parts _ h.symm;simp only[execOp,bx,this];done)
   | (subst h;simp only[execOp,bx];done)
   | (subst h;simp only[execOp,bx,b6w];done)
   | (subst h;simp only[b3S,b6f,b7m,b7a,forall_eq] at he;simp only[execOp,bx,he];done)
   | (subst h;simp only[b3S,b6f,b7m,b7a,forall_eq] at he;simp only[execOp,bx,he.1,he.2];done)
   | (subst h;simp only[b3S,b6f,b7m,b7a,forall_eq] at he;simp only[execOp,bx,he.1,he.2.1,he.2.2];done)
theorem a2t{u v:TV}(h:zD u v):u=v:=by
 unfold zD at h;split at h
 .rename_i x hx;have:=TV.aW hx;rw[this,h]
 .exact h.elim
theorem Sy{v u:AV}(h:Oo v u):v=u:=by
 unfold Oo at h;split at h
 .rw[a2t h]
 .rw[a2t h]
 .rw[h]
 .rw[h]
 .rw[h.1,h.2]
 .rfl
 .rfl
 .exact h.elim
theorem Jz{c:Ctx}{G:Gh}{lk:Nat->Option aA}{a:Act}{w:World}{o:Oper}{v:AV}{x:Value}(hr:(execOp a.eval o).run c.P w = .ok (.value x) w)(hv:VR c G lk w v x) :
  ∃ x,(execOp a.eval o).run c.P w = .ok (.value x) w/\VR c G lk w v x:=⟨x,hr,hv⟩
theorem a3L{c:Ctx}{G:Gh}{sl:Nat->AV}{n:Nat}{lk:Nat->Option aA}{a:Act}{w:World}(hE:bE c.P c.E)(hI:bu c G sl n lk a w){lk':Nat->Option aA}(cr:∀ id o,lk' id=some o->lk id=some o){ev:Operand->AV}(cU:∀ x,VR c G lk w (ev x) (a.eval x))
  {o:Oper} {vc:Vc} {v:AV} {ob:Option aA} (hq:NN c.E lk' ev o=some (vc,v,ob)) (er:vc.ok) (a0f:reads o.op=true) :
  ∃ x,(execOp a.eval o).run c.P w = .ok (.value x) w/\VR c G lk w v x:=by
 unfold NN at hq;split at hq;case h_1 x bx =>
  simp only[b3t,b3w] at hq;obtain⟨rfl,rfl,rfl⟩:=hq;exact Jz (by simp[execOp,bx]) (cU x)
 case h_8 T ad bx =>
  split at hq
  .rename_i τ r hT;split at hq
   .rename_i u hu;simp only[b3t,b3w] at hq;obtain⟨rfl,rfl,rfl⟩:=hq;obtain⟨b,o',cs,h1,h2,h3,h4⟩:=qp hI.aK cr hu (cU ad);refine Jz ?_ h4;simp only[execOp,bx,h1,b4c,jM hE hT h2 h3,b3X,b4i]
   .cases hq
  .cases hq
 case h_9 x bx =>
  have key:∀ u,ev x=u->(∃ b o,a.eval x = .pointer (some ⟨b,o,none⟩))->vc = .none->v=u->ob=none->∃ x,(execOp a.eval o).run c.P w = .ok (.value x) w/\VR c G lk w v x:=by
   rintro u hu ⟨b,o',hx⟩ _ rfl rfl;refine Jz (x:=a.eval x) ?_ (hu ▸ cU x);simp only[execOp,bx,hx,b4i]
  have hx:=cU x;split at hq
  .rename_i u hu;simp only[b3t,b3w] at hq;rw[hu] at hx;obtain⟨b,o',cs,h1,_⟩:=hx;exact key _ hu ⟨b,o',h1⟩ hq.1.symm hq.2.1.symm hq.2.2.symm
  .rename_i id off hu;simp only[b3t,b3w] at hq;rw[hu] at hx;obtain⟨b,_,h1,_⟩:=hx;exact key _ hu ⟨b,off,h1⟩ hq.1.symm hq.2.1.symm hq.2.2.symm
  .rename_i id i off hu;simp only[b3t,b3w] at hq;rw[hu] at hx;obtain⟨b,_,_,_,_,_,_,_,_,h1⟩:=hx;exact key _ hu ⟨b,_,h1⟩ hq.1.symm hq.2.1.symm hq.2.2.symm
  .cases hq
 case h_10 T x i bx =>
  split at hq
  .rename_i s r hT;have hx:=cU x;split at hq
   .rename_i u hu;rw[hu] at hx;split at hq
    .rename_i y hy;have e:=TV.aW hy;subst e;split at hq
     .rename_i f hf;simp only[b3t,b3w] at hq;obtain⟨rfl,rfl,rfl⟩:=hq;obtain⟨b,o',cs,h1,h2,h3,h4⟩:=hx;have bK:i<s.fu.length:=by
       have:=(b4p.1 hf).1;rw[<-aQ.lU s y,b3M];exact this
      refine Jz (x := .pointer (some ⟨b,o'+s.eW i,none⟩)) ?_ ?_
      .simp only[execOp,bx,h1,b4c,kt hE hT bK,b3X,b4i]
      .refine⟨b,o'+s.eW i,(cs.drop (s.eW i)).take f.τ.size,rfl,h2,h3.part _ _,?_⟩;exact Ie hf h4
     .cases hq
    .cases hq
   .rename_i id off hu;rw[hu] at hx;split at hq
    .rename_i bK;simp only[Option.some.injEq,Prod.mk.injEq] at hq;obtain⟨rfl,rfl,rfl⟩:=hq;have bK:i<s.fu.length:=by simpa [Nat.blt_eq] using bK
     obtain⟨b,h1,h2,h3⟩:=hx;refine Jz (x := .pointer (some ⟨b,off+s.eW i,none⟩)) ?_ ⟨b,h1,rfl,h3⟩;simp only[execOp,bx,h2,b4c,kt hE hT bK,b3X,b4i]
    .cases hq
   .rename_i id k off hu;rw[hu] at hx;split at hq
    .rename_i bK;simp only[Option.some.injEq,Prod.mk.injEq] at hq;obtain⟨rfl,rfl,rfl⟩:=hq;have bK:i<s.fu.length:=by simpa [Nat.blt_eq] using bK
     obtain⟨b,m,cap,e,τ,xs,h1,h2,h3,h4⟩:=hx;refine Jz (x := .pointer (some ⟨b,k * τ.size+(off+s.eW i),none⟩)) ?_ ⟨b,m,cap,e,τ,xs,h1,h2,h3,rfl⟩;simp only[execOp,bx,h4,b4c,kt hE hT bK,b3X,b4i,b6s]
    .cases hq
   .cases hq
  .cases hq
 case h_12 T x ix bx =>
  split at hq
  .rename_i τ r hT;split at hq
   .rename_i k i hi;have uO:=cU ix;rw[hi] at uO;obtain⟨uO,_⟩:=uO;simp only[b3F,b3L] at uO;have hx:=cU x;split at hq
    .rename_i u hu;rw[hu] at hx;split at hq
     .rename_i xs kc;have e:=TV.aW kc;subst e;simp only[b3t,b3w] at hq;obtain⟨rfl,rfl,rfl⟩:=hq;obtain⟨h0,h1⟩:=er;obtain⟨ad,cap,h2,h3,h4,h5⟩:=jN hx;rcases h5 with h5|⟨b,o',h5,h6,h7⟩
      .subst h5;simp only[b3T] at h1;omega
      .subst h5;have bK:i.toNat<xs.length:=by omega
       obtain⟨cs,m1,m2,m3⟩:=dq.at_ (n:=τ.size) _ b o' h7 (by
        intro d hd;obtain⟨y,_,rfl⟩:=b3E.1 hd;exact Ty.cM τ y) i.toNat (τ.aP (xs.getD i.toNat τ.zero)) (by simp[List.getD,bK])
       refine Jz (x := .pointer (some ⟨b,o'+i.toNat * τ.size,none⟩)) ?_ ⟨b,_,cs,rfl, .inl h6,m3,m2⟩;simp only[execOp,bx,h2,uO,b4c,qF hE hT h0 h1,b3X,b4i]
     .cases hq
    .rename_i id hu;rw[hu] at hx;split at hq
     .rename_i e' bf xs hl;split at hq
      .rename_i jr;have jr:=b4l jr;subst jr;simp only[b3t,b3w] at hq;obtain⟨rfl,rfl,rfl⟩:=hq;obtain⟨h0,h1⟩:=er;obtain⟨h2,_,_⟩:=hx;have nP:=cr _ _ hl;obtain⟨l,m1,_,_⟩:=hI.aK _ _ nP;have bK:i.toNat<xs.length:=by omega
       rcases m1.2 with ⟨_,hn⟩|⟨g,cap,cur,hv,_⟩
       .omega
       .refine Jz (x := .pointer (some ⟨g,0+i.toNat * bf.size,none⟩)) ?_ ⟨g,_,cap,e',bf,xs,hv,nP,bK,by simp⟩;simp only[execOp,bx,h2,hv,uO,b4c,qF hE hT h0 h1,b3X,b4i]
      .cases hq
     .cases hq
    .cases hq
   .cases hq
  .cases hq
 case h_24=>cases hq
 all_goals
  rename_i bx
  rw[bx] at a0f
  cases a0f
theorem Xi{c:Ctx}{G:Gh}{s:ai}{a:Act}{w:World}(hE:bE c.P c.E)(h:Inv c G s a w){o:Oper}{vc:Vc}{v:AV}(hq:rop c.E s o=some (vc,v))(er:vc.ok) :
  ∃ x,(execOp a.eval o).run c.P w = .ok (.value x) w/\VR c G s.ah w v x:=by
 unfold rop at hq;split at hq
 .rename_i hr;split at hq
  .rename_i vc' v' X1;simp only[b3t,b3w] at hq;obtain⟨rfl,rfl⟩:=hq;exact a3L hE h (λ _ _ h=>h) (br h) X1 er hr
  .cases hq
 .cases hq
theorem Sz:∀ {v u:List AV},Va v u->v=u
 | [],[],_=>rfl
 | a::Z9,b::bs,h=>by rw[Sy h.1,Sz h.2]
 | [],_::_,h=>h.elim
 | _::_,[],h=>h.elim
theorem a2D{v u:AV}(h:ZM v u):v=u:=by
 unfold ZM at h;split at h
 .rw[Sz h]
 .exact Sy h
structure nj(D:List Nat)(a b:Act):Prop where
 size:a.tmps.size=b.tmps.size
 da:a.defers=[]
 db:b.defers=[]
 at':∀ t,t∉D->a.tmps.getD t undef=b.tmps.getD t undef
theorem nj.put{D D':List Nat}{a b:Act}(h:nj D a b){d:Option Nat}{x:Value}(hD:∀ t,t∈D->t∉D'->d=some t):nj D' (a.put d x) (b.put d x) where
 size:=by cases d<;>simp[Act.put,h.size]
 da:=by cases d<;>exact h.da
 db:=by cases d<;>exact h.db
 at' t ht:=by
  rw[ej,ej,h.size];by_cases hd:d=some t
  .by_cases hl:t<b.tmps.size
   .rw[b4d ⟨hd,hl⟩,b4d ⟨hd,hl⟩]
   .rw[b3H (λ q=>hl q.2),b3H (λ q=>hl q.2)];have h1:a.tmps.getD t undef=undef:=by rw[b4s,b4X (by rw[h.size];omega)];rfl
    have h2:b.tmps.getD t undef=undef:=by rw[b4s,b4X (by omega)];rfl
    rw[h1,h2]
  .rw[b3H (λ q=>hd q.1),b3H (λ q=>hd q.1)];refine h.at' t λ hm=>hd (hD t hm ht)
theorem nj.exec{D:List Nat}{a b:Act}(h:nj D a b){o:Oper}(hu:fY D o=true):execOp a.eval o=execOp b.eval o:=by
 unfold fY at hu;split at hu
 .rename_i l hl;rw[b4r] at hu;refine execOp_congr hl λ x hx=>?_;have:=hu x hx;cases x with
  | tmp t=>exact h.at' t (by simpa using this)
  | _=>rfl
 .cases hu
theorem nf{D D':List Nat}{o:Oper}(h:fY D o=true)(hs:∀ t∈D',t∈D):fY D' o=true:=by
 unfold fY at h ⊢;split at h
 .rename_i l hl;rw[b4r] at h ⊢;intro x hx;have:=h x hx;cases x with
  | tmp t =>
   simp only[b3I,List.contains_eq_mem,b3u] at this ⊢;exact λ q=>this (hs t q)
  | _=>rfl
 .cases h
section
variable {c:Ctx} {G:Gh} {s:ai} {a:Act} {w w':World}
theorem a6b{P:Program}{o:Oper}{b:Act}{N N':Act->World->Prop}{Q:Exit->Act->World->Prop}(he:execOp a.eval o=execOp b.eval o)(hN:∀ x w',N (b.put o.dst x) w'->N' (a.put o.dst x) w')
  (hd:∀ b' w',N b' w'->b'.defers=[]) (h:o.wp P b w N (λ _ _ _=>False)):o.wp P a w N' Q:=by
 unfold Oper.wp at *
 rw[he];generalize (execOp b.eval o).run P w=r at *
 cases r with
 | ok n w' =>
  cases n<;>simp only[Oper.upon] at h ⊢;case value v=>exact hN _ _ h
  case skip=>exact hN _ _ h
  case defer d =>
   have:=hd _ _ h;cases hh:o.dst<;>simp[Act.put,hh] at this
  case enter f args=>exact Calls.mono h (λ e w'' q=>by cases e<;>first|exact hN _ _ q|exact q.elim λ _ q=>q.elim λ _ q=>q.elim|exact q.elim)
  case row r args=>exact Rows.mono h (λ _ _ q=>hN _ _ q)
 | halt x w'=>cases x<;>simp only[Oper.upon] at h ⊢
theorem exists_least{p:Nat->Prop}:∀ n,p n->∃ k,p k/\∀ j,j<k->¬ p j:=by
 intro n;induction n using Nat.strongRecOn with
 | _ n ih =>
  intro h;by_cases hq:∃ j,j<n/\p j
  .obtain⟨j,h1,h2⟩:=hq;exact ih j h1 h2
  .exact⟨n,h,λ j hj hp=>hq ⟨j,hj,hp⟩⟩
theorem nj.eq{a b:Act}(h:nj [] a b):a=b:=by
 obtain⟨ta,da⟩:=a;obtain⟨tb,db⟩:=b;obtain⟨h1,h2,h3,h4⟩:=h;simp only at h1 h2 h3 h4;subst h2 h3;congr 1;apply Array.ext h1;intro i hi hj;have:=h4 i (by simp);simpa [Array.getD_eq_getD_getElem?,Array.getElem?_eq_getElem hi,Array.getElem?_eq_getElem hj] using this
theorem gE{R:List (Nat×Oper)}{t:Nat}:t∈dstsOf R↔∃ r∈R,r.2.dst=some t:=by
 simp[dstsOf,b5B]
theorem a5P(h:Inv c G s a w){d:Nat}{x:Value}(hv:VR c G s.ah w (s.aC.getD d .any) x):Inv c G s (a.put (some d) x) w:=by
 have:=bu.put (d:=some d) h hv;unfold Inv;have e:jP s.aC.length s.sl (some d) (s.aC.getD d .any)=s.sl:=by
  funext i;unfold jP;split
  .rename_i hi;obtain⟨h1,_⟩:=hi;simp only[b3t] at h1;subst h1;rfl
  .rfl
 rwa [e] at this
theorem kJ{E:Env}{K:Prop}:∀ {R:List (Nat×Oper)},gS E R s K->(∀ r∈R,∃ d vc,r.2.dst=some d/\rop E s r.2=some (vc,s.aC.getD d .any)/\Vc.ok vc)/\K
 | [],h=>⟨by simp,h⟩
 | r::rs,h=>by
  simp only[gS] at h;split at h
  .rename_i d vc v hd hr;have h1:=Vc.jR h;obtain⟨k1,k2⟩:=kJ h1.2.2;refine⟨λ q hq=>?_,k2⟩;rcases b3S.1 hq with rfl|hq
   .exact⟨d,vc,hd,by rw[hr,a2D h1.2.1],h1.1⟩
   .exact k1 q hq
  .exact h.elim
theorem S4(hE:bE c.P c.E){K:ai->Prop}:∀ {R:List (Nat×Oper)} {s:ai} {a:Act},Inv c G s a w->Oq c.E R K s->∃ t b,Inv c G t b w/\nj (dstsOf R) a b/\K t
 | [],s,a,hI,h=>⟨s,a,hI,⟨rfl,hI.defers,hI.defers,λ _ _=>rfl⟩,h⟩
 | r::rs,s,a,hI,h=>by
  simp only[Oq] at h;split at h
  .rename_i d vc v hd hr;have h1:=Vc.jR h;obtain⟨x,_,hx⟩:=Xi hE hI hr h1.1;obtain⟨t,b,k1,k2,k3⟩:=S4 hE (Inv.put (d:=some d) hI hx) (JY hx h1.2);refine⟨t,b,k1,⟨by rw[<-k2.size];simp[Act.put],hI.defers,k2.db,λ i hi=>?_⟩,k3⟩;have eQ:d≠i:=λ e=>hi (gE.2 ⟨r,by simp,by rw[hd,e]⟩);rw[<-k2.at' i λ hm=>hi (by
    obtain⟨q,hq,hqd⟩:=gE.1 hm;exact gE.2 ⟨q,by simp[hq],hqd⟩),ej,if_neg (λ q=>eQ (by simpa using q.1))]
  .exact h.elim
theorem a0B{E:Env}{o:Oper}{K:ai->Prop}{T:TypeId}{d:Nat}{τ:Ty}{r:Nat×Nat}(bx:o.op = .alloc T)(hd:o.dst=some d)(hT:ah E.ty T=some (τ,r)) :
  kZ E o K s↔(d<400000/\K (s.lay (some d) (.ptr d 0) (some (.box (zeroCells τ))))):=by
 have h1:kN E s o=[]:=by
  unfold kN;rw[bx];split<;>rfl
 have h2:ZQ E s o=none:=by
  unfold ZQ;rw[hd,bx];simp only;split<;>rfl
 have h3:ZX E s o=none:=by unfold ZX;rw[bx]
 have h4:oop E s o=none:=by unfold oop;rw[bx]
 obtain⟨r1,r2⟩:=r;have h5:NN E s.ah s.eval o=some (.none, .ptr d 0,some (.box (zeroCells τ))):=by
  unfold NN;rw[bx];simp only[hd,hT]
 unfold kZ;have h6:sop E s o=none:=by unfold sop;rw[hd,bx]
 have h7:nop E s o=none:=by unfold nop;rw[bx]
 simp only[h1,b7i,h6,h2,h3,h4,h7,h5,Vc.and,bx,Xy,hd,uf];cases hb:Nat.blt d 400000 with
 | true=>simp only[b6V] at hb;simp[hb]
 | false=>simp only[Bool.eq_false_iff,ne_eq,b6V] at hb;simp[hb]
structure PE where
 i:Nat
 d:Nat
 x:Value
 b:Nat
 cs:List AV
noncomputable instance:DecidableEq PE:=λ _ _=>Classical.propDecidable _
structure Es(c:Ctx)(G:Gh)(lk:Nat->Option aA)(X:List (Nat×Oper))(a:Act)(w:World)(p:PE):Prop where
 ex:∃ o T τ r,(p.i,o)∈X/\o.op = .alloc T/\o.dst=some p.d/\ah c.E.ty T=some (τ,r)/\p.cs=zeroCells τ
 val:a.tmps.getD p.d undef=if p.d<a.tmps.size then p.x else undef
 ptr:p.x = .pointer (some ⟨p.b,0,none⟩)
 lt:p.d<400000
 new:∃ l t,w.heap[p.b]?=some (.cells l.toArray t (0,0))/\∀ (c:Ctx) (G:Gh) (lk:Nat->Option aA) (w:World),aT (C1 c G lk w) p.cs l
 fr:wJ c G lk w p.b
theorem Es.put{lk:Nat->Option aA}{X:List (Nat×Oper)}{p:PE}(h:Es c G lk X a w p){d:Option Nat}{x:Value}(hd:d≠some p.d):Es c G lk X (a.put d x) w p :=
 ⟨h.ex,by rw[ej,b3H (λ q=>hd q.1),gJ];exact h.val,h.ptr,h.lt,h.new,h.fr⟩
theorem a2w(h:Inv c G s a w){p:PE}{X:List (Nat×Oper)}{a2:Act}(hp:Es c G s.ah X a2 w p) :
  Inv c ⟨G.S,λ i=>if i=p.d then p.x else G.η i,G.φ⟩ (s.lay (some p.d) (.ptr p.d 0) (some (.box p.cs))) (a.put (some p.d) p.x) w:=by
 obtain⟨l,t,h1,h2⟩:=hp.new;refine Inv.a4D h hp.lt ⟨p.b,l,t,hp.ptr,h1,h2 _ _ _ _⟩ ⟨_,rfl,rfl⟩ λ b hb=>?_;rw[hp.ptr] at hb;simp only[eb,b3t] at hb;subst hb;obtain⟨q1,q2,q3,q4,q5⟩:=hp.fr;exact⟨q1,q2,q3,λ i o' _ ho=>q4 i o' ho,q5⟩
theorem a2v{p:PE}{X:List (Nat×Oper)}{a2:Act}(hp:Es c G s.ah X a2 w p){b:Nat}(hb:wJ c G s.ah w b)(eQ:b≠p.b) :
  wJ c ⟨G.S,λ i=>if i=p.d then p.x else G.η i,G.φ⟩ (s.lay (some p.d) (.ptr p.d 0) (some (.box p.cs))).ah w b:=by
 have cr:(s.lay (some p.d) (.ptr p.d 0) (some (.box p.cs))).ah=λ i=>if i=p.d then some ((aA.box p.cs).kill p.d) else (if i=p.d then none else (s.cp p.d).ah i):=by
  funext i;show ah ((p.d,(aA.box p.cs).kill p.d)::bR p.d (s.cp p.d).aK) i=_;rw[dC,eH];rfl
 obtain⟨q1,q2,q3,q4,q5⟩:=hb;rw[cr];refine⟨q1,q2,q3,λ i o ho e=>?_,λ j τ xs hj nA=>?_⟩
 .by_cases hi:i=p.d
  .simp only[b4d hi] at e;rw[hp.ptr] at e;simp only[eb,b3t] at e;exact eQ e.symm
  .simp only[b3H hi] at e ho;rw[eh] at ho;simp only[b4t] at ho;obtain⟨o',cO,_⟩:=ho;exact q4 i o' cO e
 .by_cases hi:j=p.d
  .simp only[b4d hi] at hj;cases hj
  .simp only[b3H hi] at hj;rw[eh] at hj;exact q5 j τ xs (jy hj) nA
theorem ZV(hE:bE c.P c.E)(h:Inv c G s a w){a2:Act}{o:Oper}{T:TypeId}{d i:Nat}{τ:Ty}{r:Nat×Nat}(bx:o.op = .alloc T)(hd:o.dst=some d)(hT:ah c.E.ty T=some (τ,r))(M4:d<400000){X:List (Nat×Oper)}(hX:(i,o)∈X) :
  ∃ w' p,p.i=i/\p.d=d/\p.b=w.heap.size/\(execOp a2.eval o).run c.P w = .ok (.value p.x) w'/\Inv c G s a w'/\Es c G s.ah X (a2.put (some d) p.x) w' p/\bC (λ _=>False) w w':=by
 obtain⟨r1,r2⟩:=r;obtain⟨inf,z,h1,h2,h3,h4⟩:=(hE.info hT).ex;refine⟨w.alloc (.cells z.cells T),⟨i,d, .pointer (some ⟨w.heap.size,0,none⟩),w.heap.size,zeroCells τ⟩,rfl,rfl,rfl,?_,h.alloc _,?_,gv w _⟩
 .simp[execOp,bx,Instr.alloc,zeroValue,typeInfo,h1,h3,newVar,newRow]
 .refine⟨⟨o,T,τ,_,hX,bx,hd,hT,rfl⟩,?_,rfl,M4,⟨z.cells.toList,T,by simpa using heap_alloc_new w _,λ _ _ _ _=>kK h4⟩,?_⟩
  .simp only[ej,gJ,b4u];split
   .rfl
   .rename_i bK;first|rfl|(rw[b4s,b4X (by omega)];rfl)
  .refine⟨.inl h.aS.size,λ q=>by have:=h.dE _ q;simp only at this;omega,by simp,λ j o' hj hb=>by have:=(h.place j o' _ hj hb).2.2;simp only at this;omega,λ j τ xs hj hb=>by have:=(h.aR.pl j τ xs _ hj hb).2.2.1;simp only at this;omega⟩
theorem Yg{E:Env}{o:Oper}(h:Qr E o=true):reads o.op=true:=by
 unfold Qr at h;rw[Bool.and_eq_true] at h;exact h.1
theorem GR{E:Env}{o:Oper}(h:reads o.op=true):dt E o=false:=by
 unfold dt;generalize JB E o=q;generalize o.op=op at *
 cases op<;>first|rfl|cases h
theorem LB(ck:List Nat)(x:Nat×Oper):∀ l,(PM ck x l).Perm (x::l)
 | [] => .refl _
 | y::ys=>by
  unfold PM;split
  .exact .refl _
  .exact ((LB ck x ys).cons y).trans (.swap x y ys)
theorem jL(E:Env)(ck:List Nat):∀ l,(Np E ck l).Perm l
 | [] => .refl _
 | x::xs=>by
  unfold Np;split
  .exact (LB ck x _).trans ((jL E ck xs).cons x)
  .exact (jL E ck xs).cons x
structure XE where
 i:Nat
 d:Nat
 x:Value
 o:Oper
noncomputable instance:DecidableEq XE:=λ _ _=>Classical.propDecidable _
structure XOk(E:Env)(P:Program)(X:List (Nat×Oper))(a:Act)(e:XE):Prop where
 mem:(e.i,e.o)∈X
 dst:e.o.dst=some e.d
 val:a.tmps.getD e.d undef=if e.d<a.tmps.size then e.x else undef
 run:(kf e.o.op=true/\∀ w,(execOp a.eval e.o).run P w = .ok (.value e.x) w)\/((wS e.o.op=true/\JB E e.o=true)/\∃ p,e.x = .slice p 0 0)
theorem XOk.lz{E:Env}{P:Program}{X:List (Nat×Oper)}{a:Act}{e:XE}(h:XOk E P X a e):dt E e.o=true:=by
 rcases h.run with ⟨q,_⟩|⟨⟨q,q'⟩,_⟩
 .simp[dt,q]
 .simp[dt,q,q']
theorem Qf{op:Op}(h:wS op=true):∃ T,op = .buildSlice T 0 #[]:=by
 unfold wS at h;split at h
 .rename_i T len ps;simp only[b3A] at h;have h1:=b3x h.1;have h2:ps = #[]:=b5T (b3x h.2);exact⟨T,by rw[h1,h2]⟩
 .cases h
theorem a3X{o:Oper}(h:wS o.op=true)(D:List Nat):fY D o=true:=by
 obtain⟨T,h⟩:=Qf h;simp[fY,a0z,h]
theorem XOk.put{E:Env}{P:Program}{X:List (Nat×Oper)}{e:XE}(h:XOk E P X a e)(hda:a.defers=[]){d:Option Nat}{x:Value}(hd:d≠some e.d)(hu:∀ t,d=some t->fY [t] e.o=true):XOk E P X (a.put d x) e :=
 ⟨h.mem,h.dst,by rw[ej,b3H (λ q=>hd q.1),gJ];exact h.val,h.run.imp (λ hr=>⟨hr.1,λ w=>by
  cases d with
  | none=>exact hr.2 w
  | some t =>
   have hA:nj [t] (a.put (some t) x) a:=⟨gJ a _ x,by rw[jI];exact hda,hda,λ u hu=>by rw[ej,if_neg (λ q=>hu (by simpa using q.1.symm))]⟩;rw[hA.exec (hu t rfl)];exact hr.2 w⟩) id⟩
theorem ZY(h:Inv c G s a w){o:Oper}{t:Operand}{i:Nat}(bx:o.op = .extract t i)(hc:AA s o.op=true):∃ x,∀ w',(execOp a.eval o).run c.P w' = .ok (.value x) w':=by
 rw[bx] at hc;simp only[AA] at hc;split at hc
 .rename_i vs hv;have hx:=br h t;rw[hv] at hx;obtain⟨l,h1,h2⟩:=hx;have bK:i<l.length:=by rw[<-h2.length];exact b4B hc
  refine⟨l[i],λ w'=>?_⟩;have h3:l[i]?=some l[i]:=b3Z bK;simp[execOp,bx,Instr.extract,h1,h3]
 .cases hc
theorem Xj{E:Env}{o:Oper}{K:ai->Prop}{t:Operand}{i d:Nat}(bx:o.op = .extract t i)(hd:o.dst=some d)(hr:kZ E o K s) :
  ∃ vs v,s.eval t = .iP vs/\vs[i]?=some v/\known v (K (s.put (some d) v)):=by
 have h1:kN E s o=[]:=by
  unfold kN;rw[bx];split<;>rfl
 have h2:ZQ E s o=none:=by
  unfold ZQ;rw[hd,bx];simp only;split<;>rfl
 have h3:ZX E s o=none:=by unfold ZX;rw[bx]
 have h4:oop E s o=none:=by unfold oop;rw[bx]
 have h6:sop E s o=none:=by unfold sop;rw[hd,bx]
 have h7:nop E s o=none:=by unfold nop;rw[bx]
 unfold kZ at hr;split at hr
 .exact hr.elim
 simp only[h1,b7i,h6,h2,h3,h4,h7] at hr;split at hr
 .rename_i vc v ob hq;unfold NN at hq;rw[bx] at hq;simp only at hq;split at hq
  .rename_i vs hv;split at hq
   .rename_i u hu;simp only[Option.some.injEq,Prod.mk.injEq] at hq;obtain⟨rfl,rfl,rfl⟩:=hq;refine⟨vs,u,hv,hu,?_⟩;simpa [Vc.and,bx,Xy,hd,ai.lay] using hr
   .cases hq
  .cases hq
 .exact hr.elim
theorem ZZ(h:Inv c G s a w){o:Oper}{t:Operand}{i:Nat}(bx:o.op = .extract t i){vs:List AV}{v:AV}(h1:s.eval t = .iP vs)(h2:vs[i]?=some v){x:Value}(hx:(execOp a.eval o).run c.P w = .ok (.value x) w):VR c G s.ah w v x:=by
 have hv:=br h t;rw[h1] at hv;obtain⟨l,k1,k2⟩:=hv;obtain⟨y,k3,k4⟩:=k2.at_ i v h2;have:(execOp a.eval o).run c.P w = .ok (.value y) w:=by simp[execOp,bx,Instr.extract,k1,k3]
 rw[this] at hx;simp only[Result.ok.injEq,Next.value.injEq,b3L] at hx;subst hx;cases v<;>first|exact k4|exact k4.elim|trivial
theorem a2k{E:Env}{o:Oper}{K:ai->Prop}{d:Nat}(hn:wS o.op=true/\JB E o=true)(ha:pG E o=true)(hd:o.dst=some d)(hr:kZ E o K s) :
  ∃ τ,K (s.put (some d) (.aF ⟨.slice τ,[]⟩)):=by
 obtain⟨hn,hH⟩:=hn;obtain⟨T,bx⟩:=Qf hn;unfold pG at ha;simp only[bx,hd,hH] at ha;split at ha
 .rename_i d' τ r Hk hT;simp only[b3t] at Hk;subst Hk;have ha:Nat.blt d 400000=true/\E.ro.contains d=true/\E.own.contains d=false:=by
   have ha:(Nat.blt d 400000&&(E.ro.contains d && !E.own.contains d))=true:=ha;simp only[b3A,b3I] at ha;exact⟨ha.1,ha.2.1,ha.2.2⟩
  obtain⟨h4,hro,nR⟩:=ha;have h1:kN E s o=[]:=by
   unfold kN;simp only[hd,nR,bx];simp
  have h2:ZQ E s o=none:=by
   unfold ZQ;simp only[hd,nR]
  have h3:ZX E s o=none:=by unfold ZX;rw[bx]
  have h4':oop E s o=none:=by unfold oop;rw[bx]
  have h6:sop E s o=none:=by unfold sop;rw[hd,bx]
  have h7:nop E s o=none:=by unfold nop;rw[bx]
  obtain⟨r1,r2⟩:=r;have h8:NN E s.ah s.eval o=some (.none, .aF ⟨.slice τ,[]⟩,none):=by
   unfold NN;rw[bx];simp only[hd,hT,hro];rfl
  unfold kZ at hr;simp only[h1,List.foldl_nil,h6,h2,h3,h4',h7,h8,Vc.and,bx,Xy,hd,uf,h4] at hr;exact⟨τ,hr⟩
 .simp at ha
theorem a1l(hE:bE c.P c.E)(h:Inv c G s a w){a2:Act}{o:Oper}{d:Nat}(hn:wS o.op=true/\JB c.E o=true)(ha:pG c.E o=true)(hd:o.dst=some d) :
  ∃ w' x,(execOp a2.eval o).run c.P w = .ok (.value x) w'/\Inv c G s a w'/\(∃ p,x = .slice p 0 0)/\bC (λ _=>False) w w':=by
 obtain⟨hn,hH⟩:=hn;obtain⟨T,bx⟩:=Qf hn;unfold pG at ha;simp only[bx,hd,hH] at ha;split at ha
 .rename_i d' τ r Hk hT;obtain⟨r1,r2⟩:=r;obtain⟨k1,_,inf,z,k2,k3,k4,k5,k6⟩:=hE.slice hT;refine⟨w.alloc (.cells #[] r2), .slice (some ⟨w.heap.size,0,none⟩) 0 0,?_,h.alloc _,⟨_,rfl⟩,gv w _⟩;have hz:(Array.range 0).map (λ _=>(default:Value)) = #[]:=by apply b5T;simp
  simp[execOp,bx,Instr.buildSlice,b4v k1,sizeOf,typeInfo,k2,Instr.fill,newRow,hz]
 .simp at ha
theorem mb(E:Env){X:List (Nat×Oper)}{x:Nat×Oper}{t:Nat}(hx:x∈X)(ha:dt E x.2=true)(hd:x.2.dst=some t):t∈sM E X :=
 b5B.2 ⟨x,hx,by simp[ha,hd]⟩
theorem Zc{E:Env}{ck:List Nat}{n:Nat}{R:List (Nat×Oper)}{K:ai->Prop}{s:ai}:iz E ck n R [] K s=K s:=by cases n<;>rfl
theorem Ny{E:Env}{ck:List Nat}{n:Nat}{R:List (Nat×Oper)}{x:Nat×Oper}{xs:List (Nat×Oper)}{K:ai->Prop}{s:ai}(h:iz E ck n R (x::xs) K s) :
  ∃ m,a0o E ck (x::xs) s=true/\(((fY (dstsOf (R.filter λ r => !Nat.testBit (ck.getD x.1 0) r.1)++sM E xs) x.2&&xs.all λ y=>dt E y.2||Nat.testBit (ck.getD y.1 0) x.1)=true /\
    kZ E x.2 (λ s'=>gS E (R.filter λ r => !Nat.testBit (ck.getD x.1 0) r.1) s' (iz E ck m (R.filter λ r => !Nat.testBit (ck.getD x.1 0) r.1) xs K s')) s) \/
   (dt E x.2=false/\CZ (Vl E ck (x::xs)) (λ y=>match fY (dstsOf (R.filter λ r => !Nat.testBit (ck.getD y.1 0) r.1)++sM E ((x::xs).filter λ z => !Nat.beq z.1 y.1)) y.2 with
      | true=>kZ E y.2 (λ s'=>gS E (R.filter λ r => !Nat.testBit (ck.getD y.1 0) r.1) s' (iz E ck m (R.filter λ r => !Nat.testBit (ck.getD y.1 0) r.1) ((x::xs).filter λ z => !Nat.beq z.1 y.1) K s')) s
      | false=>False) (x::xs))):=by
 cases n with
 | zero=>exact h.elim
 | succ n =>
  simp only[iz] at h;refine⟨n,?_⟩;split at h
  .rename_i h1;refine⟨h1,?_⟩;split at h
   .rename_i h2;exact .inl ⟨h2,h⟩
   .split at h
    .exact h.elim
    .rename_i h3;exact .inr ⟨h3,h⟩
  .exact h.elim
theorem WQ{E:Env}{ck:List Nat}{n:Nat}{R:List (Nat×Oper)}{x:Nat×Oper}{xs:List (Nat×Oper)}{K:ai->Prop}{s:ai}(hz:dt E x.2=true)(h:iz E ck n R (x::xs) K s) :
  ∃ m,kZ E x.2 (λ s'=>gS E (R.filter λ r => !Nat.testBit (ck.getD x.1 0) r.1) s' (iz E ck m (R.filter λ r => !Nat.testBit (ck.getD x.1 0) r.1) xs K s')) s:=by
 obtain⟨m,_,h|h⟩:=Ny h
 .exact⟨m,h.2⟩
 .rw[hz] at h;cases h.1
theorem EF{p:Nat×Oper->Bool}{f:Nat×Oper->Prop}:∀ {l:List (Nat×Oper)},CZ p f l->∀ y∈l,p y=true->f y
 | [],_,y,hy,_=>by cases hy
 | x::l,h,y,hy,hp=>by
  unfold CZ at h;split at h
  .rcases b3S.1 hy with rfl|hy
   .exact h.1
   .exact EF h.2 y hy hp
  .rename_i h0;rcases b3S.1 hy with rfl|hy
   .rw[hp] at h0;cases h0
   .exact EF h y hy hp
theorem a4I{a b:Nat}:Nat.beq a b=false↔a≠b:=by
 constructor
 .intro h e;subst e;rw[Nat.beq_refl] at h;cases h
 .intro h;cases hb:Nat.beq a b
  .rfl
  .exact absurd (b3x hb) h
theorem VF{x:Nat×Oper}{xs:List (Nat×Oper)}(h:x.1∉xs.map (·.1)):((x::xs).filter λ z => !Nat.beq z.1 x.1)=xs:=by
 rw[b7b,b3H (by simp)];refine List.filter_eq_self.2 λ z hz=>?_;have:z.1≠x.1:=λ e=>h (b3E.2 ⟨z,hz,e⟩);rw[a4I.2 this];rfl
theorem YO{i:Nat}{o:Oper}:∀ {X:List (Nat×Oper)},(i,o)∈X->(X.map (·.1)).Nodup->(X.filter λ z => !Nat.beq z.1 i).length+1=X.length
 | [],h,_=>by cases h
 | x::xs,h,hn=>by
  simp only[b4o,b4n] at hn;rcases b3S.1 h with e|h
  .subst e;rw[VF (x:=(i,o)) hn.1];rfl
  .have eQ:x.1≠i:=λ e=>hn.1 (b3E.2 ⟨_,h,e.symm⟩);rw[b7b,b4d (by rw[a4I.2 eQ];rfl),b3G,b3G,YO h hn.2]
theorem a3s{E:Env}{ck:List Nat}{n:Nat}{R X:List (Nat×Oper)}{y:Nat×Oper}{K:ai->Prop}{s:ai}(h:iz E ck n R X K s)(hy:y∈X)(cQ:(X.map (·.1)).Nodup)(hc:Vl E ck X y=true)
  (hh:∀ x xs,X=x::xs->dt E x.2=true->Nat.testBit (ck.getD y.1 0) x.1=false) :
  ∃ m,fY (dstsOf (R.filter λ r => !Nat.testBit (ck.getD y.1 0) r.1)++sM E (X.filter λ z => !Nat.beq z.1 y.1)) y.2=true /\
   kZ E y.2 (λ s'=>gS E (R.filter λ r => !Nat.testBit (ck.getD y.1 0) r.1) s' (iz E ck m (R.filter λ r => !Nat.testBit (ck.getD y.1 0) r.1) (X.filter λ z => !Nat.beq z.1 y.1) K s')) s:=by
 match X,hy,cQ,hc,hh,h with
 | x::xs,hy,cQ,hc,hh,h =>
  obtain⟨m,_,h|h⟩:=Ny h
  .obtain⟨h1,h2⟩:=h;simp only[b3A,b4r,b5o] at h1;have e:y=x:=by
    rcases b3S.1 hy with e|hy
    .exact e
    .simp only[Vl,b3A,b3I,b4r,b5o] at hc;rcases h1.2 y hy with q|q
     .rw[hc.1] at q;cases q
     .rcases hc.2 x (by simp) with k|k
      .rw[hh x xs rfl k] at q;cases q
      .rw[k] at q;cases q
   subst e;simp only[b4o,b4n] at cQ;rw[VF cQ.1];exact⟨m,h1.1,h2⟩
  .have:=EF h.2 y hy hc;split at this
   .rename_i hu;exact⟨m,hu,this⟩
   .exact this.elim
theorem a1K(
          hE:bE c.P c.E) {ops:Array Oper} {hi:Nat} {Seg:List (Nat×Oper)} (dM:backward ops.toList=true) (hhi:hi<=ops.size)
  (p8:∀ j o,hi<=j->ops.toList[j]?=some o->∀ k,k<hi->Nat.testBit ((bU ops.toList []).getD j 0) k=true)
  (a8E:∀ x∈Seg,x.2.guard=none) (UD:∀ x∈Seg,pG c.E x.2=true) (a6V:∀ x∈Seg,kf x.2.op=true->fY (dstsOf (Seg.filter λ y => !Nat.testBit ((bU ops.toList []).getD x.1 0) y.1)++sM c.E Seg) x.2=true) (a6S:∀ x∈Seg,∀ y∈Seg,∀ t,x.2.dst=some t->y.2.dst=some t->x.1=y.1) {K:ai->Prop} {Q':Exit->Act->World->Prop}
  (Lx:∀ (fuel:Nat) (G:Gh) (s:ai) (a:Act) (w:World) (listed:Array Bool),ops.size=hi+fuel->listed.size=ops.size->(∀ k,k<ops.size->(listed.getD k false=true↔k<hi))->Inv c G s a w->K s->wpAny c.P .any ops Q' fuel listed a w) :
  ∀ (N fuel:Nat) (Rc X:List (Nat×Oper)) (R:List Nat) (PL:List PE) (SL:List XE) (G:Gh) (t:ai) (a b:Act) (w:World) (listed:Array Bool),fuel+X.length<=N->fuel+PL.length+SL.length=R.length+X.length+(ops.size - hi)->listed.size=ops.size ->
   (∀ i∈R,i<hi/\∃ o,ops.toList[i]?=some o/\(i,o)∈Rc/\(i,o)∈Seg/\mY c.E (bU ops.toList []) Seg (i,o)=true/\fY (dstsOf (Seg.filter λ y => !Nat.testBit ((bU ops.toList []).getD i 0) y.1)) o=true)->(∀ x∈X,x.1<hi/\ops.toList[x.1]?=some x.2/\x∈Seg)->R.Nodup->(X.map (·.1)).Nodup->(∀ i∈R,∀ x∈X,i≠x.1) ->
   (PL.map PE.i++SL.map XE.i).Nodup->(PL.map PE.b).Nodup->(∀ p∈PL,Es c G t.ah X a w p)->(∀ e∈SL,XOk c.E c.P X a e) ->
   (∀ k,k<ops.size->(listed.getD k false=true↔k<hi/\k∉R/\((∀ x∈X,x.1≠k)\/k∈PL.map PE.i++SL.map XE.i)))->(∀ k,k<ops.size->listed.getD k false=true->∀ o,ops.toList[k]?=some o->∀ e∈o.after.toList,Region.binds .any e=true->listed.getD e.on false=true) ->
   Inv c G t b w->nj (R.filterMap (cE ops.toList)++(PL.map PE.d++SL.map XE.d)) a b->(∀ i∈R,∀ o,ops.toList[i]?=some o->∃ d vc,o.dst=some d/\rop c.E t o=some (vc,t.aC.getD d .any)/\Vc.ok vc) ->
   ∀ n,iz c.E (bU ops.toList []) n Rc X K t->wpAny c.P .any ops Q' fuel listed a w:=by
 intro N;induction N with
 | zero =>
  intro fuel Rc X R PL SL G t a b w listed hN hf cJ hR hX Is Ps Pp Tt Z7 mI nz hl EZ hI hA hs nn hK;have h2:X=[]:=b4C (by omega);subst h2;have h3:PL=[]:=by
   cases PL with
   | nil=>rfl
   | cons p PL=>obtain⟨o,T,τ,r,hm,_⟩:=(mI p (by simp)).ex;cases hm
  subst h3;have h4:SL=[]:=by
   cases SL with
   | nil=>rfl
   | cons p SL=>have hm:=(nz p (by simp)).mem;cases hm
  subst h4;have h1:R=[]:=List.eq_nil_of_length_eq_zero (by simp at hf;omega);subst h1;have kE:a=b:=nj.eq (by simpa using hA);subst kE;exact Lx fuel G t a w listed (by simp at hf;omega) cJ (λ k hk=>by rw[hl k hk];simp) hI (by rw[Zc] at hK;exact hK)
 | succ N ih =>
  intro fuel Rc X R PL SL G t a b w listed hN hf cJ hR hX Is Ps Pp Tt Z7 mI nz hl EZ hI hA hs nn hK;by_cases M5:R=[]/\X=[]
  .obtain⟨rfl,rfl⟩:=M5;have h3:PL=[]:=by
    cases PL with
    | nil=>rfl
    | cons p PL=>obtain⟨o,T,τ,r,hm,_⟩:=(mI p (by simp)).ex;cases hm
   subst h3;have h4:SL=[]:=by
    cases SL with
    | nil=>rfl
    | cons p SL=>have hm:=(nz p (by simp)).mem;cases hm
   subst h4;have kE:a=b:=nj.eq (by simpa using hA);subst kE;exact Lx fuel G t a w listed (by simp at hf;omega) cJ (λ k hk=>by rw[hl k hk];simp) hI (by rw[Zc] at hK;exact hK)
  have a3c:∀ i o,i<ops.size->ops.toList[i]?=some o->listed.getD i false=true->∀ k,Nat.testBit ((bU ops.toList []).getD i 0) k=true->listed.getD k false=true/\k<ops.size:=λ i o hi ho hli k hk =>
   HG (l:=ops.toList) (D:=λ k=>listed.getD k false=true/\k<ops.size) (λ k hk o' cO e he hb=>⟨EZ k hk.2 hk.1 o' cO e he hb,by
    have:=cf dM k o' cO e he hb;have:=hk.2;omega⟩) i o ho (λ e he hb=>⟨EZ i hi hli o ho e he hb,by
    have:=cf dM i o ho e he hb;omega⟩) k hk
  by_cases UC:∃ x0 xs p,X=x0::xs/\p∈PL/\p.i=x0.1
  .obtain⟨x0,xs,p,rfl,hp,hpi⟩:=UC;obtain⟨o,T,τ,r,hm,bx,Nb,hT,ka⟩:=(mI p hp).ex;have hx0:x0=(p.i,o):=by
    have h1:=(hX x0 (by simp)).2.1;have h2:=(hX _ hm).2.1;rw[<-hpi,h2] at h1;simp only[b3t] at h1;rw[h1,hpi]
   subst hx0;obtain⟨mm,hK⟩:=WQ (by simp[dt,nS,bx]) hK;rw[a0B bx Nb hT,<-ka] at hK;obtain⟨k1,k2⟩:=kJ hK.2;have VS:=hX _ hm;have hlp:listed.getD p.i false=true:=(hl p.i (by have:=VS.1;simp only at this;omega)).2 ⟨VS.1,λ q=>Pp _ q _ hm rfl, .inr (b3y.2 (.inl (b3E.2 ⟨p,hp,rfl⟩)))⟩;have eL:∀ j∈R,∃ o',ops.toList[j]?=some o'/\(j,o')∈Rc.filter λ r => !Nat.testBit ((bU ops.toList []).getD p.i 0) r.1:=λ j hj=>by
    obtain⟨q1,o',q2,q3,_,_⟩:=hR j hj;refine⟨o',q2,b4T.2 ⟨q3,?_⟩⟩;simp only[b3I];cases hb:Nat.testBit ((bU ops.toList []).getD p.i 0) j with
    | false=>rfl
    | true=>exact absurd hj ((hl j (by omega)).1 (a3c p.i o (by have:=VS.1;simp only at this;omega) VS.2.1 hlp j hb).1).2.1
   have a6Z:∀ q∈PL.erase p,q∈PL/\q.i≠p.i/\q.b≠p.b:=λ q hq=>by
    have a4u:=b5g hq;have Rm:=b7n hp;have n1:=(Rm.map PE.i).nodup_iff.1 (b4a.1 Tt).1;have n2:=(Rm.map PE.b).nodup_iff.1 Z7;simp only[b4o,b4n] at n1 n2;exact⟨a4u,λ e=>n1.1 (b3E.2 ⟨q,hq,e⟩),λ e=>n2.1 (b3E.2 ⟨q,hq,e⟩)⟩
   have b0F:(PL.erase p).length+1=PL.length:=by
    have:=b5D hp;have:=b5I hp;omega
   simp only[b4o,b4n] at Ps;refine ih fuel _ xs R (PL.erase p) SL _ _ a (b.put (some p.d) p.x) w listed (by simp at hN;omega) (by simp at hf;omega) cJ (λ j hj=>?_) (λ y hy=>hX y (by simp[hy])) Is Ps.2 (λ j hj y hy=>Pp j hj y (by simp[hy])) ?_ ?_ (λ q hq=>?_) (λ e he=>?_) (λ k hk=>?_) EZ (a2w hI (mI p hp)) ?_ (λ j hj o' cO=>?_) _ k2
   .obtain⟨q1,o',q2,q3,q4,q7⟩:=hR j hj;obtain⟨o2,q5,q6⟩:=eL j hj;have e:o'=o2:=by rw[q2] at q5;simpa using q5
    subst e;exact⟨q1,o',q2,q6,q4,q7⟩
   .exact Tt.sublist ((b6g _ b6I).append (List.Sublist.refl _))
   .exact Z7.sublist (b6g _ b6I)
   .obtain⟨KV,Iy,hq3⟩:=a6Z q hq;obtain⟨o2,T2,kL,r2,m1,m2,m3,m4,m5⟩:=(mI q KV).ex;refine⟨⟨o2,T2,kL,r2,?_,m2,m3,m4,m5⟩,(mI q KV).val,(mI q KV).ptr,(mI q KV).lt,(mI q KV).new,a2v (mI p hp) (mI q KV).fr hq3⟩;rcases b3S.1 m1 with e|m1
    .simp only[b3w] at e;exact absurd e.1 Iy
    .exact m1
   .have h3:=nz e he;refine⟨?_,h3.dst,h3.val,h3.run⟩;rcases b3S.1 h3.mem with q|q
    .simp only[b3w] at q;rcases h3.run with ⟨q',_⟩|⟨⟨q',_⟩,_⟩<;>(rw[q.2,bx] at q';cases q')
    .exact q
   .rw[hl k hk];constructor
    .rintro⟨q1,q2,q3⟩;refine⟨q1,q2,?_⟩;by_cases BY:k=p.i
     .subst BY;exact .inl λ y hy e=>Ps.1 (b3E.2 ⟨y,hy,e⟩)
     .rcases q3 with q3|q3
      .exact .inl λ y hy=>q3 y (by simp[hy])
      .rcases b3y.1 q3 with q3|q3
       .obtain⟨q,hq,rfl⟩:=b3E.1 q3;exact .inr (b3y.2 (.inl (b3E.2 ⟨q,(b5L (λ e=>BY (by rw[e]))).2 hq,rfl⟩)))
       .exact .inr (b3y.2 (.inr q3))
    .rintro⟨q1,q2,q3⟩;refine⟨q1,q2,?_⟩;by_cases BY:k=p.i
     .subst BY;exact .inr (b3y.2 (.inl (b3E.2 ⟨p,hp,rfl⟩)))
     .rcases q3 with q3|q3
      .refine .inl λ y hy=>?_;rcases b3S.1 hy with rfl|hy
       .exact λ e=>BY e.symm
       .exact q3 y hy
      .rcases b3y.1 q3 with q3|q3
       .obtain⟨q,hq,rfl⟩:=b3E.1 q3;exact .inr (b3y.2 (.inl (b3E.2 ⟨q,b5g hq,rfl⟩)))
       .exact .inr (b3y.2 (.inr q3))
   .refine⟨by rw[gJ];exact hA.size,hA.da,by rw[jI];exact hA.db,λ u hu=>?_⟩;by_cases hud:u=p.d
    .subst hud;rw[(mI p hp).val,ej,<-hA.size];by_cases bK:p.d<a.tmps.size
     .rw[b4d bK,b4d ⟨rfl,bK⟩]
     .rw[b3H bK,b3H (λ q=>bK q.2),b4s,b4X (by rw[<-hA.size];omega)];rfl
    .rw[ej,if_neg (λ q=>hud (by simpa using q.1.symm))];refine hA.at' u λ hm=>hu ?_;rcases List.mem_append.1 hm with hm|hm
     .exact b3y.2 (.inl hm)
     .rcases b3y.1 hm with hm|hm
      .obtain⟨q,hq,rfl⟩:=b3E.1 hm;exact b3y.2 (.inr (b3y.2 (.inl (b3E.2 ⟨q,(b5L (λ e=>hud (by rw[e]))).2 hq,rfl⟩))))
      .exact b3y.2 (.inr (b3y.2 (.inr hm)))
   .obtain⟨o2,q5,q6⟩:=eL j hj;rw[q5] at cO;simp only[b3t] at cO;subst cO;exact k1 (j,o2) q6
  by_cases Pt:∃ x0 xs e,X=x0::xs/\e∈SL/\e.i=x0.1
  .obtain⟨x0,xs,e,rfl,he,hei⟩:=Pt;have Z6:=nz e he;have hx0:x0=(e.i,e.o):=by
    have h1:=(hX x0 (by simp)).2.1;have h2:=(hX _ Z6.mem).2.1;rw[<-hei,h2] at h1;simp only[b3t] at h1;rw[h1,hei]
   subst hx0;obtain⟨mm,hK⟩:=WQ Z6.lz hK;have VS:=hX _ Z6.mem;have hlp:listed.getD e.i false=true:=(hl e.i (by have:=VS.1;simp only at this;omega)).2 ⟨VS.1,λ q=>Pp _ q _ Z6.mem rfl, .inr (b3y.2 (.inr (b3E.2 ⟨e,he,rfl⟩)))⟩;have a6P:=a3c e.i e.o (by have:=VS.1;simp only at this;omega) VS.2.1 hlp;have eL:∀ j∈R,∃ o',ops.toList[j]?=some o'/\(j,o')∈Rc.filter λ r => !Nat.testBit ((bU ops.toList []).getD e.i 0) r.1:=λ j hj=>by
    obtain⟨q1,o',q2,q3,_,_⟩:=hR j hj;refine⟨o',q2,b4T.2 ⟨q3,?_⟩⟩;simp only[b3I];cases hb:Nat.testBit ((bU ops.toList []).getD e.i 0) j with
    | false=>rfl
    | true=>exact absurd hj ((hl j (by omega)).1 (a6P j hb).1).2.1
   have hDu:∀ u,u∈R.filterMap (cE ops.toList)++(PL.map PE.d++SL.map XE.d)->u∈dstsOf (Seg.filter λ y => !Nat.testBit ((bU ops.toList []).getD e.i 0) y.1)++sM c.E Seg:=λ u hu=>by
    rcases b3y.1 hu with hu|hu
    .obtain⟨j,hj,Hl⟩:=List.mem_filterMap.1 hu;obtain⟨q1,o',q2,_,q3,_⟩:=hR j hj;refine List.mem_append.2 (.inl (gE.2 ⟨(j,o'),List.mem_filter.2 ⟨q3,?_⟩,by simpa [cE,q2] using Hl⟩));simp only[Bool.not_eq_true'];cases hb:Nat.testBit ((bU ops.toList []).getD e.i 0) j with
     | false=>rfl
     | true=>exact absurd hj ((hl j (by omega)).1 (a6P j hb).1).2.1
    .rcases b3y.1 hu with hu|hu
     .obtain⟨p,hp,rfl⟩:=b3E.1 hu;obtain⟨o2,T,τ,r,hm,V6,Nb,_⟩:=(mI p hp).ex;exact b3y.2 (.inr (mb c.E (hX _ hm).2.2 (by simp[dt,nS,V6]) Nb))
     .obtain⟨q,hq,rfl⟩:=b3E.1 hu;exact b3y.2 (.inr (mb c.E (hX _ (nz q hq).mem).2.2 (nz q hq).lz (nz q hq).dst))
   obtain⟨v,TD,hK⟩:∃ v,VR c G t.ah w v e.x/\gS c.E (Rc.filter λ r => !Nat.testBit ((bU ops.toList []).getD e.i 0) r.1) (t.put (some e.d) v) (iz c.E (bU ops.toList []) mm (Rc.filter λ r => !Nat.testBit ((bU ops.toList []).getD e.i 0) r.1) xs K (t.put (some e.d) v)):=by
    rcases Z6.run with ⟨hx,hr⟩|⟨hx,p,hp⟩
    .obtain⟨tt,ix,bx⟩:∃ tt ix,e.o.op = .extract tt ix:=by
      have:=hx;unfold kf at this;split at this
      .exact⟨_,_,by assumption⟩
      .cases this
     obtain⟨vs,v,hv1,hv2,hK⟩:=Xj bx Z6.dst hK;have cG:=hr w;rw[hA.exec (nf (a6V _ VS.2.2 hx) hDu)] at cG;have TD:=ZZ hI bx hv1 hv2 cG;exact⟨v,TD,JY TD hK⟩
    .obtain⟨τ,hK⟩:=a2k hx (UD _ VS.2.2) Z6.dst hK;refine⟨_,?_,hK⟩;rw[hp];exact⟨p,0,rfl,b4h _,by simp[maxLen],by simp, .inl rfl⟩
   obtain⟨k1,k2⟩:=kJ hK;have a6Z:∀ q∈SL.erase e,q∈SL/\q.i≠e.i:=λ q hq=>by
    have a4u:=b5g hq;have Rm:=b7n he;have n1:=(Rm.map XE.i).nodup_iff.1 (b4a.1 Tt).2.1;simp only[b4o,b4n] at n1;exact⟨a4u,λ q'=>n1.1 (b3E.2 ⟨q,hq,q'⟩)⟩
   have b0F:(SL.erase e).length+1=SL.length:=by
    have:=b5D he;have:=b5I he;omega
   simp only[b4o,b4n] at Ps;refine ih fuel _ xs R PL (SL.erase e) _ _ a (b.put (some e.d) e.x) w listed (by simp at hN;omega) (by simp at hf;omega) cJ (λ j hj=>?_) (λ y hy=>hX y (by simp[hy])) Is Ps.2 (λ j hj y hy=>Pp j hj y (by simp[hy])) ?_ Z7 (λ q hq=>?_) (λ q hq=>?_) (λ k hk=>?_) EZ (Inv.put (d:=some e.d) hI TD) ?_ (λ j hj o' cO=>?_) _ k2
   .obtain⟨q1,o',q2,q3,q4,q7⟩:=hR j hj;obtain⟨o2,q5,q6⟩:=eL j hj;have e:o'=o2:=by rw[q2] at q5;simpa using q5
    subst e;exact⟨q1,o',q2,q6,q4,q7⟩
   .exact Tt.sublist ((List.Sublist.refl _).append (b6g _ b6I))
   .obtain⟨o2,T2,kL,r2,m1,m2,m3,m4,m5⟩:=(mI q hq).ex;refine⟨⟨o2,T2,kL,r2,?_,m2,m3,m4,m5⟩,(mI q hq).val,(mI q hq).ptr,(mI q hq).lt,(mI q hq).new,(mI q hq).fr⟩;rcases b3S.1 m1 with e'|m1
    .simp only[b3w] at e';rcases Z6.run with ⟨q',_⟩|⟨⟨q',_⟩,_⟩<;>(rw[<-e'.2,m2] at q';cases q')
    .exact m1
   .obtain⟨KV,Iy⟩:=a6Z q hq;have h3:=nz q KV;refine⟨?_,h3.dst,h3.val,h3.run⟩;rcases b3S.1 h3.mem with e'|e'
    .simp only[b3w] at e';exact absurd e'.1 Iy
    .exact e'
   .rw[hl k hk];constructor
    .rintro⟨q1,q2,q3⟩;refine⟨q1,q2,?_⟩;by_cases BY:k=e.i
     .subst BY;exact .inl λ y hy e=>Ps.1 (b3E.2 ⟨y,hy,e⟩)
     .rcases q3 with q3|q3
      .exact .inl λ y hy=>q3 y (by simp[hy])
      .rcases b3y.1 q3 with q3|q3
       .exact .inr (b3y.2 (.inl q3))
       .obtain⟨q,hq,rfl⟩:=b3E.1 q3;exact .inr (b3y.2 (.inr (b3E.2 ⟨q,(b5L (λ e=>BY (by rw[e]))).2 hq,rfl⟩)))
    .rintro⟨q1,q2,q3⟩;refine⟨q1,q2,?_⟩;by_cases BY:k=e.i
     .subst BY;exact .inr (b3y.2 (.inr (b3E.2 ⟨e,he,rfl⟩)))
     .rcases q3 with q3|q3
      .refine .inl λ y hy=>?_;rcases b3S.1 hy with rfl|hy
       .exact λ e=>BY e.symm
       .exact q3 y hy
      .rcases b3y.1 q3 with q3|q3
       .exact .inr (b3y.2 (.inl q3))
       .obtain⟨q,hq,rfl⟩:=b3E.1 q3;exact .inr (b3y.2 (.inr (b3E.2 ⟨q,b5g hq,rfl⟩)))
   .refine⟨by rw[gJ];exact hA.size,hA.da,by rw[jI];exact hA.db,λ u hu=>?_⟩;by_cases hud:u=e.d
    .subst hud;rw[Z6.val,ej,<-hA.size];by_cases bK:e.d<a.tmps.size
     .rw[b4d bK,b4d ⟨rfl,bK⟩]
     .rw[b3H bK,b3H (λ q=>bK q.2),b4s,b4X (by rw[<-hA.size];omega)];rfl
    .rw[ej,if_neg (λ q=>hud (by simpa using q.1.symm))];refine hA.at' u λ hm=>hu ?_;rcases List.mem_append.1 hm with hm|hm
     .exact b3y.2 (.inl hm)
     .rcases b3y.1 hm with hm|hm
      .exact b3y.2 (.inr (b3y.2 (.inl hm)))
      .obtain⟨q,hq,rfl⟩:=b3E.1 hm;exact b3y.2 (.inr (b3y.2 (.inr (b3E.2 ⟨q,(b5L (λ e=>hud (by rw[e]))).2 hq,rfl⟩))))
   .obtain⟨o2,q5,q6⟩:=eL j hj;rw[q5] at cO;simp only[b3t] at cO;subst cO;exact k1 (j,o2) q6
  have a6O:∀ p∈PL,∃ x∈X,x.1=p.i:=λ p hp=>by
   obtain⟨o,T,τ,r,hm,_⟩:=(mI p hp).ex;exact⟨_,hm,rfl⟩
  have a1t:∀ p∈SL,∃ x∈X,x.1=p.i:=λ p hp=>⟨_,(nz p hp).mem,rfl⟩;have hun:∃ k,k<hi/\¬ (listed.getD k false=true):=by
   rcases R with _|⟨i,R⟩
   .rcases X with _|⟨x,X⟩
    .exact absurd ⟨rfl,rfl⟩ M5
    .have:=(hX x (by simp)).1;refine⟨x.1,this,λ hh=>((hl x.1 (by omega)).1 hh).2.2.elim (λ q=>q x (by simp) rfl) λ q=>?_⟩;rcases b3y.1 q with q|q
     .obtain⟨p,hp,e⟩:=b3E.1 q;exact UC ⟨x,X,p,rfl,hp,e⟩
     .obtain⟨p,hp,e⟩:=b3E.1 q;exact Pt ⟨x,X,p,rfl,hp,e⟩
   .have:=(hR i (by simp)).1;exact⟨i,this,λ hh=>((hl i (by omega)).1 hh).2.1 (by simp)⟩
  have PF:PL.length+SL.length<R.length+X.length:=by
   rcases R with _|⟨i,R⟩
   .rcases X with _|⟨x,X⟩
    .exact absurd ⟨rfl,rfl⟩ M5
    .have th:(PL.map PE.i++SL.map XE.i) ⊆ X.map (·.1):=λ k hk=>by
      rcases b3y.1 hk with hk|hk
      .obtain⟨p,hp,rfl⟩:=b3E.1 hk;obtain⟨y,hy,e⟩:=a6O p hp;rcases b3S.1 hy with rfl|hy
       .exact absurd ⟨_,_,p,rfl,hp,e.symm⟩ UC
       .exact b3E.2 ⟨y,hy,e⟩
      .obtain⟨p,hp,rfl⟩:=b3E.1 hk;obtain⟨y,hy,e⟩:=a1t p hp;rcases b3S.1 hy with rfl|hy
       .exact absurd ⟨_,_,p,rfl,hp,e.symm⟩ Pt
       .exact b3E.2 ⟨y,hy,e⟩
     have:=b5V Tt th;simp at this ⊢;omega
   .have th:(PL.map PE.i++SL.map XE.i) ⊆ X.map (·.1):=λ k hk=>by
     rcases b3y.1 hk with hk|hk
     .obtain⟨p,hp,rfl⟩:=b3E.1 hk;obtain⟨y,hy,e⟩:=a6O p hp;exact b3E.2 ⟨y,hy,e⟩
     .obtain⟨p,hp,rfl⟩:=b3E.1 hk;obtain⟨y,hy,e⟩:=a1t p hp;exact b3E.2 ⟨y,hy,e⟩
    have:=b5V Tt th;simp at this ⊢;omega
  obtain⟨fuel,rfl⟩:∃ f,fuel=f+1:=⟨fuel - 1,by omega⟩;obtain⟨k1,Rl⟩:=hun;obtain⟨k0,⟨a4s,tf⟩,a1A⟩:=exists_least (p:=λ k=>k<hi/\¬ (listed.getD k false=true)) k1 Rl;have a1x:ops[k0]?=some (ops[k0]'(by omega)):=b4J (by omega);constructor
  .intro tg;have:k0∈Region.ready .any ops listed:=(mem_ready cJ).2 ⟨_,a1x,by
    cases hb:listed.getD k0 false with
    | false=>rfl
    | true=>exact absurd hb tf,λ e he hb=>by
    have bK:=cf dM k0 ops[k0] (by simp) e he hb;exact b6m λ hh=>a1A e.on bK ⟨by omega,hh⟩⟩
   rw[tg] at this;cases this
  .intro i lZ;obtain⟨o,cF,h1,h2⟩:=(mem_ready cJ).1 lZ;have Lz:=(Array.getElem?_eq_some_iff.1 cF).1;have eE:ops.toList[i]?=some o:=by simpa using cF
   have FX:=HG (l:=ops.toList) (D:=λ k=>listed.getD k false=true/\k<ops.size) (λ k hk o' cO e he hb=>⟨EZ k hk.2 hk.1 o' cO e he hb,by
    have:=cf dM k o' cO e he hb;have:=hk.2;omega⟩) i o eE (λ e he hb=>⟨h2 e he hb,by
    have:=cf dM i o eE e he hb;omega⟩)
   have te:i<hi:=by
    rcases b4y i hi with h|h
    .exact h
    .exact absurd (FX k0 (p8 i o h eE k0 a4s)).1 tf
   have yo:∀ k,(listed.setIfInBounds i true).getD k false=true↔listed.getD k false=true\/k=i:=λ k=>tH (by omega);have a1v:∀ k,k<ops.size->(listed.setIfInBounds i true).getD k false=true->∀ o,ops.toList[k]?=some o->∀ e∈o.after.toList,Region.binds .any e=true->(listed.setIfInBounds i true).getD e.on false=true:=by
    intro k hk PB o' cO e he hb;rw[yo] at PB ⊢;rcases PB with PB|rfl
    .exact .inl (EZ k hk PB o' cO e he hb)
    .rw[eE] at cO;simp only[b3t] at cO;subst cO;exact .inl (h2 e he hb)
   have a7c:¬ (listed.getD i false=true):=by rw[h1];simp
   have a4w:=a7c;rw[hl i Lz] at a4w;have hXi:i∉R->∃ x∈X,x.1=i:=λ M9=>b6m λ hh=>a4w ⟨te,M9, .inl λ x hx e=>hh ⟨x,hx,e⟩⟩;have YY:∀ p∈PL,p.i≠i:=λ p hp e=>by
    obtain⟨x,hx,hxe⟩:=a6O p hp;exact a4w ⟨te,λ q=>Pp i q x hx (by rw[hxe,e]), .inr (b3y.2 (.inl (b3E.2 ⟨p,hp,e⟩)))⟩
   have YZ:∀ p∈SL,p.i≠i:=λ p hp e=>by
    obtain⟨x,hx,hxe⟩:=a1t p hp;exact a4w ⟨te,λ q=>Pp i q x hx (by rw[hxe,e]), .inr (b3y.2 (.inr (b3E.2 ⟨p,hp,e⟩)))⟩
   have Pq:(i,o)∈Seg:=by
    by_cases M9:i∈R
    .obtain⟨_,o',cO,_,hm,_⟩:=hR i M9;rw[eE] at cO;simp only[b3t] at cO;subst cO;exact hm
    .obtain⟨x,hx,Wf⟩:=hXi M9;have:=(hX x hx).2.1;rw[Wf,eE] at this;simp only[b3t] at this;have e:x=(i,o):=by rw[<-Wf,this]
     rw[<-e];exact (hX x hx).2.2
   have hg:o.guard=none:=a8E _ Pq;have hPd:∀ p∈PL,o.dst≠some p.d:=λ p hp e=>by
    obtain⟨o2,T,τ,r,hm,bx,Nb,_⟩:=(mI p hp).ex;have hsg:=(hX _ hm).2.2;exact YY p hp (a6S _ hsg _ Pq p.d Nb e)
   have hSd:∀ p∈SL,o.dst≠some p.d:=λ p hp e=>YZ p hp (a6S _ (hX _ (nz p hp).mem).2.2 _ Pq p.d (nz p hp).dst e);have hSu:∀ p∈SL,∀ t,o.dst=some t->fY [t] p.o=true:=λ p hp t ht=>by
    have hm:=hX _ (nz p hp).mem;have hlp:listed.getD p.i false=true:=(hl p.i (by have:=hm.1;simp only at this;omega)).2 ⟨hm.1,λ q=>Pp _ q _ (nz p hp).mem rfl, .inr (b3y.2 (.inr (b3E.2 ⟨p,hp,rfl⟩)))⟩;rcases (nz p hp).run with ⟨hex,_⟩|⟨E2,_⟩;rotate_left
    .exact a3X E2.1 _
    refine nf (a6V _ hm.2.2 hex) λ u hu=>?_;simp only[b4e] at hu;subst hu;refine b3y.2 (.inl (gE.2 ⟨_,b4T.2 ⟨Pq,?_⟩,ht⟩));simp only[b3I];cases hb:Nat.testBit ((bU ops.toList []).getD p.i 0) i with
    | false=>rfl
    | true=>exact absurd (a3c p.i p.o (by have:=hm.1;simp only at this;omega) hm.2.1 hlp i hb).1 a7c
   have hw:Region.wanted o (yielded ops a.tmps)=true:=by simp[Region.wanted,hg]
   unfold wpOp;simp only[cF];rw[if_pos hw];refine .inl ?_;by_cases M9:i∈R
   ·
    obtain⟨_,o',cO,a4u,_,hH,hu⟩:=hR i M9;rw[eE] at cO;simp only[b3t] at cO;subst cO;obtain⟨d,vc,hd,hr,er⟩:=hs i M9 o eE;obtain⟨x,hx,hvx⟩:=Xi hE hI hr er;have hu:fY (R.filterMap (cE ops.toList)++(PL.map PE.d++SL.map XE.d)) o=true:=nf hu λ t ht=>by
     rcases b3y.1 ht with ht|ht
     .obtain⟨j,hj,Hl⟩:=List.mem_filterMap.1 ht;obtain⟨q1,o',q2,_,q3,_⟩:=hR j hj;refine gE.2 ⟨(j,o'),List.mem_filter.2 ⟨q3,?_⟩,by simpa [cE,q2] using Hl⟩;simp only[Bool.not_eq_true'];cases hb:Nat.testBit ((bU ops.toList []).getD i 0) j with
      | false=>rfl
      | true=>exact absurd hj ((hl j (by omega)).1 (FX j hb).1).2.1
     .obtain⟨zi,zo,hm,hlz,Nb⟩:∃ zi zo,(zi,zo)∈X/\dt c.E zo=true/\zo.dst=some t:=by
       rcases b3y.1 ht with ht|ht
       .obtain⟨p,hp,rfl⟩:=b3E.1 ht;obtain⟨o2,T,τ,r,hm,bx,Nb,_⟩:=(mI p hp).ex;exact⟨_,o2,hm,by simp[dt,nS,bx],Nb⟩
       .obtain⟨p,hp,rfl⟩:=b3E.1 ht;exact⟨_,p.o,(nz p hp).mem,(nz p hp).lz,(nz p hp).dst⟩
      have hsg:=(hX _ hm).2.2;by_cases hb:Nat.testBit ((bU ops.toList []).getD i 0) zi=true
      .simp only[mY,b3A,b4r,b5o,b3I] at hH;rcases hH.2 _ hsg with q|q
       .rw[GR (Yg q)] at hlz;cases hlz
       .rw[hb] at q;cases q
      .exact gE.2 ⟨_,List.mem_filter.2 ⟨hsg,by simpa using hb⟩,Nb⟩
    unfold Oper.wp;rw[hA.exec hu,hx];show wpAny c.P .any ops Q' fuel _ (a.put o.dst x) w;have XV:(R.erase i).length+1=R.length:=by
     have:=b5D M9;have:=b5I M9;omega
    have th:∀ t,t∈(R.erase i).filterMap (cE ops.toList)->t∈R.filterMap (cE ops.toList):=λ t ht=>by
     obtain⟨q,hq,hqd⟩:=b5B.1 ht;exact b5B.2 ⟨q,b5g hq,hqd⟩
    refine ih fuel Rc X (R.erase i) PL SL G t (a.put o.dst x) (b.put o.dst x) w _ (by omega) (by omega) (by rw[b4Z];exact cJ) (λ j hj=>?_) hX (Is.erase i) Ps (λ j hj=>Pp j (b5g hj)) Tt Z7 (λ p hp=>(mI p hp).put (hPd p hp)) (λ e he=>(nz e he).put hA.da (hSd e he) (hSu e he)) (λ k hk=>?_) a1v (by rw[hd];exact a5P hI hvx) (hA.put λ q hq X1=>?_) (λ j hj=>hs j (b5g hj)) _ hK
    .exact hR j (b5g hj)
    .rw[yo,hl k hk,Is.mem_erase_iff];constructor
     .rintro (⟨q1,q2,q3⟩|rfl)
      .exact⟨q1,λ q=>q2 q.2,q3⟩
      .exact⟨te,λ q=>q.1 rfl, .inl λ x hx=>(Pp _ M9 x hx).symm⟩
     .rintro⟨q1,q2,q3⟩;by_cases KU:k=i
      .exact .inr KU
      .exact .inl ⟨q1,λ q=>q2 ⟨KU,q⟩,q3⟩
    .rcases b3y.1 hq with hq|hq
     .obtain⟨j,hj,Hl⟩:=b5B.1 hq;by_cases uP:j=i
      .subst uP;rw[<-Hl];simp[cE,eE]
      .exact absurd (b3y.2 (.inl (b5B.2 ⟨j,Is.mem_erase_iff.2 ⟨uP,hj⟩,Hl⟩))) X1
     .exact absurd (b3y.2 (.inr hq)) X1
   .obtain⟨x,hx,Wf⟩:=hXi M9;have hxo:x=(i,o):=by
     have:=(hX x hx).2.1;rw[Wf,eE] at this;simp only[b3t] at this;rw[<-Wf,this]
    subst hxo;have hZ:∀ b,(∃ p∈PL,p.b=b)->wJ c G t.ah w b:=λ b ⟨p,hp,e⟩=>e ▸ (mI p hp).fr;by_cases hal:nS o.op=true
    ·
     have Tv:=UD _ Pq;obtain⟨T,bx⟩:∃ T,o.op = .alloc T:=by
      unfold nS at hal;split at hal
      .exact⟨_,by assumption⟩
      .cases hal
     unfold pG at Tv;simp only[bx,Bool.and_eq_true,Option.isSome_iff_exists] at Tv;obtain⟨⟨d,hd⟩,M4,⟨⟨τ,r⟩,hT⟩⟩:=Tv;simp only[hd,uf,Nat.blt_eq] at M4;obtain⟨w',p,hpi,hpd,hpb,cG,zU,hpo,BY⟩:=ZV hE hI (a2:=a) bx hd hT M4 hx;unfold Oper.wp;rw[cG];show wpAny c.P .any ops Q' fuel _ (a.put o.dst p.x) w';rw[hd];refine ih fuel Rc X R (p::PL) SL G t (a.put (some d) p.x) b w' _ (by omega) (by simp;omega) (by rw[Array.size_setIfInBounds];exact cJ) hR hX Is Ps Pp ?_ ?_ (λ q hq=>?_) (λ e he=>(nz e he).put hA.da (by rw[<-hd];exact hSd e he) (by rw[<-hd];exact hSu e he)) (λ k hk=>?_) a1v zU ?_ hs _ hK
     .simp only[b4o,b4M,b4n];refine⟨λ hm=>?_,Tt⟩;rcases b3y.1 hm with hm|hm
      .obtain⟨q,hq,e⟩:=b3E.1 hm;exact YY q hq (by rw[e,hpi])
      .obtain⟨q,hq,e⟩:=b3E.1 hm;exact YZ q hq (by rw[e,hpi])
     .simp only[b4o,b4n];refine⟨λ hm=>?_,Z7⟩;obtain⟨q,hq,e⟩:=b3E.1 hm;have:=(mI q hq).fr.2.2.1;rw[e,hpb] at this;exact b5R _ this
     .rcases b3S.1 hq with rfl|hq
      .exact hpo
      .have h3:=(mI q hq).put (d:=some d) (x:=p.x) (by rw[<-hd];exact hPd q hq);have bK:=h3.fr.2.2.1;refine⟨h3.ex,h3.val,h3.ptr,h3.lt,?_,h3.fr.grow BY.size⟩;obtain⟨l,ty,q1,q2⟩:=h3.new;exact⟨l,ty,by rw[BY.block q.b bK (λ h=>h)];exact q1,q2⟩
     .rw[yo,hl k hk,b4o,b4M,b3S,hpi];constructor
      .rintro (⟨q1,q2,q3⟩|rfl)
       .exact⟨q1,q2,q3.imp id .inr⟩
       .exact⟨te,M9, .inr (.inl rfl)⟩
      .rintro⟨q1,q2,q3⟩;by_cases KU:k=i
       .exact .inr KU
       .exact .inl ⟨q1,q2,q3.imp id λ q=>q.resolve_left KU⟩
     .refine⟨by rw[gJ];exact hA.size,by rw[jI];exact hA.da,hA.db,λ u hu=>?_⟩;simp only[List.map_cons,List.cons_append,List.mem_append,List.mem_cons,hpd] at hu;rw[ej,if_neg (λ q=>hu (.inr (.inl (by simpa using q.1.symm))))];exact hA.at' u λ hm=>hu ((List.mem_append.1 hm).imp id λ q => .inr (List.mem_append.1 q))
    by_cases hex:kf o.op=true
    ·
     obtain⟨tt,ix,bx⟩:∃ tt ix,o.op = .extract tt ix:=by
      have:=hex;unfold kf at this;split at this
      .exact⟨_,_,by assumption⟩
      .cases this
     have b1Z:AA t o.op=true:=by
      obtain⟨x0,xs,rfl⟩:∃ x0 xs,X=x0::xs:=by
       cases X with
       | nil=>cases hx
       | cons x0 xs=>exact⟨x0,xs,rfl⟩
      obtain⟨_,h3,_⟩:=Ny hK;unfold a0o at h3;rw[List.all_eq_true] at h3;have h4:=h3 _ hx;rw[Bool.or_eq_true] at h4;rcases h4 with h4|h4
      .exact h4
      .rw[List.any_eq_true] at h4;obtain⟨y,hy,h4⟩:=h4;rw[b3A,b3I] at h4;have h5:=(FX y.1 h4.2).1;have h6:=(hX y hy).1;rcases ((hl y.1 (by omega)).1 h5).2.2 with h7|h7
       .exact absurd rfl (h7 y hy)
       .have hyl:dt c.E y.2=true:=by
         have e0:=(hX y hy).2.1;rcases b3y.1 h7 with h7|h7
         .obtain⟨p,hp,e⟩:=b3E.1 h7;obtain⟨o2,T,τ,r,hm,V6,Nb,_⟩:=(mI p hp).ex;have e1:=(hX _ hm).2.1;simp only at e1;rw[e,e0] at e1;simp only[b3t] at e1;rw[e1];simp[dt,nS,V6]
         .obtain⟨p,hp,e⟩:=b3E.1 h7;have e1:=(hX _ (nz p hp).mem).2.1;simp only at e1;rw[e,e0] at e1;simp only[b3t] at e1;rw[e1];simp[(nz p hp).lz]
        rw[hyl] at h4;exact absurd h4.1 (by simp)
     obtain⟨x,cG⟩:=ZY hI bx b1Z;have Tv:=a6V _ Pq hex;obtain⟨d,hd⟩:∃ d,o.dst=some d:=by
      have:=UD _ Pq;simp only[pG,bx,Option.isSome_iff_exists] at this;exact this
     have hDu:∀ u,u∈R.filterMap (cE ops.toList)++(PL.map PE.d++SL.map XE.d)->u∈dstsOf (Seg.filter λ y => !Nat.testBit ((bU ops.toList []).getD i 0) y.1)++sM c.E Seg:=λ u hu=>by
      rcases b3y.1 hu with hu|hu
      .obtain⟨j,hj,Hl⟩:=List.mem_filterMap.1 hu;obtain⟨q1,o',q2,_,q3,_⟩:=hR j hj;refine List.mem_append.2 (.inl (gE.2 ⟨(j,o'),List.mem_filter.2 ⟨q3,?_⟩,by simpa [cE,q2] using Hl⟩));simp only[Bool.not_eq_true'];cases hb:Nat.testBit ((bU ops.toList []).getD i 0) j with
       | false=>rfl
       | true=>exact absurd hj ((hl j (by omega)).1 (FX j hb).1).2.1
      .rcases b3y.1 hu with hu|hu
       .obtain⟨p,hp,rfl⟩:=b3E.1 hu;obtain⟨o2,T,τ,r,hm,V6,Nb,_⟩:=(mI p hp).ex;exact b3y.2 (.inr (mb c.E (hX _ hm).2.2 (by simp[dt,nS,V6]) Nb))
       .obtain⟨q,hq,rfl⟩:=b3E.1 hu;exact b3y.2 (.inr (mb c.E (hX _ (nz q hq).mem).2.2 (nz q hq).lz (nz q hq).dst))
     have a7e:∀ w',(execOp a.eval o).run c.P w' = .ok (.value x) w':=λ w'=>by
      rw[hA.exec (nf Tv hDu)];exact cG w'
     have b0G:fY [d] o=true:=nf Tv λ u hu=>by
      simp only[b4e] at hu;subst hu;exact b3y.2 (.inr (mb c.E Pq (by simp[dt,hex]) hd))
     unfold Oper.wp;rw[a7e w];show wpAny c.P .any ops Q' fuel _ (a.put o.dst x) w;rw[hd];refine ih fuel Rc X R PL (⟨i,d,x,o⟩::SL) G t (a.put (some d) x) b w _ (by omega) (by simp;omega) (by rw[Array.size_setIfInBounds];exact cJ) hR hX Is Ps Pp ?_ Z7 (λ q hq=>(mI q hq).put (by rw[<-hd];exact hPd q hq)) (λ e he=>?_) (λ k hk=>?_) a1v hI ?_ hs _ hK
     .rw[b4o];refine (List.perm_middle.nodup_iff).2 (b4n.2 ⟨λ hm=>?_,Tt⟩);rcases b3y.1 hm with hm|hm
      .obtain⟨q,hq,e⟩:=b3E.1 hm;exact YY q hq e
      .obtain⟨q,hq,e⟩:=b3E.1 hm;exact YZ q hq e
     .rcases b3S.1 he with rfl|he
      .refine⟨hx,hd,?_, .inl ⟨hex,λ w'=>?_⟩⟩
       .simp only[ej,gJ,b4u];split
        .rfl
        .rename_i bK;first|rfl|(rw[b4s,b4X (by omega)];rfl)
       .have hA':nj [d] (a.put (some d) x) a:=⟨gJ a _ x,by rw[jI];exact hA.da,hA.da,λ u hu=>by rw[ej,if_neg (λ q=>hu (by simpa using q.1.symm))]⟩;show (execOp (a.put (some d) x).eval o).run c.P w'=_;rw[hA'.exec b0G];exact a7e w'
      .exact (nz e he).put hA.da (by rw[<-hd];exact hSd e he) (by rw[<-hd];exact hSu e he)
     .rw[yo,hl k hk,b4o];constructor
      .rintro (⟨q1,q2,q3⟩|rfl)
       .refine⟨q1,q2,q3.imp (λ q=>q) λ q=>?_⟩;rcases b3y.1 q with q|q
        .exact b3y.2 (.inl q)
        .exact b3y.2 (.inr (b5c _ q))
       .exact⟨te,M9, .inr (b3y.2 (.inr (b5U ..)))⟩
      .rintro⟨q1,q2,q3⟩;by_cases KU:k=i
       .exact .inr KU
       .refine .inl ⟨q1,q2,q3.imp (λ q=>q) λ q=>?_⟩;rcases b3y.1 q with q|q
        .exact b3y.2 (.inl q)
        .exact b3y.2 (.inr ((b3S.1 q).resolve_left KU))
     .refine⟨by rw[gJ];exact hA.size,by rw[jI];exact hA.da,hA.db,λ u hu=>?_⟩;simp only[List.map_cons,List.mem_append,List.mem_cons] at hu;rw[ej,if_neg (λ q=>hu (.inr (.inr (.inl (by simpa using q.1.symm)))))];exact hA.at' u λ hm=>hu ((List.mem_append.1 hm).imp (λ q=>q) λ q=>(List.mem_append.1 q).imp (λ q=>q) .inr)
    by_cases E2:wS o.op=true/\JB c.E o=true
    ·
     have Tv:=UD _ Pq;obtain⟨d,hd⟩:∃ d,o.dst=some d:=by
      obtain⟨T,bx⟩:=Qf E2.1;unfold pG at Tv;rw[bx,E2.2] at Tv;cases hd:o.dst with
      | some d=>exact⟨d,rfl⟩
      | none=>rw[hd] at Tv;simp at Tv
     obtain⟨w',x,cG,zU,hxv,BY⟩:=a1l hE hI (a2:=a) E2 Tv hd;unfold Oper.wp;rw[cG];show wpAny c.P .any ops Q' fuel _ (a.put o.dst x) w';rw[hd];refine ih fuel Rc X R PL (⟨i,d,x,o⟩::SL) G t (a.put (some d) x) b w' _ (by omega) (by simp;omega) (by rw[Array.size_setIfInBounds];exact cJ) hR hX Is Ps Pp ?_ Z7 (λ q hq=>?_) (λ e he=>?_) (λ k hk=>?_) a1v zU ?_ hs _ hK
     .rw[b4o];refine (List.perm_middle.nodup_iff).2 (b4n.2 ⟨λ hm=>?_,Tt⟩);rcases b3y.1 hm with hm|hm
      .obtain⟨q,hq,e⟩:=b3E.1 hm;exact YY q hq e
      .obtain⟨q,hq,e⟩:=b3E.1 hm;exact YZ q hq e
     .have h3:=(mI q hq).put (d:=some d) (x:=x) (by rw[<-hd];exact hPd q hq);have bK:=h3.fr.2.2.1;refine⟨h3.ex,h3.val,h3.ptr,h3.lt,?_,h3.fr.grow BY.size⟩;obtain⟨l,ty,q1,q2⟩:=h3.new;exact⟨l,ty,by rw[BY.block q.b bK (λ h=>h)];exact q1,q2⟩
     .rcases b3S.1 he with rfl|he
      .refine⟨hx,hd,?_, .inr ⟨E2,hxv⟩⟩;simp only[ej,gJ,b4u];split
       .rfl
       .rename_i bK;first|rfl|(rw[b4s,b4X (by omega)];rfl)
      .exact (nz e he).put hA.da (by rw[<-hd];exact hSd e he) (by rw[<-hd];exact hSu e he)
     .rw[yo,hl k hk,b4o];constructor
      .rintro (⟨q1,q2,q3⟩|rfl)
       .refine⟨q1,q2,q3.imp (λ q=>q) λ q=>?_⟩;rcases b3y.1 q with q|q
        .exact b3y.2 (.inl q)
        .exact b3y.2 (.inr (b5c _ q))
       .exact⟨te,M9, .inr (b3y.2 (.inr (b5U ..)))⟩
      .rintro⟨q1,q2,q3⟩;by_cases KU:k=i
       .exact .inr KU
       .refine .inl ⟨q1,q2,q3.imp (λ q=>q) λ q=>?_⟩;rcases b3y.1 q with q|q
        .exact b3y.2 (.inl q)
        .exact b3y.2 (.inr ((b3S.1 q).resolve_left KU))
     .refine⟨by rw[gJ];exact hA.size,by rw[jI];exact hA.da,hA.db,λ u hu=>?_⟩;simp only[List.map_cons,List.mem_append,List.mem_cons] at hu;rw[ej,if_neg (λ q=>hu (.inr (.inr (.inl (by simpa using q.1.symm)))))];exact hA.at' u λ hm=>hu ((List.mem_append.1 hm).imp (λ q=>q) λ q=>(List.mem_append.1 q).imp (λ q=>q) .inr)
    ·
     have b2l:dt c.E o=false:=by
      simp only[dt,Bool.or_eq_false_iff];exact⟨by simpa using hal,by simpa using hex,by
       cases q1:wS o.op
       .rfl
       .cases q2:JB c.E o
        .rfl
        .exact absurd ⟨q1,q2⟩ E2⟩
     have hlz:∀ z∈X,Nat.testBit ((bU ops.toList []).getD i 0) z.1=true->dt c.E z.2=true/\z.1∈PL.map PE.i++SL.map XE.i:=λ z hz hb=>by
      have h3:=(FX z.1 hb).1;have h4:=(hX z hz).1;rcases ((hl z.1 (by omega)).1 h3).2.2 with h5|h5
      .exact absurd rfl (h5 z hz)
      .refine⟨?_,h5⟩;have e0:=(hX z hz).2.1;rcases b3y.1 h5 with h7|h7
       .obtain⟨p,hp,e⟩:=b3E.1 h7;obtain⟨o2,T,τ,r,hm,V6,Nb,_⟩:=(mI p hp).ex;have e1:=(hX _ hm).2.1;simp only at e1;rw[e,e0] at e1;simp only[b3t] at e1;rw[e1];simp[dt,nS,V6]
       .obtain⟨p,hp,e⟩:=b3E.1 h7;have e1:=(hX _ (nz p hp).mem).2.1;simp only at e1;rw[e,e0] at e1;simp only[b3t] at e1;rw[e1];exact (nz p hp).lz
     obtain⟨mm,hu0,hK⟩:=a3s (y:=(i,o)) hK hx Ps (by
      simp only[Vl,b2l,b3z,b4F,b4r,b5o,b3I];intro z hz;cases hb:Nat.testBit ((bU ops.toList []).getD i 0) z.1 with
      | false=>exact .inr rfl
      | true=>exact .inl (hlz z hz hb).1) (λ x0 xs e hz=>by
      cases hb:Nat.testBit ((bU ops.toList []).getD i 0) x0.1 with
      | false=>rfl
      | true =>
       rcases b3y.1 (hlz x0 (by rw[e];simp) hb).2 with h5|h5
       .obtain⟨p,hp,e'⟩:=b3E.1 h5;exact absurd ⟨x0,xs,p,e,hp,e'⟩ UC
       .obtain⟨p,hp,e'⟩:=b3E.1 h5;exact absurd ⟨x0,xs,p,e,hp,e'⟩ Pt)
     have hxm:∀ z,z∈X->z.1≠i->z∈X.filter λ z => !Nat.beq z.1 i:=λ z hz eQ=>List.mem_filter.2 ⟨hz,by rw[a4I.2 eQ];rfl⟩;have a4x:∀ z,z∈(X.filter λ z => !Nat.beq z.1 i)->z∈X/\z.1≠i:=λ z hz=>⟨(List.mem_filter.1 hz).1,a4I.1 (by simpa using (List.mem_filter.1 hz).2)⟩;have uQ:(X.filter λ z => !Nat.beq z.1 i).length+1=X.length:=YO hx Ps;generalize kc:(X.filter λ z => !Nat.beq z.1 i)=xs at *
     have hxn:(xs.map (·.1)).Nodup:=by rw[<-kc];exact Ps.sublist (b6g _ b7v)
     .simp only at hu0 hK;have eL:∀ j∈R,∃ o',ops.toList[j]?=some o'/\(j,o')∈Rc.filter λ r => !Nat.testBit ((bU ops.toList []).getD i 0) r.1:=λ j hj=>by
       obtain⟨q1,o',q2,q3,_,_⟩:=hR j hj;refine⟨o',q2,b4T.2 ⟨q3,?_⟩⟩;simp only[b3I];cases hb:Nat.testBit ((bU ops.toList []).getD i 0) j with
       | false=>rfl
       | true=>exact absurd hj ((hl j (by omega)).1 (FX j hb).1).2.1
      have hu:fY (R.filterMap (cE ops.toList)++(PL.map PE.d++SL.map XE.d)) o=true:=nf hu0 λ t ht=>by
       rcases b3y.1 ht with ht|ht
       .obtain⟨j,hj,Hl⟩:=List.mem_filterMap.1 ht;obtain⟨o',q2,q3⟩:=eL j hj;exact List.mem_append.2 (.inl (gE.2 ⟨(j,o'),q3,by simpa [cE,q2] using Hl⟩))
       .rcases b3y.1 ht with ht|ht
        .obtain⟨p,hp,rfl⟩:=b3E.1 ht;obtain⟨o2,T,τ,r,hm,bx,Nb,_⟩:=(mI p hp).ex;exact b3y.2 (.inr (mb c.E (hxm _ hm (YY p hp)) (by simp[dt,nS,bx]) Nb))
        .obtain⟨p,hp,rfl⟩:=b3E.1 ht;exact b3y.2 (.inr (mb c.E (hxm _ (nz p hp).mem (YZ p hp)) ((nz p hp).lz) (nz p hp).dst))
      have hIz:=hI.fz hZ;refine a6b (hA.exec hu) ?_ ?_ (Qt (c:=c.fz w G.S λ b=>∃ p∈PL,p.b=b) hE hIz hK (Q:=λ _ _ _=>False))
      .rintro x w' ⟨G',s',b1S,hsr⟩;obtain⟨zU,gd⟩:=hI.b2P hZ b1S;obtain⟨k1,k2⟩:=kJ hsr;refine ih fuel _ xs R PL SL G' s' (a.put o.dst x) (b.put o.dst x) w' _ (by omega) (by omega) (by rw[b4Z];exact cJ) (λ j hj=>?_) (λ y hy=>hX y (a4x y hy).1) Is hxn (λ j hj y hy=>Pp j hj y (a4x y hy).1) Tt Z7 (λ p hp=>?_) (λ e he=>?_) (λ k hk=>?_) a1v zU (hA.put λ q hq X1=>absurd hq X1) (λ j hj o' cO=>?_) _ k2
       .obtain⟨q1,o',q2,q3,q4,q7⟩:=hR j hj;obtain⟨o2,q5,q6⟩:=eL j hj;have e:o'=o2:=by rw[q2] at q5;simpa using q5
        subst e;exact⟨q1,o',q2,q6,q4,q7⟩
       .have h3:=(mI p hp).put (d:=o.dst) (x:=x) (hPd p hp);obtain⟨e1,e2⟩:=gd p.b ⟨p,hp,rfl⟩;refine⟨?_,h3.val,h3.ptr,h3.lt,?_,e2⟩
        .obtain⟨o2,T,τ,r,hm,m2,m3,m4,m5⟩:=h3.ex;exact⟨o2,T,τ,r,hxm _ hm (YY p hp),m2,m3,m4,m5⟩
        .obtain⟨l,ty,q1,q2⟩:=h3.new;exact⟨l,ty,by rw[e1];exact q1,q2⟩
       .have h3:=(nz e he).put (x:=x) hA.da (hSd e he) (hSu e he);exact⟨hxm _ h3.mem (YZ e he),h3.dst,h3.val,h3.run⟩
       .rw[yo,hl k hk];constructor
        .rintro (⟨q1,q2,q3⟩|rfl)
         .exact⟨q1,q2,q3.imp (λ q y hy=>q y (a4x y hy).1) λ q=>q⟩
         .exact⟨te,M9, .inl λ y hy e=>(a4x y hy).2 e⟩
        .rintro⟨q1,q2,q3⟩;by_cases KU:k=i
         .exact .inr KU
         .refine .inl ⟨q1,q2,q3.imp (λ q y hy=>?_) λ q=>q⟩;by_cases e:y.1=i
          .rw[e];exact Ne.symm KU
          .exact q y (hxm y hy e)
       .obtain⟨o2,q5,q6⟩:=eL j hj;rw[q5] at cO;simp only[b3t] at cO;subst cO;exact k1 (j,o2) q6
      .rintro b' w' ⟨G',s',zU,_⟩;exact zU.defers
end
theorem AJ{ck:List Nat}{p:Nat}(h:Wi ck p=true){j k:Nat}(hj:p<=j)(hl:j<ck.length)(hk:k<p):Nat.testBit (ck.getD j 0) k=true:=by
 unfold Wi at h;rw[List.all_eq_true] at h;have hm:ck[j]∈ck.drop p:=by
  rw[List.mem_iff_getElem?];refine⟨j - p,?_⟩;rw[b5h,show p+(j - p)=j by omega,b3Z hl]
 have h1:=Nat.eq_of_beq_eq_true (h _ hm);rw[List.getD_eq_getElem?_getD,List.getElem?_eq_getElem hl,Option.getD_some];have h2:Nat.testBit (ck[j] % 2 ^ p) k=true:=by rw[h1,Nat.testBit_two_pow_sub_one];simpa using hk
 rw[Nat.testBit_mod_two_pow] at h2;simp only[b3A] at h2;exact h2.2
theorem Zv{l:List Oper}{es:List QQ}{lo m bits:Nat}{s0:ai}{π π':List Nat}(p9:∀ j k t,lo<=j->j<m->lo<=k->k<m->cE l j=some t->cE l k=some t->j=k)
  (hπ:∀ k∈π,lo<=k/\k<m) (Wh:∀ k∈π',lo<=k/\k<m) (hn:π.Nodup) (BZ:π'.Nodup) (ha:∀ k,lo<=k->k<m->Nat.testBit bits k=true->k∈π/\k∈π') (t:Nat) (hh:hidden l m bits t=false) :
  (dR l es s0 π).sl t=(dR l es s0 π').sl t/\(dR l es s0 π).ah t=(dR l es s0 π').ah t:=by
 by_cases hex:∃ k,lo<=k/\k<m/\cE l k=some t
 .obtain⟨k,cr,hk,hd⟩:=hex;have hb:Nat.testBit bits k=true:=by
   have:=hh;unfold hidden at this;rw[List.any_eq_false] at this;have:=this k (by simpa using hk);simp only[hd] at this;simp only[Nat.beq_refl] at this;simpa using this
  obtain⟨h1,h2⟩:=ha k cr hk hb;obtain⟨e1,e2⟩:=zr l es t k hd π s0 h1 hn (λ j hj eQ Hl=>eQ (p9 j k t (hπ j hj).1 (hπ j hj).2 cr hk Hl hd));obtain⟨e3,e4⟩:=zr l es t k hd π' s0 h2 BZ (λ j hj eQ Hl=>eQ (p9 j k t (Wh j hj).1 (Wh j hj).2 cr hk Hl hd));exact⟨e1.trans e3.symm,e2.trans e4.symm⟩
 .have gm:∀ k,lo<=k->k<m->cE l k≠some t:=λ k hl hk hd=>hex ⟨k,hl,hk,hd⟩;obtain⟨e1,e2⟩:=gF l es t π s0 (λ k hk=>gm k (hπ k hk).1 (hπ k hk).2);obtain⟨e3,e4⟩:=gF l es t π' s0 (λ k hk=>gm k (Wh k hk).1 (Wh k hk).2);exact⟨e1.trans e3.symm,e2.trans e4.symm⟩
def fv(lo i:Nat):List Nat:=List.range' lo (i - lo)
theorem Ej{lo i k:Nat}:k∈fv lo i↔lo<=k/\k<i:=by
 unfold fv;rw[List.mem_range'_1];omega
theorem NS(lo i:Nat):(fv lo i).Nodup:=List.nodup_range'
theorem a5R{lo i:Nat}(h:lo<=i):fv lo (i+1)=fv lo i++[i]:=by
 unfold fv;rw[show i+1 - lo=(i - lo)+1 by omega,List.range'_1_concat,show lo+(i - lo)=i by omega]
theorem XB{E:Env}{l:List Oper}{m lo:Nat}{ck:List Nat}{s0:ai}:∀ (r:List Oper) (i:Nat) (es BN:List QQ) (s s':ai),Trace E l m ck i r es s s'->(∀ j o,r[j]?=some o->l[i+j]?=some o)->BN.length=i->lo<=i ->
  s=dR l (BN++es) s0 (fv lo i) ->
  (∀ j o,r[j]?=some o->UR E l m (ck.getD (i+j) 0) (dR l (BN++es) s0 (fv lo (i+j))) o ((BN++es).getD (i+j) ⟨false, .any,none⟩))/\s'=dR l (BN++es) s0 (fv lo (i+r.length))
 | [],i,[],BN,s,s',h,_,_,_,hs=>by
  have h:s=s':=h;subst h;exact⟨by simp,by simpa using hs⟩
 | o::r,i,e::es,BN,s,s',h,hl,h0,hlo,hs=>by
  obtain⟨h1,h2⟩:=h;have ho:l[i]?=some o:=hl 0 o rfl;have SQ:(BN++e::es).getD i ⟨false, .any,none⟩=e:=by simp[b3N,<-h0]
  have cw:s.jw o.dst e.v e.ob=dR l ((BN++[e])++es) s0 (fv lo (i+1)):=by
   rw[b4x,a5R hlo,xg,b5Z,SQ,<-hs];simp[cE,ho]
  have ih:=XB r (i+1) es (BN++[e]) _ s' h2 (λ j p hj=>by
   have:=hl (j+1) p (by simpa using hj);rwa [show i+(j+1)=i+1+j by omega] at this) (by simp[h0]) (by omega) cw
  rw[b4x,b5Z] at ih;refine⟨λ j p hj=>?_,by rw[ih.2];congr 2;simp;omega⟩;cases j with
  | zero =>
   simp at hj;subst hj;rw[b5s,SQ,<-hs];exact h1
  | succ j =>
   have:=ih.1 j p (by simpa using hj);rwa [show i+1+j=i+(j+1) by omega] at this
 | [],_,_::_,_,_,_,h,_,_,_,_=>h.elim
 | _::_,_,[],_,_,_,h,_,_,_,_=>h.elim
theorem W5:∀ (l π:List Nat),l.Nodup->(∀ k∈l,k∈π)->l.length<=π.length
 | [],_,_,_=>by simp
 | x::l,π,hn,h=>by
  have BZ:=b4n.1 hn;have hx:=h x (by simp);have h1:=W5 l (π.erase x) BZ.2 (λ k hk=>by
   have eQ:k≠x:=λ e=>by subst e;exact BZ.1 hk
   exact (b5L eQ).2 (h k (by simp[hk])))
  have h3:=b5D hx;have:0<π.length:=b5I hx;simp only[b3G];omega
theorem W4{lo m:Nat}(π:List Nat)(hn:π.Nodup)(h:∀ k∈π,lo<=k/\k<m):π.length<=m - lo:=by
 have h1:(List.range lo++π).Nodup:=by
  rw[b4a];refine⟨b6t,hn,λ x hx y hy e=>?_⟩;simp at hx;have:=(h y hy).1;omega
 have h2:=xf (max lo m) (List.range lo++π) h1 (λ k hk=>by
  rcases b3y.1 hk with hk|hk
  .simp at hk;omega
  .have:=(h k hk).2;omega)
 rw[b3J,List.length_range] at h2;cases π with
 | nil=>simp
 | cons k r =>
  have:=h k (by simp);omega
section
variable {c:Ctx} {G:Gh} {s:ai} {a:Act} {w w':World}
theorem a7C(hE:bE c.P c.E){ops:Array Oper}{j:Nat}(dM:backward ops.toList=true)(hj:j<ops.size)(hcut:∀ i,j<i->i<ops.size->Nat.testBit ((bU ops.toList []).getD i 0) j=true)
  {P:ai->Prop} {Q':Exit->Act->World->Prop} {fuel:Nat} {kn:List (Nat×Bool)} {listed:Array Bool} (cJ:listed.size=ops.size) (hl:∀ k,k<ops.size->(listed.getD k false=true↔k<j))
  (hI:Inv c G s a w) (hr:ft c.E ops [ops[j]] kn P s)
  (ym:∀ G s a w (listed:Array Bool),listed.size=ops.size->(∀ k,k<ops.size->(listed.getD k false=true↔k<j+1))->Inv c G s a w->P s->wpAny c.P .any ops Q' fuel listed a w):wpAny c.P .any ops Q' (fuel+1) listed a w:=by
 have ho:ops[j]?=some ops[j]:=b4J hj;constructor
 .intro tg;have:j∈Region.ready .any ops listed:=(mem_ready cJ).2 ⟨_,ho,by
   cases hb:listed.getD j false with
   | false=>rfl
   | true=>have:=(hl j hj).1 hb;omega,λ e he hb=>by
   have:=cf dM j ops[j] (by simp) e he hb;exact (hl e.on (by omega)).2 this⟩
  rw[tg] at this;cases this
 .intro i hi;obtain⟨o,cF,h1,h2⟩:=(mem_ready cJ).1 hi;have Lz:=(b4H.1 cF).1;have hge:j<=i:=by
   rcases b4y i j with h|h
   .have:=(hl i Lz).2 h;rw[h1] at this;cases this
   .exact h
  have Dj:i=j:=by
   rcases b4y j i with h|h
   .have eL:=HG (l:=ops.toList) (D:=λ k=>k<j) (λ k hk o' cO e he hb=>by
     have:=cf dM k o' cO e he hb;omega) i o (by simpa using cF) (λ e he hb=>by
      have bK:=cf dM i o (by simpa using cF) e he hb;exact (hl e.on (by omega)).1 (h2 e he hb)) j (hcut i h Lz)
    omega
   .omega
  subst Dj;have yo:∀ k,k<ops.size->((listed.setIfInBounds i true).getD k false=true↔k<i+1):=λ k hk=>by
   rw[tH (by omega),hl k hk];omega
  unfold wpOp;simp only[ho];have kV:=Ey hE hI hr;split at kV
  .rename_i hw;rw[b4d hw];exact .inl (b5d (λ a' w' ⟨G',s',oM,h1,h2⟩=>ym G' s' a' w' _ (by rw[b4Z];exact cJ) yo h1 h2) (kV Q'))
  .rename_i hw;rw[b3H hw];obtain⟨G',s',oM,h1,h2⟩:=kV;exact ym G' s' _ w _ (by rw[b4Z];exact cJ) yo h1 h2
theorem a6m(hE:bE c.P c.E){ops:Array Oper}{lo m:Nat}{es:List QQ}{s0:ai}(dM:backward ops.toList=true)(hm:m<=ops.size)
  (p8:∀ j o,m<=j->ops.toList[j]?=some o->∀ k,k<m->Nat.testBit ((bU ops.toList []).getD j 0) k=true)
  (b2j:∀ j o,lo<=j->ops.toList[j]?=some o->∀ k,k<lo->Nat.testBit ((bU ops.toList []).getD j 0) k=true)
  (p9:∀ j k t,lo<=j->j<m->k<m->cE ops.toList j=some t->cE ops.toList k=some t->j=k)
  (a6U:∀ i o,lo<=i->i<m->ops.toList[i]?=some o->UR c.E ops.toList m ((bU ops.toList []).getD i 0) (dR ops.toList es s0 (fv lo i)) o (es.getD i ⟨false, .any,none⟩))
  (M4:∀ i o,lo<=i->i<m->ops.toList[i]?=some o->uf o.dst=true) (rZ:∀ i o t,lo<=i->i<m->ops.toList[i]?=some o->xH o.op=true->o.dst=some t->s0.ah t=none)
  {Q':Exit->Act->World->Prop}
  (Lx:∀ (fuel:Nat) (G:Gh) (a:Act) (w:World) (listed:Array Bool),ops.size=m+fuel->listed.size=ops.size->(∀ k,k<ops.size->(listed.getD k false=true↔k<m))->Inv c G (dR ops.toList es s0 (fv lo m)) a w->wpAny c.P .any ops Q' fuel listed a w) :
  ∀ (fuel:Nat) (π:List Nat) (G:Gh) (a:Act) (w:World) (listed:Array Bool),ops.size=lo+π.length+fuel->π.Nodup->(∀ k∈π,lo<=k/\k<m)->listed.size=ops.size->(∀ k,k<ops.size->(listed.getD k false=true↔k<lo\/k∈π)) ->
   (∀ k∈π,∀ o,ops.toList[k]?=some o->∀ e∈o.after.toList,Region.binds .any e=true->e.on<lo\/e.on∈π)->lo<=m->Inv c G (dR ops.toList es s0 π) a w->wpAny c.P .any ops Q' fuel listed a w:=by
 have a6T:∀ j k t,lo<=j->j<m->lo<=k->k<m->cE ops.toList j=some t->cE ops.toList k=some t->j=k:=λ j k t h1 h2 _ h4=>p9 j k t h1 h2 h4;have fin:∀ (fuel:Nat) (π:List Nat) (G:Gh) (a:Act) (w:World) (listed:Array Bool),ops.size=lo+π.length+fuel->π.Nodup->(∀ k∈π,lo<=k/\k<m)->listed.size=ops.size->(∀ k,k<ops.size->(listed.getD k false=true↔k<lo\/k∈π)) ->
   lo<=m->(∀ k,lo<=k->k<m->k∈π)->Inv c G (dR ops.toList es s0 π) a w->wpAny c.P .any ops Q' fuel listed a w:=by
  intro fuel π G a w listed hf hn bK cJ hl hlm kF hI;have hlen:=W4 π hn bK;have hge:m - lo<=π.length:=by
   have h2:(fv lo m).length<=π.length:=W5 (fv lo m) π (NS lo m) λ k hk=>kF k (Ej.1 hk).1 (Ej.1 hk).2;simpa [fv] using h2
  have heq:∀ t,(dR ops.toList es s0 π).sl t=(dR ops.toList es s0 (fv lo m)).sl t/\(dR ops.toList es s0 π).ah t=(dR ops.toList es s0 (fv lo m)).ah t:=λ t =>
   Zv (bits:=2 ^ m - 1) a6T bK (λ k hk=>Ej.1 hk) hn (NS lo m) (λ k cr hk _=>⟨kF k cr hk,Ej.2 ⟨cr,hk⟩⟩) t (by
    unfold hidden;rw[List.any_eq_false];intro k hk;simp only[List.mem_range] at hk;split
    .split
     .simp[b6a,hk]
     .simp
    .simp)
  refine Lx fuel G a w listed (by omega) cJ (λ k hk=>?_) ?_
  .rw[hl k hk];constructor
   .rintro (h|h)
    .omega
    .exact (bK k h).2
   .intro h;rcases b4y k lo with h'|h'
    .exact .inl h'
    .exact .inr (kF k h' h)
  .unfold Inv at hI ⊢;rw[PZ] at hI ⊢;rw[<-funext λ t=>(heq t).1,<-funext λ t=>(heq t).2];exact hI
 intro fuel;induction fuel with
 | zero =>
  intro π G a w listed hf hn bK cJ hl yl hlm hI;refine fin 0 π G a w listed hf hn bK cJ hl hlm (λ k cr hk=>?_) hI;cases hb:decide (k∈π) with
  | true=>exact b4l hb
  | false =>
   have:=W4 (lo:=lo) (m:=m) (k::π) (b4n.2 ⟨b5t hb,hn⟩) (λ j hj=>by
    rcases b3S.1 hj with rfl|hj
    .exact⟨cr,hk⟩
    .exact bK j hj)
   simp at this;omega
 | succ fuel ih =>
  intro π G a w listed hf hn bK cJ hl yl hlm hI;by_cases kF:∀ k,lo<=k->k<m->k∈π
  .exact fin (fuel+1) π G a w listed hf hn bK cJ hl hlm kF hI
  ·
   have hex:∃ k,lo<=k/\k<m/\k∉π/\∀ j,lo<=j->j<k->j∈π:=by
    have:∀ n,(∃ k,k<n/\lo<=k/\k<m/\k∉π)->∃ k,lo<=k/\k<m/\k∉π/\∀ j,lo<=j->j<k->j∈π:=by
     intro n;induction n with
     | zero=>rintro⟨k,hk,_⟩;omega
     | succ n ihn =>
      rintro⟨k,hk,PB,hkm,BY⟩;by_cases hs:∃ k,k<n/\lo<=k/\k<m/\k∉π
      .exact ihn hs
      .refine⟨k,PB,hkm,BY,λ j XW hj=>?_⟩;cases hb:decide (j∈π) with
       | true=>exact b4l hb
       | false=>exact absurd ⟨j,by omega,XW,by omega,b5t hb⟩ hs
    refine this m ?_;obtain⟨k,hk⟩:=b7l.1 kF;have h2:=b6T.1 hk;have h3:=b6T.1 h2.2;exact⟨k,h3.1,h2.1,h3.1,h3.2⟩
   obtain⟨k0,b3q,a4s,tf,a1A⟩:=hex;have a1x:ops[k0]?=some (ops[k0]'(by omega)):=b4J (by omega);constructor
   .intro tg;have:k0∈Region.ready .any ops listed:=(mem_ready cJ).2 ⟨_,a1x,by
     cases hb:listed.getD k0 false with
     | false=>rfl
     | true =>
      rcases (hl k0 (by omega)).1 hb with h|h
      .omega
      .exact absurd h tf,λ e he hb=>by
     have a1z:=cf dM k0 ops[k0] (by simp) e he hb;refine (hl e.on (by omega)).2 ?_;rcases b4y e.on lo with h|h
     .exact .inl h
     .exact .inr (a1A e.on h a1z)⟩
    rw[tg] at this;cases this
   .intro i hi;obtain⟨o,cF,h1,h2⟩:=(mem_ready cJ).1 hi;have Lz:=(Array.getElem?_eq_some_iff.1 cF).1;have eE:ops.toList[i]?=some o:=by simpa using cF
    have E2:¬ (i<lo\/i∈π):=λ hh=>by
     have:=(hl i Lz).2 hh;rw[h1] at this;cases this
    have wR:i∉π:=λ h=>E2 (.inr h);have hil:lo<=i:=by
     rcases b4y i lo with h|h
     .exact absurd (.inl h) E2
     .exact h
    have VX:∀ e∈o.after.toList,Region.binds .any e=true->e.on<lo\/e.on∈π:=λ e he hb=>by
     have a1z:=cf dM i o eE e he hb;exact (hl e.on (by omega)).1 (h2 e he hb)
    have FX:=HG (l:=ops.toList) (D:=λ k=>k<lo\/k∈π) (λ k hk o' cO e he hb=>by
     rcases hk with hk|hk
     .have:=cf dM k o' cO e he hb;exact .inl (by omega)
     .exact yl k hk o' cO e he hb) i o eE VX
    have te:i<m:=by
     rcases b4y i m with h|h
     .exact h
     .rcases FX k0 (p8 i o h eE k0 a4s) with h|h
      .omega
      .exact absurd h tf
    have Pu:=HG (l:=ops.toList) (D:=λ k=>k<i) (λ k hk o' cO e he hb=>by
     have:=cf dM k o' cO e he hb;omega) i o eE (λ e he hb=>cf dM i o eE e he hb)
    have Nf:=λ t hh=>Zv (l:=ops.toList) (es:=es) (s0:=s0) (lo:=lo) (m:=m) (bits:=(bU ops.toList []).getD i 0) (π:=π) (π':=fv lo i) a6T bK (λ k hk=>by have:=Ej.1 hk;omega) hn (NS lo i)
     (λ k cr hk hb=>⟨by
      rcases FX k hb with h|h
      .omega
      .exact h,Ej.2 ⟨cr,Pu k hb⟩⟩) t hh
    obtain⟨hg,cG,a3h⟩:=a6U i o hil te eE;have cU:XM ops.toList m ((bU ops.toList []).getD i 0) (dR ops.toList es s0 (fv lo i))=XM ops.toList m ((bU ops.toList []).getD i 0) (dR ops.toList es s0 π):=by
     funext x;cases x with
     | tmp t =>
      simp only[XM];split
      .rfl
      .rename_i hh;exact ((Nf t hh).1).symm
     | _=>rfl
    have cr:Ua ops.toList m ((bU ops.toList []).getD i 0) (dR ops.toList es s0 (fv lo i))=Ua ops.toList m ((bU ops.toList []).getD i 0) (dR ops.toList es s0 π):=by
     funext t;simp only[Ua];split
     .rfl
     .rename_i hh;exact ((Nf t hh).2).symm
    have hg':gj ops.toList ((bU ops.toList []).getD i 0) (dR ops.toList es s0 π) o (es.getD i ⟨false, .any,none⟩).Lh:=by
     unfold gj at hg ⊢;split
     .rename_i BZ;simpa [BZ] using hg
     .rename_i g want BZ;simp only[BZ] at hg;obtain⟨t,b,q1,q2,q3,q4⟩:=hg;refine⟨t,b,q1,q2,?_,q4⟩;have hgm:g<m:=Nat.lt_trans (Pu g q2) te;have hh:hidden ops.toList m ((bU ops.toList []).getD i 0) t=false:=by
       unfold hidden;rw[List.any_eq_false];intro k hk;simp only[List.mem_range] at hk;split
       .rename_i d hd;split
        .rename_i It;have It:=b3x It;subst It;rcases b4y k lo with PB|PB
         .rw[b2j i o hil eE k PB];simp
         .have:=p9 k g d PB hk hgm hd q1;subst this;rw[q2];simp
        .simp
       .simp
      exact ((Nf t hh).1).trans q3
    have hw:=Lw (ops:=ops) rfl hI hg';have ym:∀ (G':Gh) (a':Act) (w':World),Inv c G' (dR ops.toList es s0 (π++[i])) a' w'->wpAny c.P .any ops Q' fuel (listed.setIfInBounds i true) a' w':=by
     intro G' a' w' zU;refine ih (π++[i]) G' a' w' _ (by simp;omega) ?_ ?_ (by rw[b4Z];exact cJ) ?_ ?_ hlm zU
     .rw[b4a];exact⟨hn,by simp,λ x hx y hy=>by simp at hy;subst hy;exact λ e=>wR (e ▸ hx)⟩
     .intro k hk;rcases b3y.1 hk with hk|hk
      .exact bK k hk
      .simp at hk;omega
     .intro k hk;rw[tH (by omega),hl k hk];simp[or_assoc]
     .intro k hk o' cO e he hb;rcases b3y.1 hk with hk|hk
      .exact (yl k hk o' cO e he hb).imp id (b5E _)
      .simp at hk;subst hk;rw[eE] at cO;simp only[b3t] at cO;subst cO;exact (VX e he hb).imp id (b5E _)
    have Rk:cE ops.toList i=o.dst:=by simp[cE,eE]
    unfold wpOp;simp only[cF];cases PG:(es.getD i ⟨false, .any,none⟩).Lh with
    | true =>
     rw[PG] at hw;rw[b4d hw];obtain⟨vc,hq,er⟩:=cG PG;rw[cU,cr] at hq;refine .inl (b5d ?_ (NO hE hI (lk':=Ua ops.toList m ((bU ops.toList []).getD i 0) (dR ops.toList es s0 π)) ?_ ?_ hq er))
     .intro a' w' hd;obtain⟨G',nP⟩:=SW hI (M4 i o hil te eE) (λ t ob It TA=>by
       rw[TA] at hq;have VW:=Qp hq;have h0:=rZ i o t hil te eE VW It;have Dk:=(gF ops.toList es t π s0 (λ k hk hkd=>by
        have:=p9 k i t (bK k hk).1 (bK k hk).2 te hkd (by rw[Rk];exact It);subst this;exact wR hk)).2
       rw[Dk,h0]) hd
      refine ym G' a' w' ?_;rw[xg,Rk];exact nP
     .intro id ob aZ;unfold Ua at aZ;split at aZ
      .cases aZ
      .exact aZ
     .intro x;cases x with
      | tmp t =>
       simp only[XM];split
       .trivial
       .exact br hI (.tmp t)
      | const v=>exact br hI (.const v)
      | global g=>exact br hI (.global g)
      | func f=>exact br hI (.func f)
    | false =>
     rw[PG] at hw;rw[hw];obtain⟨hv,TA⟩:=a3h PG;refine ym G _ w ?_;rw[xg,Rk,hv,TA,RQ];exact Inv.put (v := .ei) hI rfl
theorem JH{α:Type}{l:List α}{lo hi j:Nat}{o:α}(h:((l.take hi).drop lo)[j]?=some o):l[lo+j]?=some o/\lo+j<hi:=by
 rw[b5h,b4W] at h;split at h
 .rename_i bK;exact⟨h,bK⟩
 .cases h
theorem jm{α:Type}{l:List α}{lo hi i:Nat}{o:α}(h:l[i]?=some o)(h1:lo<=i)(h2:i<hi):((l.take hi).drop lo)[i - lo]?=some o:=by
 rw[b5h,b4W,show lo+(i - lo)=i by omega,b4d h2,h]
theorem ud:∀ {l:List (Option Nat)},xJ l=true->∀ (i j t:Nat),l[i]?=some (some t)->l[j]?=some (some t)->i=j
 | [],_,i,j,t,h,_=>by simp at h
 | none::r,h,i,j,t,hi,hj=>by
  cases i with
  | zero=>simp at hi
  | succ i =>
   cases j with
   | zero=>simp at hj
   | succ j=>rw[ud (l:=r) h i j t (by simpa using hi) (by simpa using hj)]
 | some d::r,h,i,j,t,hi,hj=>by
  simp only[xJ] at h;split at h
  .cases h
  .rename_i a1u;rw[b6S] at a1u;have no:∀ k:Nat,r[k]?=some (some d)->False:=λ k hk=>by
    have:=a1u _ (b4S hk);simp at this
   cases i with
   | zero =>
    simp at hi;subst hi;cases j with
    | zero=>rfl
    | succ j=>exact (no j (by simpa using hj)).elim
   | succ i =>
    cases j with
    | zero =>
     simp at hj;subst hj;exact (no i (by simpa using hi)).elim
    | succ j=>rw[ud (l:=r) h i j t (by simpa using hi) (by simpa using hj)]
theorem Lv{l:List Oper}{lo hi:Nat}(h:Il l lo hi=true):∀ j k t,lo<=j->j<hi->k<hi->cE l j=some t->cE l k=some t->j=k:=by
 unfold Il at h;rw[Bool.and_eq_true,Bool.and_eq_true] at h;obtain⟨⟨_,h1⟩,h2⟩:=h;have hd:=ud h1;have get:∀ j t,cE l j=some t->∃ o,l[j]?=some o/\o.dst=some t:=by
  intro j t h;unfold cE at h;simp only[Option.bind_eq_some_iff] at h;exact h
 intro j k t hj hjh hkh PA hkt;obtain⟨o,ho,hot⟩:=get j t PA;obtain⟨o',cO,a9P⟩:=get k t hkt;have g1:=jm ho hj hjh;rcases b4y k lo with hk|hk
 .rw[b4r] at h2;have hm:o'∈l.take lo:=b4S (by rw[b4W,b4d hk];exact cO);have:=h2 o' hm;rw[a9P] at this;simp only[b3I] at this;rw[b6S] at this;have:=this o (b4S g1);rw[hot] at this;simp at this
 .have g2:=jm cO hk hkh;have:=hd (j - lo) (k - lo) t (by rw[b5k,g1];simp[hot]) (by rw[b5k,g2];simp[a9P]);omega
theorem a1r{l:List Oper}{lo hi:Nat}(h:Il l lo hi=true){i:Nat}{o:Oper}(h1:lo<=i)(h2:i<hi)(ho:l[i]?=some o):uf o.dst=true:=by
 unfold Il at h;rw[Bool.and_eq_true,Bool.and_eq_true] at h;exact List.all_eq_true.1 h.1.1 o (List.mem_of_getElem? (jm ho h1 h2))
theorem I3{i:Nat}{o:Oper}:∀ {l:List Oper} {lo:Nat},(i,o)∈lD lo l↔∃ j,i=lo+j/\l[j]?=some o
 | [],lo=>by simp[lD]
 | x::l,lo=>by
  simp only[lD,b3S,b3w,I3 (l:=l)];constructor
  .rintro (⟨rfl,rfl⟩|⟨j,rfl,h⟩)
   .exact⟨0,rfl,rfl⟩
   .exact⟨j+1,by omega,by simpa using h⟩
  .rintro⟨j,rfl,h⟩;cases j with
   | zero=>simp at h;exact .inl ⟨rfl,h.symm⟩
   | succ j=>exact .inr ⟨j,by omega,by simpa using h⟩
theorem LQ:∀ (l:List Oper) (lo:Nat),((lD lo l).map (·.1)).Nodup
 | [],lo=>b4I
 | x::l,lo=>by
  simp only[lD,b4o,b4n];refine⟨λ h=>?_,LQ l (lo+1)⟩;obtain⟨⟨i,o⟩,h1,h2⟩:=b3E.1 h;obtain⟨j,h3,_⟩:=I3.1 h1;simp only at h2;omega
theorem nj.mono{D D':List Nat}{a b:Act}(h:nj D a b)(hs:∀ t∈D,t∈D'):nj D' a b:=⟨h.size,h.da,h.db,λ t ht=>h.at' t λ q=>ht (hs t q)⟩
theorem S8:∀ (l:List Oper) (lo:Nat),(lD lo l).length=l.length
 | [],lo=>rfl
 | x::l,lo=>by simp[lD,S8 l]
theorem O1{α:Type}(p:α->Bool):∀ l:List α,(l.filter p).length+(l.filter λ x => !p x).length=l.length
 | []=>rfl
 | x::l=>by
  have:=O1 p l;cases h:p x<;>simp[b7b,h]<;>omega
theorem a2m(hE:bE c.P c.E){ops:Array Oper}(dM:backward ops.toList=true){Q:ai->Prop}{Q':Exit->Act->World->Prop}(hQ:∀ G s a w,Inv c G s a w->Q s->Q' .normal a w) :
  ∀ (a4k:List Nat) (lo:Nat) (kn:List (Nat×Bool)) (fuel:Nat) (G:Gh) (s:ai) (a:Act) (w:World) (listed:Array Bool),ops.size=lo+fuel->listed.size=ops.size->(∀ k,k<ops.size->(listed.getD k false=true↔k<lo))->Inv c G s a w ->
   xy c.E ops ops.toList (bU ops.toList []) a4k lo kn Q s->wpAny c.P .any ops Q' fuel listed a w:=by
 obtain⟨r,ha1,ha2,_⟩:=Ae ops.toList [];have VU:(bU ops.toList []).length=ops.size:=by rw[ha1];simpa using ha2
 intro a4k;induction a4k with
 | nil =>
  intro lo kn fuel G s a w listed hf cJ hl hI hr;simp only[xy] at hr;split at hr
  .rename_i hb;have hb:=Nat.eq_of_beq_eq_true hb;have hlo:lo=ops.size:=by simpa using hb
   have h0:fuel=0:=by omega
   subst h0;refine⟨?_,hQ _ _ _ _ hI hr⟩;apply b5W.2;intro i hi;obtain⟨o,ho,h1,_⟩:=(mem_ready cJ).1 hi;have bK:=(b4H.1 ho).1;have:=(hl i bK).2 (by omega);rw[h1] at this;cases this
  .exact hr.elim
 | cons hi a4k ih =>
  intro lo kn fuel G s a w listed hf cJ hl hI hr;simp only[xy] at hr;split at hr;case h_2=>exact hr.elim
  case h_1 hc =>
  simp only[b3A,b6V,Nat.ble_eq,b4A] at hc;obtain⟨Rj,hc0,hc2,hc3⟩:=hc;split at hr
  .rename_i hb;have hb:=b3x hb;subst hb;have bK:lo<ops.size:=by omega
   obtain⟨fuel,rfl⟩:∃ f,fuel=f+1:=⟨fuel - 1,by omega⟩;have Ix:(ops.toList.take (lo+1)).drop lo=[ops[lo]]:=by
    rw[List.drop_take,show lo+1 - lo=1 by omega,List.drop_eq_getElem_cons (by simpa using bK)];simp
   rw[Ix] at hr;refine a7C hE dM bK (λ i h1 h2=>AJ Rj (by omega) (by omega) (by omega)) cJ hl hI hr ?_;intro G s a w listed cJ hl hI hp;exact ih (lo+1) kn fuel G s a w listed (by omega) cJ hl hI hp
  .split at hr;case h_3=>exact hr.elim
   case h_1 KS hal =>
    unfold a4f at hr;split at hr;case h_2=>exact hr.elim
    case h_1 hU =>
    have wh:∀ i o,(i,o)∈lD lo ((ops.toList.take hi).drop lo)↔lo<=i/\i<hi/\ops.toList[i]?=some o:=λ i o=>by
     rw[I3];constructor
     .rintro⟨j,rfl,h⟩;obtain⟨h1,h2⟩:=JH h;exact⟨by omega,h2,h1⟩
     .rintro⟨h1,h2,h3⟩;exact⟨i - lo,by omega,jm h3 h1 h2⟩
    have cQ:=LQ ((ops.toList.take hi).drop lo) lo;have E5:(lD lo ((ops.toList.take hi).drop lo)).length=hi - lo:=by rw[S8];simp;omega
    have AG:∀ x∈lD lo ((ops.toList.take hi).drop lo),∀ y∈lD lo ((ops.toList.take hi).drop lo),∀ t,x.2.dst=some t->y.2.dst=some t->x.1=y.1:=λ x hx y hy t hxt hyt=>by
     have h1:=(wh x.1 x.2).1 hx;have h2:=(wh y.1 y.2).1 hy;exact Lv KS x.1 y.1 t h1.1 h1.2.1 h2.2.1 (by simp[cE,h1.2.2,hxt]) (by simp[cE,h2.2.2,hyt])
    generalize lD lo ((ops.toList.take hi).drop lo)=fv at *
    simp only[a7w,b3A,b4r] at hU;obtain⟨t,b,q1,q2,q3⟩:=S4 hE hI hr;obtain⟨q4,q5⟩:=kJ q3;have a7f:∀ p:Nat×Oper->Bool,((fv.filter p).map (·.1)).Nodup:=λ p=>cQ.sublist (b6g _ b7v);have b0H:∀ x∈fv,∀ y∈fv,x.1=y.1->x=y:=λ x hx y hy e=>by
     obtain⟨x1,x2⟩:=x;obtain⟨y1,y2⟩:=y;simp only at e;subst e;have h1:=((wh _ _).1 hx).2.2;rw[((wh _ _).1 hy).2.2] at h1;simp only[b3t] at h1;rw[h1]
    refine a1K hE (hi:=hi) (Seg:=fv) dM hc3 ?_ (λ x hx=>by simpa using (hU.1 x hx).1) (λ x hx=>(hU.1 x hx).2) ?_ AG (λ fuel G s a w listed hf cJ hl hI hp=>ih hi kn fuel G s a w listed (by omega) cJ hl hI hp) (fuel+(Np c.E (bU ops.toList []) (fv.filter λ r => !mY c.E (bU ops.toList []) fv r)).length) fuel (fv.filter (mY c.E (bU ops.toList []) fv)) (Np c.E (bU ops.toList []) (fv.filter λ r => !mY c.E (bU ops.toList []) fv r))
     ((fv.filter (mY c.E (bU ops.toList []) fv)).map (·.1)) [] [] G t a b w listed (b4h _) ?_ cJ ?_ ?_ (a7f _) ((((jL _ _ _).map (·.1)).nodup_iff).2 (a7f _)) ?_ b4I b4I (λ p hp=>by cases hp) (λ p hp=>by cases hp) ?_ ?_ ?_ ?_ ?_ fv.length ?_
    .intro j o hj ho k hk;have:=(List.getElem?_eq_some_iff.1 ho).1;exact AJ Rj hj (by rw[VU];simpa using this) hk
    .intro x hx he;have:=hU.2 x hx;simpa [he] using this
    .rw[b3M,(jL _ _ _).length_eq,O1,E5,b3T,b3T];omega
    .intro i lZ;obtain⟨⟨i',o⟩,h1,rfl⟩:=b3E.1 lZ;obtain⟨h2,h3⟩:=b4T.1 h1;have h4:=(wh _ _).1 h2;refine⟨h4.2.1,o,h4.2.2,h1,h2,?_⟩;have:=hU.2 _ h2;rw[h3] at this;have eQ:kf o.op=false:=by
      have:=GR (E:=c.E) (o:=o) (by simp only[mY,Qr,b3A] at h3;exact h3.1.1);simp only[dt,b7o] at this;exact this.2.1
     exact⟨h3,by simpa [eQ] using this⟩
    .intro x hx;have hx:=(jL _ _ _).mem_iff.1 hx;have h2:=(b4T.1 hx).1;have h4:=(wh _ _).1 h2;exact⟨h4.2.1,h4.2.2,h2⟩
    .intro i lZ x hx e;have hx:=(jL _ _ _).mem_iff.1 hx;obtain⟨y,h1,rfl⟩:=b3E.1 lZ;obtain⟨h2,h3⟩:=b4T.1 h1;obtain⟨h4,h5⟩:=b4T.1 hx;have:=b0H _ h2 _ h4 e;subst this;rw[h3] at h5;cases h5
    .intro k hk;rw[hl k hk];constructor
     .intro h;refine⟨by omega,λ hm=>?_, .inl λ x hx e=>?_⟩
      .obtain⟨y,h1,rfl⟩:=b3E.1 hm;have:=((wh _ _).1 (b4T.1 h1).1).1;omega
      .have:=((wh _ _).1 (b4T.1 ((jL _ _ _).mem_iff.1 hx)).1).1;omega
     .rintro⟨h1,h2,h3⟩;have h3:=h3.resolve_right (by simp);rcases b4y k lo with h|h
      .exact h
      .have hm:(k,ops[k])∈fv:=(wh _ _).2 ⟨h,h1,by simp⟩;cases hr:mY c.E (bU ops.toList []) fv (k,ops[k]) with
       | true=>exact absurd (b3E.2 ⟨_,b4T.2 ⟨hm,hr⟩,rfl⟩) h2
       | false=>exact absurd rfl (h3 _ ((jL _ _ _).mem_iff.2 (b4T.2 ⟨hm,by simp[hr]⟩)))
    .intro k hk PB o ho e he hb;have h1:=cf dM k o ho e he hb;have h2:=(hl k hk).1 PB;exact (hl e.on (by omega)).2 (by omega)
    .exact q1
    .refine q2.mono λ d hd=>?_;obtain⟨r,h1,h2⟩:=gE.1 hd;have h4:=(wh _ _).1 (b4T.1 h1).1;exact b3y.2 (.inl (b5B.2 ⟨r.1,b3E.2 ⟨r,h1,rfl⟩,by simp[cE,h4.2.2,h2]⟩))
    .intro i lZ o ho;obtain⟨⟨i',o'⟩,h1,rfl⟩:=b3E.1 lZ;have h4:=((wh _ _).1 (b4T.1 h1).1).2.2;simp only at ho;rw[h4] at ho;simp only[b3t] at ho;subst ho;exact q4 _ h1
    .exact q5
   case h_2 KS hal =>
   have p9:=Lv KS;obtain⟨es,oM,s',Ho,hq⟩:=sI hr;have hlen:((ops.toList.take hi).drop lo).length=hi - lo:=by simp;omega
   obtain⟨ht1,ht2⟩:=XB (lo:=lo) (s0:=((ops.toList.take hi).drop lo).foldl ai.fresh s) ((ops.toList.take hi).drop lo) lo es (List.replicate lo ⟨false, .any,none⟩) _ s' Ho (λ j o ho=>(JH ho).1) (by simp) (Nat.le_refl _) (by simp[fv,dR]);rw[hlen,show lo+(hi - lo)=hi by omega] at ht2;subst ht2;have hI0:Inv c G (((ops.toList.take hi).drop lo).foldl ai.fresh s) a w:=ES _ hI;refine a6m hE (lo:=lo) (m:=hi) (es:=List.replicate lo ⟨false, .any,none⟩++es) (s0:=((ops.toList.take hi).drop lo).foldl ai.fresh s) dM hc3 ?_ ?_ p9 ?_ (λ i o h1 h2 ho=>a1r KS h1 h2 ho) ?_ ?_ fuel [] G a w listed (by simp;omega) (by simp) (by simp) cJ (by simpa using hl) (by simp) (by omega) hI0
   .intro j o hj ho k hk;have:=(List.getElem?_eq_some_iff.1 ho).1;exact AJ Rj hj (by rw[VU];simpa using this) hk
   .intro j o hj ho k hk;have:=(List.getElem?_eq_some_iff.1 ho).1;exact AJ hc0 hj (by rw[VU];simpa using this) hk
   .intro i o h1 h2 ho;have:=ht1 (i - lo) o (jm ho h1 h2);rwa [show lo+(i - lo)=i by omega] at this
   .intro i o t h1 h2 ho VW It;exact (BU ((ops.toList.take hi).drop lo) s t).2 o (b4S (jm ho h1 h2)) VW It
   .intro fuel G a w listed hf cJ hl hI;exact ih hi oM fuel G _ a w listed (by omega) cJ hl hI (Wm hI hq)
theorem Tm(hE:bE c.P c.E)(hU:c.P.follows .mixedOrders=true){id:Nat}{ops:Array Oper}{Q:ai->Prop}{Q':Exit->Act->World->Prop}(hQ:∀ G s a w,Inv c G s a w->Q s->Q' .normal a w)
  (h:Inv c G s a w) (hd:QT c.E ops Q s):(Code.region id ops true).wp c.P Q' a w:=by
 unfold QT at hd;simp only at hd;split at hd
 .exact Ve hE hU hQ h hd
 .split at hd;case h_2=>exact hd.elim
  case h_1 dM =>
  refine wp_region_any hU ?_;exact a2m hE dM hQ _ 0 [] ops.size G s a _ _ (by simp) (by simp) (by intro k hk;simp[hk]) (bu.drew h) hd
end
def Vb{c:Ctx}{G:Gh}{s:ai}{a:Act}{w:World}(hE:bE c.P c.E)(hU:c.P.follows .mixedOrders=true){id:Nat}{ops:Array Oper}{Q:ai->Prop}{Q':Exit->Act->World->Prop}(hQ:∀ G s a w,Inv c G s a w->Q s->Q' .normal a w)
  (h:Inv c G s a w) (hd:a0U c.E ops Q s):(Code.region id ops true).wp c.P Q' a w:=Tm hE hU hQ h hd
theorem kv{u v:TV}(h:zD u v):u=v:=by
 unfold zD at h;split at h
 .rename_i x hx;have:=TV.aW hx;rw[this,h]
 .exact h.elim
theorem Fo:∀ {l:List Nat},nodupB l=true->l.Nodup
 | [],_=>b4I
 | a::r,h=>by
  simp only[nodupB] at h;split at h
  .cases h
  .rename_i hc;exact List.nodup_cons.2 ⟨by simpa using hc,Fo h⟩
theorem B1{α:Type}(f:α->Nat):∀ {l:List α},(l.map f).Nodup->∀ x∈l,∀ y∈l,f x=f y->x=y
 | [],_,x,hx,_,_,_=>by simp at hx
 | a::r,h,x,hx,y,hy,he=>by
  simp only[b4o,b4n] at h;rcases b3S.1 hx with hx1|hx1
  .rcases b3S.1 hy with X2|X2
   .rw[hx1,X2]
   .exact absurd (b3E.2 ⟨y,X2,by rw[<-he,hx1]⟩) h.1
  .rcases b3S.1 hy with X2|X2
   .exact absurd (b3E.2 ⟨x,hx1,by rw[he,X2]⟩) h.1
   .exact B1 f h.2 x hx1 y X2 he
section
variable {c:Ctx} {G:Gh} {s t:ai} {a:Act} {w w':World}
def gA(G:Gh)(s t:ai)(ρ:List (Nat×Nat))(id:Nat):Value:=match s.ah (dk ρ id) with
 | some _=>G.η (dk ρ id)
 | none=>match cx (t.ah id) with
  | true => .tuple [.slice none 0 0].toArray
  | false => .slice none 0 0
def sA(G:Gh)(s:ai)(ρ:List (Nat×Nat))(id:Nat):List Nat:=match s.ah (dk ρ id) with
 | some _=>G.φ (dk ρ id)
 | none=>[]
theorem oa{ρ:List (Nat×Nat)}{x:Value}{u v:AV}(h:AV.wb ρ s t u v)(hu:C1 c G s.ah w u x):C1 c ⟨G.S,gA G s t ρ,sA G s ρ⟩ t.ah w v x:=by
 unfold AV.wb at h;split at h
 .trivial
 .split at h
  .have:=kv h;subst this;exact hu
  .split at h
   .subst h;exact⟨rfl,Ux (c:=c) (G:=G) (lk:=s.ah) (τ := .slice _) (v := .nil) rfl (show C1 c G s.ah w .nil x from hu)⟩
   .exact h.elim
  .exact h.elim
 .split at h
  .exact hu
  .exact h.elim
 .split at h
  .have:=kv h;subst this;exact hu
  .exact h.elim
 .split at h
  .split at h
   .rename_i hb;simp only[b3A] at hb;have h1:=b3x hb.1.1;have h2:=b3x hb.1.2;subst h1 h2;obtain⟨b,k1,k2,k3⟩:=hu;refine⟨b,?_,k2,hb.2⟩;simp only[gA];match hl:s.ah (dk ρ _),k3 with
    | some o,_=>exact k1
   .exact h.elim
  .exact h.elim
 .split at h
  .split at h
   .rename_i hb;simp only[b3A] at hb;have h1:=b3x hb.1;subst h1;obtain⟨k1,k2,k3⟩:=hu;refine⟨?_,hb.2,k3⟩;simp only[gA];match hl:s.ah (dk ρ _),k2 with
    | some o,_=>exact k1
   .exact h.elim
  .split at h
   .rename_i hr hn;refine⟨?_,hr,none,0,0,hu⟩;simp only[gA,hn,sT hr];exact hu
   .exact h.elim
  .exact h.elim
 .split at h
  .split at h
   .rename_i hb;simp only[b3A] at hb;have h1:=b3x hb.1;subst h1;obtain⟨k1,l,k2,k3⟩:=hu;refine⟨hb.2,l,?_,k3⟩;simp only[gA];match hl:s.ah (dk ρ _),k1 with
    | some o,_=>exact k2
   .exact h.elim
  .split at h
   .rename_i hr hn;have hu:x = .slice none 0 0:=hu;refine⟨hr,[],?_,none,0,0,hu⟩;simp only[gA,hn,hr];rw[hu]
   .exact h.elim
  .exact h.elim
 .split at h
  .split at h
   .rename_i hb;have h1:=b3x hb;subst h1;exact hu
   .exact h.elim
  .exact h.elim
 .split at h
  .split at h
   .rename_i hb;simp only[b3A] at hb;have h1:=b3x hb.1;subst h1;obtain⟨k1,k2,k3⟩:=hu;refine⟨?_,hb.2,k3⟩;simp only[gA];match hl:s.ah (dk ρ _),k2 with
    | some o,_=>exact k1
   .exact h.elim
  .exact h.elim
 .exact h.elim
theorem Ig{ρ:List (Nat×Nat)}:∀ {us vs:List AV} {l:List Value},Lu ρ s t us vs->aT (C1 c G s.ah w) us l->aT (C1 c ⟨G.S,gA G s t ρ,sA G s ρ⟩ t.ah w) vs l
 | [],[],[],_,_=>trivial
 | u::us,v::vs,x::l,h,hu=>by
  simp only[Lu] at h;split at h
  .exact⟨ae,Ig h hu.2⟩
  .exact⟨oa h.1 hu.1,Ig h.2 hu.2⟩
 | [],_::_,_,h,_=>h.elim
 | _::_,[],_,h,_=>h.elim
 | [],[],_::_,_,h=>h.elim
 | _::_,_::_,[],_,h=>h.elim
theorem a6K{ρ:List (Nat×Nat)}{x:Value}{u v:AV}(h:AV.a9x ρ s t u v)(hu:CR c G s.ah w u x):CR c ⟨G.S,gA G s t ρ,sA G s ρ⟩ t.ah w v x:=by
 rcases hu.inv with ⟨z,rfl,h1⟩|⟨cs,l,rfl,rfl,h1⟩|h1
 .cases v with
  | any=>trivial
  | aF z' =>
   have:=kv (show zD z z' from h);subst this;exact hu
  | _=>exact (show False from h).elim
 .cases v with
  | any=>trivial
  | agg vs=>exact⟨l,rfl,Ig (show Lu ρ s t cs vs from h) h1⟩
  | _=>exact (show False from h).elim
 .cases u with
  | agg cs=>exact (show False from h1).elim
  | _=>exact (oa (show AV.wb ρ s t _ v by cases v<;>exact h) h1).a2s
theorem VH{ρ:List (Nat×Nat)}:∀ {us vs:List AV} {l:List Value},a1o ρ s t us vs->aT (CR c G s.ah w) us l->aT (CR c ⟨G.S,gA G s t ρ,sA G s ρ⟩ t.ah w) vs l
 | [],[],[],_,_=>trivial
 | u::us,v::vs,x::l,h,hu=>by
  simp only[a1o] at h;split at h
  .exact⟨ae,VH h hu.2⟩
  .exact⟨a6K h.1 hu.1,VH h.2 hu.2⟩
 | [],_::_,_,h,_=>h.elim
 | _::_,[],_,h,_=>h.elim
 | [],[],_::_,_,h=>h.elim
 | _::_,_::_,[],_,h=>h.elim
theorem a2W{u v:FV}(h:a4p u v):u=v:=by
 unfold a4p at h;split at h
 .rename_i F hF;have:=FV.aW hF;rw[this,h]
 .exact h.elim
theorem a8x{ρ:List (Nat×Nat)}{x:Value}{u v:AV}(h:AV.fit ρ s t u v)(hu:VR c G s.ah w u x):VR c ⟨G.S,gA G s t ρ,sA G s ρ⟩ t.ah w v x:=by
 cases u with
 | agg us =>
  obtain⟨l,h1,h2⟩:=hu;cases v with
  | any=>trivial
  | agg vs=>exact⟨l,h1,Ig (show Lu ρ s t us vs from h) h2⟩
  | aF z =>
   obtain⟨τ,q⟩:=z;simp only[AV.fit] at h;split at h
   .rename_i y hy;have hr:dZ w G.S ⟨τ,y⟩ x:=Om (c:=c) (G:=G) (lk:=s.ah) (w:=w) (x:=x) hy ⟨l,h1,h2⟩;have h':y=q:=h;show dZ w G.S ⟨τ,q⟩ x;rw[<-h'];exact hr
   .exact h.elim
  | _=>exact (show False from h).elim
 | iP us =>
  cases v with
  | any=>trivial
  | _=>exact (show False from h).elim
 | aF z =>
  cases v with
  | any=>trivial
  | aF z' =>
   have:=kv (show zD z z' from h);subst this;exact hu
  | _=>exact (show False from h).elim
 | c9 f us =>
  obtain⟨l,h1,h2⟩:=hu;cases v with
  | any=>trivial
  | c9 g vs =>
   simp only[AV.fit] at h;split at h
   .rename_i hb;have hb:=b3x hb;subst hb;exact⟨l,h1,VH h h2⟩
   .exact h.elim
  | _=>exact (show False from h).elim
 | iC z =>
  cases v with
  | any=>trivial
  | iC z' =>
   have:=a2W (show a4p z z' from h);subst this;exact hu
  | _=>exact (show False from h).elim
 | any=>cases v<;>first|trivial|exact (show False from h).elim
 | ei=>cases v<;>first|trivial|exact (show False from h).elim
 | nil=>exact (oa (u := .nil) (show AV.wb ρ s t .nil v by cases v<;>exact h) (show C1 c G s.ah w .nil x from hu)).fT
 | cZ z=>exact (oa (u := .cZ z) (show AV.wb ρ s t (.cZ z) v by cases v<;>exact h) (show C1 c G s.ah w (.cZ z) x from hu)).fT
 | ptr i o=>exact (oa (u := .ptr i o) (show AV.wb ρ s t (.ptr i o) v by cases v<;>exact h) (show C1 c G s.ah w (.ptr i o) x from hu)).fT
 | row i=>exact (oa (u := .row i) (show AV.wb ρ s t (.row i) v by cases v<;>exact h) (show C1 c G s.ah w (.row i) x from hu)).fT
 | eG i k o=>exact (oa (u := .eG i k o) (show AV.wb ρ s t (.eG i k o) v by cases v<;>exact h) (show C1 c G s.ah w (.eG i k o) x from hu)).fT
 | fn f=>exact (oa (u := .fn f) (show AV.wb ρ s t (.fn f) v by cases v<;>exact h) (show C1 c G s.ah w (.fn f) x from hu)).fT
 | mp i=>exact (oa (u := .mp i) (show AV.wb ρ s t (.mp i) v by cases v<;>exact h) (show C1 c G s.ah w (.mp i) x from hu)).fT
 | aw i=>exact (oa (u := .aw i) (show AV.wb ρ s t (.aw i) v by cases v<;>exact h) (show C1 c G s.ah w (.aw i) x from hu)).fT
 | sub i k o z=>exact (oa (u := .sub i k o z) (show AV.wb ρ s t (.sub i k o z) v by cases v<;>exact h) (show C1 c G s.ah w (.sub i k o z) x from hu)).fT
 | eP i k o z=>exact (oa (u := .eP i k o z) (show AV.wb ρ s t (.eP i k o z) v by cases v<;>exact h) (show C1 c G s.ah w (.eP i k o z) x from hu)).fT
theorem ER{ρ:List (Nat×Nat)}:∀ {us vs:List AV},C5 ρ s t us vs->us.length=vs.length/\∀ i,vs.getD i .any = .any\/AV.fit ρ s t (us.getD i .any) (vs.getD i .any)
 | [],[],_=>⟨rfl,λ i => .inl (by simp)⟩
 | u::us,v::vs,h=>by
  simp only[C5] at h;split at h
  .obtain⟨h1,h2⟩:=ER h;refine⟨by simp[h1],λ i=>?_⟩;cases i with
   | zero=>exact .inl rfl
   | succ i=>simpa using h2 i
  .obtain⟨h1,h2⟩:=ER h.2;refine⟨by simp[h1],λ i=>?_⟩;cases i with
   | zero=>exact .inr h.1
   | succ i=>simpa using h2 i
 | [],_::_,h=>h.elim
 | _::_,[],h=>h.elim
def a6i(bf:Ty)(ys:List bf.den)(τ:Ty)(xs:List τ.den):Prop:=∀ (w:World) (η:Value) (fp:List Nat),iq w η bf ys fp->iq w η τ xs fp
theorem a0J{bf:Ty}{ys:List bf.den}{τ:Ty}{xs:List τ.den}(h:a0I bf ys τ xs):a6i bf ys τ xs:=by
 unfold a0I at h;split at h
 .rename_i h1 h2;have h1:=b4l h1;have h2:=b4l h2;subst h1 h2;have h:=kv h;rw[TV.a2B] at h;cases h;intro w η fp hT;obtain⟨v,l,a,cap,q1,q2,q3,q4,q5,q6⟩:=hT;have e1:(List.map toO ys).length=ys.length:=b3M _;have e2:((show List J from ys).map toO).map (Ty.aP (.st .oExpr))=ys.map (Ty.aP (.st .expr)):=by
   rw[List.map_map];refine b7u λ x _=>?_;show aQ.aP .oExpr (toO x)=aQ.aP .expr x;rw[aQ.ct,aQ.ct];rfl
  refine⟨v,l,a,cap,q1,by rw[q2];exact congrArg (Value.slice a · cap) e1.symm,by exact e1 ▸ q3,q4,by exact e1 ▸ q5,?_⟩;rcases q6 with ⟨rfl,q7,q8⟩|⟨b,f,t,q7,q8,q9,q10,q11⟩
  .exact .inl ⟨rfl,q7,q8⟩
  .exact .inr ⟨b,f,t,q7,q8,q9,q10,e2 ▸ q11⟩
 .have h:=kv h;cases h;exact λ _ _ _ h=>h
def a8o(ρ:List (Nat×Nat))(s t:ai)(id:Nat):aA->Prop
 | .box bs=>∃ Z9,s.ah (dk ρ id)=some (.box Z9)/\Lu ρ s t Z9 bs
 | .row e τ xs=>s.ah (dk ρ id)=some (.row e τ xs)\/(s.ah (dk ρ id)=none/\xs=[])
 | .aw τ xs=>(∃ bf ys,s.ah (dk ρ id)=some (.aw bf ys)/\a6i bf ys τ xs)\/(s.ah (dk ρ id)=none/\xs=[])
 | .map m=>s.ah (dk ρ id)=some (.map m)
theorem a1J{a b:MV}(h:a3r a b):a=b:=by
 unfold a3r at h;split at h
 .rename_i f n hf;rw[MV.aW hf];simp only;rw[h.1,h.2]
 .exact h.elim
theorem lW{ρ:List (Nat×Nat)}:∀ {l:List (Nat×aA)},kB ρ s t l->∀ id o,(id,o)∈l->a8o ρ s t id o
 | [],_,id,o,h=>by simp at h
 | (k, .box bs)::r,h,id,o,hm=>by
  simp only[kB] at h;split at h
  .rename_i Z9 ha;rcases b3S.1 hm with e|hm
   .simp only[b3w] at e;obtain⟨rfl,rfl⟩:=e;exact⟨Z9,ha,h.1⟩
   .exact lW h.2 id o hm
  .exact h.elim
 | (k, .row e τ xs)::r,h,id,o,hm=>by
  simp only[kB] at h;split at h
  .rename_i e' bf ys ha;split at h
   .rename_i he;have he:=b3x he;subst he;rcases b3S.1 hm with e1|hm
    .simp only[b3w] at e1;obtain⟨rfl,rfl⟩:=e1;have:=kv h.1;cases this;exact .inl ha
    .exact lW h.2 id o hm
   .exact h.elim
  .rename_i ha;rcases b3S.1 hm with e1|hm
   .simp only[b3w] at e1;obtain⟨rfl,rfl⟩:=e1;exact .inr ⟨ha,h.1⟩
   .exact lW h.2 id o hm
  .exact h.elim
 | (k, .aw τ xs)::r,h,id,o,hm=>by
  simp only[kB] at h;split at h
  .rename_i bf ys ha;rcases b3S.1 hm with e1|hm
   .simp only[b3w] at e1;obtain⟨rfl,rfl⟩:=e1;exact .inl ⟨bf,ys,ha,a0J h.1⟩
   .exact lW h.2 id o hm
  .rename_i ha;rcases b3S.1 hm with e1|hm
   .simp only[b3w] at e1;obtain⟨rfl,rfl⟩:=e1;exact .inr ⟨ha,h.1⟩
   .exact lW h.2 id o hm
  .exact h.elim
 | (k, .map m)::r,h,id,o,hm=>by
  simp only[kB] at h;split at h
  .rename_i m' ha;rcases b3S.1 hm with e1|hm
   .simp only[b3w] at e1;obtain⟨rfl,rfl⟩:=e1;rw[a1J h.1] at ha;exact ha
   .exact lW h.2 id o hm
  .exact h.elim
theorem Ii{ρ:List (Nat×Nat)}(h:Inv c G s a w)(hf:Fits ρ s t):∃ G',Inv c G' t a w:=by
 unfold Fits at hf;split at hf;case h_2=>exact hf.elim
 case h_1 hb =>
  rw[b3A] at hb;obtain⟨hb,hb4⟩:=hb;rw[b3A] at hb;obtain⟨hb,Rh⟩:=hb;simp only[b3A] at hb;obtain⟨hs,ho⟩:=hf;obtain⟨hlen,Wc⟩:=ER hs;have lq:=lW ho;have eu:∀ id b,eb (gA G s t ρ id)=some b->∃ o,s.ah (dk ρ id)=some o/\eb (G.η (dk ρ id))=some b:=by
   intro id b hb;unfold gA at hb;split at hb
   .rename_i o ho;exact⟨o,ho,hb⟩
   .split at hb<;>cases hb
  refine⟨⟨G.S,gA G s t ρ,sA G s ρ⟩,?_⟩;exact {
   defers:=h.defers
   size:=h.size.trans hlen
   aS:=h.aS,jE:=h.jE,ez:=h.ez,sX:=h.sX,dE:=h.dE
   aC:=λ i=>by
    rcases Wc i with e|e
    .rw[show t.sl i = .any from e];trivial
    .exact a8x e (h.aC i)
   aK:=λ id o aZ=>by
    have hof:=lq id o (fB aZ);cases o with
    | box bs =>
     obtain⟨Z9,h1,h2⟩:=hof;obtain⟨b,l,ty,k1,k2,k3⟩:=h.aK _ _ h1;refine⟨b,l,ty,?_,k2,Ig h2 k3⟩;simp only[gA,h1];exact k1
    | row e τ xs =>
     rcases hof with h1|⟨h1,rfl⟩
     .obtain⟨l,k1,k2,k3⟩:=h.aK _ _ h1;refine⟨l,?_,k2,k3⟩;simp only[gA,h1];exact k1
     .refine⟨[],?_,rfl,by simp⟩;simp only[gA,h1,sT (show isRow (t.ah id)=true by rw[aZ];rfl)];exact World.ownsRow_nil w 0 e τ.size
    | aw τ xs=>trivial
    | map m =>
     have h1:s.ah (dk ρ id)=some (.map m):=hof;obtain⟨b,es,clock,k1,k2⟩:=h.aK _ _ h1;refine⟨b,es,clock,?_,k2⟩;simp only[gA,h1];exact k1
   place:=λ id o b aZ iD=>by
    obtain⟨o',h1,h2⟩:=eu id b iD;exact h.place _ _ b h1 h2
   apart:=λ id dx o o' b aZ Iv iD b1W=>by
    obtain⟨p,h1,h2⟩:=eu id b iD;obtain⟨p',h3,h4⟩:=eu dx b b1W;have:=h.apart _ _ _ _ b h1 h3 h2 h4;have FZ:=B1 (λ p:Nat×aA=>dk ρ p.1) (Fo hb.2) (id,o) (fB aZ) (dx,o') (fB Iv) this;exact congrArg Prod.fst FZ
   aR:=by
    have PI:∀ id b,b∈sA G s ρ id->(∃ o,s.ah (dk ρ id)=some o)/\b∈G.φ (dk ρ id):=λ id b cz=>by
     unfold sA at cz;split at cz
     .rename_i o ho;exact⟨⟨o,ho⟩,cz⟩
     .simp at cz
    have Ho:∀ id τ xs,t.ah id=some (.aw τ xs)->(∃ bf ys,s.ah (dk ρ id)=some (.aw bf ys)/\a6i bf ys τ xs)\/(s.ah (dk ρ id)=none/\xs=[]):=λ id τ xs aZ=>lq id _ (fB aZ);have eL:∀ id τ xs b,t.ah id=some (.aw τ xs)->b∈sA G s ρ id->∃ bf ys,s.ah (dk ρ id)=some (.aw bf ys)/\b∈G.φ (dk ρ id):=λ id τ xs b aZ cz=>by
     obtain⟨⟨o,ho⟩,h2⟩:=PI id b cz;rcases Ho id τ xs aZ with ⟨bf,ys,h1,_⟩|⟨h1,_⟩
     .exact⟨bf,ys,h1,h2⟩
     .rw[h1] at ho;cases ho
    exact {
     tr:=λ id τ xs aZ=>by
      rcases Ho id τ xs aZ with ⟨bf,ys,h1,hle⟩|⟨h1,rfl⟩
      .simp only[gA,sA,h1];exact hle _ _ _ (h.aR.tr _ _ _ h1)
      .simp only[gA,sA,h1,show cx (t.ah id)=true by rw[aZ];rfl];exact⟨_,[],none,0,rfl,rfl,by simp,by simp[maxLen],by simp, .inl ⟨rfl,⟨rfl,rfl⟩,rfl⟩⟩
     nd:=λ id τ xs aZ=>by
      rcases Ho id τ xs aZ with ⟨bf,ys,h1,_⟩|⟨h1,_⟩
      .simp only[sA,h1];exact h.aR.nd _ _ _ h1
      .simp only[sA,h1];exact b4I
     pl:=λ id τ xs b aZ cz=>by
      obtain⟨_,_,h1,h2⟩:=eL id τ xs b aZ cz;obtain⟨q1,q2,q3,q4⟩:=h.aR.pl _ _ _ b h1 h2;refine⟨q1,q2,q3,λ i o hi p7=>?_⟩;obtain⟨o',k1,k2⟩:=eu i b p7;exact q4 _ o' k1 k2
     ap:=λ id dx τ bf xs cR b aZ Iv yi EW=>by
      obtain⟨_,_,h1,h2⟩:=eL id τ xs b aZ yi;obtain⟨_,_,h3,h4⟩:=eL dx bf cR b Iv EW;have:=h.aR.ap _ _ _ _ _ _ b h1 h3 h2 h4;have FZ:=B1 (λ p:Nat×aA=>dk ρ p.1) (Fo hb.2) (id, .aw τ xs) (fB aZ) (dx, .aw bf cR) (fB Iv) this;exact congrArg Prod.fst FZ }
   root:=λ id v hr ht=>by
    have hrg:=h.iO id v hr;match hl:t.ah id,ht with
    | some (.aw τ xs),_ =>
     have hq:=b4r.1 Rh _ (fB hl);simp only[b5o,b3A,b6V,Nat.ble_eq] at hq;rcases hq with hq|hq|⟨KV,Iy⟩
     .omega
     .omega
     .have KV:=Nat.eq_of_beq_eq_true KV;obtain⟨l,h2⟩:=h.root id v hr Iy;refine⟨l,?_⟩;show gA G s t ρ id=_;unfold gA;rw[KV];match hs:s.ah id,Iy with
      | some (.aw ..),_=>exact h2
   iO:=h.iO
   du:=λ id v hr ht=>by
    have hrg:=h.fc id v hr;match hl:t.ah id,ht with
    | some (.box cs),_ =>
     have hq:=b4r.1 hb4 _ (fB hl);simp only[gf,b3B,b7r,b5o,b3A,b6V] at hq;rcases hq with hq|⟨KV,Iy⟩
     .omega
     .have KV:=Nat.eq_of_beq_eq_true KV;have h2:=h.du id v hr Iy;show gA G s t ρ id=_;unfold gA;rw[KV];match hs:s.ah id,Iy with
      | some (.box ..),_=>exact h2
   fc:=h.fc }
theorem fZ(hE:bE c.P c.E)(hU:c.P.follows .mixedOrders=true):∀ (dI:Code) (Λ:Nat->az) (cur:Nat) (Q:Exit->ai->Prop) (G:Gh) (s:ai) (a:Act) (w:World),
  Inv c G s a w->s5 c.E dI Λ cur Q s->dI.wp c.P (λ e a w=>∃ G s,Inv c G s a w/\Q e s) a w
 | .skip,Λ,cur,Q,G,s,a,w,h,hr=>wp_skip ⟨G,s,h,hr⟩
 | .region id ops draw,Λ,cur,Q,G,s,a,w,h,hr=>by
  cases draw with
  | true=>exact Vb hE hU (Q:=Q .normal) (λ G s a w hI hq=>⟨G,s,hI,hq⟩) h hr
  | false =>
   refine wp_region ?_;have:=BC hE (ops:=ops) (Q:=Q .normal) (Q':=λ e a w=>∃ G s,Inv c G s a w/\Q e s) (λ G s a w hI hq=>⟨G,s,hI,hq⟩) ops.toList 0 [] G s a w (by simp) h hr;rw[List.range_eq_range'];simpa using this
 | .seq x y,Λ,cur,Q,G,s,a,w,h,hr=>by
  simp only[s5] at hr;split at hr;case h_2 ι P μ fz dead ins aS os Zr ren sub hL =>
   obtain⟨hx,hy⟩:=hr;refine wp_seq (b6E (fZ hE hU x Λ cur _ G s a w h hx) ?_);rintro e a' w' ⟨G',s',hI,hq⟩;cases e with
   | normal =>
    obtain⟨j,hPj,hF⟩:=hq;obtain⟨G3,h3⟩:=hI.Ik fz;obtain⟨G4,h4⟩:=Ii h3 hF.ex.choose_spec;exact fZ hE hU y (sub j) cur Q G4 _ a' w' h4 (hy j hPj)
   | _=>exact⟨G',s',hI,hq⟩
  refine wp_seq (b6E (fZ hE hU x Λ cur _ G s a w h hr) ?_);rintro e a' w' ⟨G',s',hI,hq⟩;cases e with
  | normal=>exact fZ hE hU y Λ cur Q G' s' a' w' hI hq
  | _=>exact⟨G',s',hI,hq⟩
 | .cond x p q,Λ,cur,Q,G,s,a,w,h,hr=>by
  simp only[s5] at hr;split at hr
  .rename_i t ht;have hx:=br h x;rw[ht] at hx;have hx:[a.eval x]=[.bool t]:=hx;simp only[b3F,b3L] at hx;refine wp_cond hx ?_;cases t with
   | true=>exact fZ hE hU p Λ cur Q G s a w h (hr.1 rfl)
   | false=>exact fZ hE hU q Λ cur Q G s a w h (hr.2 rfl)
  .exact hr.elim
 | .block id x,Λ,cur,Q,G,s,a,w,h,hr=>by
  refine wp_block (b6E (fZ hE hU x Λ id _ G s a w h hr) ?_);rintro e a' w' ⟨G',s',hI,hq⟩;cases e with
  | exit i =>
   simp only at hq;simp only[Exit.inBlock];split at hq
   .rename_i hi;rw[b4d (b3x hi)];exact⟨G',s',hI,hq⟩
   .rename_i hi;have:i≠id:=λ e=>by subst e;simp at hi
    rw[b3H this];exact⟨G',s',hI,hq⟩
  | _=>exact⟨G',s',hI,hq⟩
 | .loop x,Λ,cur,Q,G,s,a,w,h,hr=>by
  simp only[s5] at hr;split at hr
  .exact hr.elim
  .rename_i ι P μ fz dead ins aS os Zr ren sub hL;obtain⟨⟨i0,hP0,hF0⟩,a8H⟩:=hr;obtain⟨G1,h1⟩:=h.Ik fz;obtain⟨G2,h2⟩:=Ii h1 hF0.ex.choose_spec;refine wp_loop_ghost (λ n a w=>∃ i G,P i/\μ i=n/\Inv c G (rX s (dead++Code.Ew x) (ins i) aS (os i)) a w) (μ i0) ⟨i0,G2,hP0,rfl,h2⟩ ?_;rintro n a' w' ⟨i,G',hP,rfl,hI⟩;refine b6E (fZ hE hU x (sub i) cur _ G' _ a' w' hI (a8H i hP)) ?_;rintro e a'' w'' ⟨G'',s'',a9A,hq⟩;cases e with
   | normal =>
    obtain⟨j,hPj,bK,hF⟩:=hq;obtain⟨G3,h3⟩:=a9A.Ik fz;obtain⟨G4,h4⟩:=Ii h3 hF.ex.choose_spec;exact⟨μ j,bK,j,G4,hPj,rfl,h4⟩
   | _=>exact⟨G'',s'',a9A,hq⟩
 | .exit id,Λ,cur,Q,G,s,a,w,h,hr=>wp_exit ⟨G,s,h,hr⟩
 | .ret,Λ,cur,Q,G,s,a,w,h,hr=>wp_ret ⟨G,s,h,hr⟩
 | .label l,Λ,cur,Q,G,s,a,w,h,hr=>wp_label ⟨G,s,h,hr⟩
 | .rangeFunc ..,_,_,_,_,_,_,_,_,hr=>hr.elim
 | .scope ..,_,_,_,_,_,_,_,_,hr=>hr.elim
 | .goto ..,_,_,_,_,_,_,_,_,hr=>hr.elim
 | .refuse ..,_,_,_,_,_,_,_,_,hr=>hr.elim
end
theorem aT.replicate{α β:Type}{R:α->β->Prop}{a:α}{b:β}(kE:R a b):∀ n:Nat,aT R (List.replicate n a) (List.replicate n b)
 | 0=>trivial
 | n+1=>⟨kE,aT.replicate kE n⟩
theorem aT.Af{α β:Type}{R:α->β->Prop}{Z9:List α}{bs:List β}(h:aT R Z9 bs){a:α}{b:β}(kE:R a b)(n:Nat):aT R (Z9++List.replicate n a) (bs++List.replicate n b) :=
 h.append (aT.replicate kE n)
theorem aT.getD{α β:Type}{R:α->β->Prop}{d:α}{e:β}(hde:R d e):∀ {Z9:List α} {bs:List β},aT R Z9 bs->∀ i:Nat,R (Z9.getD i d) (bs.getD i e)
 | [],[],_,i=>by simpa using hde
 | a::Z9,b::bs,h,0=>h.1
 | a::Z9,b::bs,h,i+1=>by simpa using aT.getD hde h.2 i
 | [],_::_,h,_=>h.elim
 | _::_,[],h,_=>h.elim
section
variable {P:Program} {E:Env}
def a6d(P:Program)(w:World)(S:Nat->Prop):Arg->Value->Prop
 | .own _,_=>True
 | .box _,_=>True
 | a,x=>Ac P w S a x
theorem Ta{w:World}{S X:Nat->Prop}(hS:ua w S)(hX:∀ b,X b->b<w.heap.size/\¬ S b){fn:Func}{args:List Arg}{cA:List Value}(ha:aT (a6d P w S) args cA)(SU:(∀ b,¬ X b)\/∀ a∈args,a.NW=true) :
  Inv ⟨P,E,w,X,S,λ _=>none,λ _=>False,λ _=>none⟩ ⟨S,λ _=>undef,λ _=>[]⟩ (dP fn args) { tmps:=cA.toArray++Array.replicate (fn.ntmps - cA.toArray.size) undef,defers:=[] } w:=by
 have hlen:=ha.length;have Wc:∀ v x,v∈args->a6d P w S v x->VR ⟨P,E,w,X,S,λ _=>none,λ _=>False,λ _=>none⟩ ⟨S,λ _=>undef,λ _=>[]⟩ (dP fn args).ah w (U5 v) x:=by
  intro v x hm h;cases v with
  | val v=>exact h
  | ref v =>
   obtain⟨b,o,cs,h1,h2,h3,h4⟩:=h;exact⟨b,o,cs,h1, .inr ⟨h2,SU.elim (λ q=>⟨q b,λ z=>z⟩) λ q=>absurd (q _ hm) (by simp[Arg.NW])⟩,h3,h4⟩
  | fn f=>exact h
  | c9 v =>
   obtain⟨f,eO,l,h1,h2,h3⟩:=h;refine⟨f,eO,l,h1,h2,h3.imp λ u y _ hy=>?_⟩;cases u with
   | val v=>exact hy
   | ref v =>
    obtain⟨b,o,cs,k1,k2,k3,k4⟩:=hy;exact⟨b,o,cs,k1, .inr ⟨k2,SU.elim (λ q=>⟨q b,λ z=>z⟩) λ q=>absurd (q _ hm) (by simp[Arg.NW])⟩,k3,k4⟩
   | fn f=>exact hy
   | c9 v=>exact hy.elim
   | own v=>exact hy.elim
   | box k=>exact hy.elim
  | own v=>trivial
  | box k=>trivial
 exact {
  defers:=rfl
  size:=by simp[dP,hlen]
  aS:=bC.refl _ _
  jE:=⟨λ b h=>(hX b h).1,λ g hg=>⟨(hS.2 g hg).1,λ q=>(hX g q).2 (hS.2 g hg).1,hS.1 g (hS.2 g hg).1,(hS.2 g hg).2⟩⟩
  ez:=λ b _ _=>b5z
  sX:=λ b hs=>hs
  dE:=hS.1
  aC:=λ i=>by
   have h1:aT (λ v x=>VR ⟨P,E,w,X,S,λ _=>none,λ _=>False,λ _=>none⟩ ⟨S,λ _=>undef,λ _=>[]⟩ (dP fn args).ah w v x) (args.map U5) cA:=aT.en _ (ha.imp λ v x hm h=>Wc v x hm h);have h2:=aT.getD (d:=AV.any) (e:=undef) (show VR ⟨P,E,w,X,S,λ _=>none,λ _=>False,λ _=>none⟩ ⟨S,λ _=>undef,λ _=>[]⟩ (dP fn args).ah w .any undef from trivial) (h1.Af (a:=AV.any) (b:=undef) (show VR ⟨P,E,w,X,S,λ _=>none,λ _=>False,λ _=>none⟩ ⟨S,λ _=>undef,λ _=>[]⟩ (dP fn args).ah w .any undef from trivial) (fn.ntmps - args.length)) i;have e1:(dP fn args).sl i=(args.map U5++List.replicate (fn.ntmps - args.length) AV.any).getD i AV.any:=rfl;have e2:(cA.toArray++Array.replicate (fn.ntmps - cA.toArray.size) undef).getD i undef=(cA++List.replicate (fn.ntmps - args.length) undef).getD i undef:=by
    rw[b4s,b3N,<-b7j];simp[hlen]
   rw[e1,e2];exact h2
  aK:=λ id o h=>by cases h
  place:=λ id o b h=>by cases h
  apart:=λ id dx o o' b h=>by cases h
  aR:=⟨(λ id τ xs h=>by cases h),(λ id τ xs h=>by cases h),(λ id τ xs b h=>by cases h),(λ id dx τ bf xs cR b h=>by cases h)⟩
  root:=λ id v h=>by cases h
  iO:=λ id v h=>by cases h
  du:=λ id v h=>by cases h
  fc:=λ id v h=>by cases h }
theorem a3V{w:World}{S:Nat->Prop}(hS:ua w S){fn:Func}{args:List Arg}{cA:List Value}(ha:aT (Ac P w S) args cA) :
  Inv ⟨P,E,w,λ _=>False,S,λ _=>none,λ _=>False,λ _=>none⟩ ⟨S,λ _=>undef,λ _=>[]⟩ (dP fn args) { tmps:=cA.toArray++Array.replicate (fn.ntmps - cA.toArray.size) undef,defers:=[] } w :=
 Ta hS (λ _ h=>h.elim) (ha.imp λ v x _ h=>by
  cases v with
  | own v=>trivial
  | box k=>exact h.elim
  | _=>exact h) (.inl λ _ h=>h)
def mZ(tmps:Array Value):ResultVar->Sem Value
 | .tmp t=>pure (tmps.getD t undef)
 | .cell a t=>do loadVar t (<-asAddr (tmps.getD a undef))
theorem tR(fn:Func)(tmps:Array Value):results fn tmps=(do
  let vs <-fn.results.mapM (mZ tmps)
  pure (if h:vs.size=1 then vs[0] else .tuple vs)):=by
 unfold results;congr 1
theorem Qs(hE:bE P E){c:Ctx}(hcP:c.P=P)(hcE:c.E=E){G:Gh}{s:ai}{a:Act}{w:World}(h:Inv c G s a w):∀ {rs:List ResultVar} {Ts:List TypeId} {vs:List TV},Si E s rs Ts=some vs ->
  ∃ xs,(rs.mapM (mZ a.tmps)).run P w = .ok xs w/\aT (dZ w (SX G s.ah)) vs xs
 | [],[],vs,hr=>by
  simp only[Si,b3t] at hr;subst hr;exact⟨[],by simp,ae⟩
 | r::rs,T::Ts,vs,hr=>by
  simp only[Si] at hr;split at hr
  .rename_i τ q hT;split at hr
   .rename_i x hx;split at hr
    .rename_i l hl;simp only[b3t] at hr;subst hr;obtain⟨xs,h1,h2⟩:=Qs hE hcP hcE h hl;cases r with
     | tmp t =>
      refine⟨a.tmps.getD t undef::xs,by simp[b5Y,mZ,h1],Ag h.aR h.aK (Jl λ _ _ h=>h) hx (br h (.tmp t)),h2⟩
     | cell p t =>
      simp only at hx;split at hx
      .rename_i hb;have hb:=Nat.eq_of_beq_eq_true hb;subst hb;unfold deref at hx;split at hx
       .rename_i u hu;obtain⟨b,o,cs,k1,k2,k3,k4⟩:=qp h.aK (Jl λ _ _ h=>h) hu (br h (.tmp p));have cG:=jM hE hT k2 k3;have k1':a.tmps.getD p undef = .pointer (some ⟨b,o,none⟩):=k1;refine⟨La τ cs::xs,?_,Ag h.aR h.aK (Jl λ _ _ h=>h) hx k4,h2⟩;simp only[Instr.loadAt,Instr.sureAddr,b4c,b4i,b3X] at cG;simp only[b5Y,mZ,k1',asAddr,b4c,b4i,b3X,cG,h1]
       .cases hx
      .cases hx
    .cases hr
   .cases hr
  .cases hr
 | [],_::_,_,hr=>by cases hr
 | _::_,[],_,hr=>by cases hr
theorem a7H{w:World}{S:Nat->Prop}:∀ {vs:List TV} {xs:List Value},aT (dZ w S) vs xs->HE w S vs (if h:xs.toArray.size=1 then xs.toArray[0] else .tuple xs.toArray)
 | [],[],_=>⟨[],by simp,ae⟩
 | [v],[x],h=>by simpa [HE] using h.1
 | v::u::r,x::y::z,h=>⟨x::y::z,by simp,h⟩
 | [],_::_,h=>h.elim
 | _::_,[],h=>h.elim
 | [_],_::_::_,h=>h.2.elim
 | _::_::_,[_],h=>h.2.elim
theorem YV(hE:bE P E)(hU:P.follows .mixedOrders=true){f:FuncId}{fn:Func}{dI:Code}(hf:P.funcs[f]?=some fn)(hb:fn.body=some dI)(Λ:Nat->az){args:List Arg}{post:List TV->Prop}
  (h:s5 E dI Λ 0 (yd E fn post) (dP fn args)):gp P f args post:=by
 intro w S cA hS ha;refine b7e hf hb ?_;have hinv:=a3V (P:=P) (E:=E) (fn:=fn) hS ha;refine b6E (fZ (c:=⟨P,E,w,λ _=>False,S,λ _=>none,λ _=>False,λ _=>none⟩) hE hU dI Λ 0 _ _ _ _ w hinv h) ?_;have fin:∀ (e:Exit) (a:Act) (w':World),(e = .normal\/e = .ret)->(∃ G s,Inv ⟨P,E,w,λ _=>False,S,λ _=>none,λ _=>False,λ _=>none⟩ G s a w'/\yd E fn post e s) ->
   a.defers=[]/\∃ v,(results fn a.tmps).run P w' = .ok v w'/\∃ x S' res,Ending.returned v = .returned x/\post res/\bC (λ _=>False) w w'/\(∀ b,b<w.heap.size->(S' b↔S b))/\(∀ b,S' b->b<w'.heap.size)/\HE w' S' res x:=by
  rintro e a w' he ⟨G,s,hI,hp⟩;have V7:∃ vs,Si E s fn.results.toList fn.resultTypes.toList=some vs/\post vs:=by
   rcases he with rfl|rfl <;>
   .simp only[yd] at hp;split at hp
    .rename_i vs B0;exact⟨vs,B0,hp⟩
    .exact hp.elim
  obtain⟨vs,B0,V8⟩:=V7;obtain⟨xs,h1,h2⟩:=Qs hE (c:=⟨P,E,w,λ _=>False,S,λ _=>none,λ _=>False,λ _=>none⟩) rfl rfl hI B0;refine⟨hI.defers,(if h:xs.toArray.size=1 then xs.toArray[0] else .tuple xs.toArray),?_,_,SX G s.ah,vs,rfl,V8,hI.aS,λ b hb=>?_,λ b hb=>?_,a7H h2⟩
  .rw[tR,b5C];simp only[b4c,b7f,h1];rfl
  .constructor
   .rintro (hs|⟨id,e',τ,ys,aZ,iD⟩|⟨id,τ,ys,aZ,iD⟩)
    .exact (hI.ez b hb (λ q=>q)).1 hs
    .rcases (hI.place id _ b aZ iD).1 with hge|hx
     .have:w.heap.size<=b:=hge;omega
     .exact hx.elim
    .rcases (hI.aR.pl id _ _ b aZ iD).1 with hge|hx
     .have:w.heap.size<=b:=hge;omega
     .exact hx.elim
   .exact λ hs => .inl ((hI.ez b hb (λ q=>q)).2 hs)
  .rcases hb with hs|⟨id,e',τ,ys,aZ,iD⟩|⟨id,τ,ys,aZ,iD⟩
   .exact hI.dE b hs
   .exact (hI.place id _ b aZ iD).2.2
   .exact (hI.aR.pl id _ _ b aZ iD).2.2.1
 intro e a w' hq;cases e with
 | normal=>exact fin .normal a w' (.inl rfl) hq
 | ret=>exact fin .ret a w' (.inr rfl) hq
 | exit i=>obtain⟨_,_,_,hp⟩:=hq;exact hp.elim
 | goto l=>obtain⟨_,_,_,hp⟩:=hq;exact hp.elim
 | panic ch=>obtain⟨_,_,_,hp⟩:=hq;exact hp.elim
 | outgrown=>obtain⟨_,_,_,hp⟩:=hq;exact hp.elim
end
def tU(E:Env)(s:ai):List ResultVar->List TypeId->Option (List TV×List Nat)
 | [],[]=>some ([],[])
 | r::rs,T::Ts=>match ah E.ty T with
  | some (
      τ,_)=>match (match r with
    | .tmp t=>qH s.ah τ (s.eval (.tmp t))
    | .cell p t=>match Nat.beq t T with
     | true=>match sN s.ah τ (s.eval (.tmp p)) with
      | some u=>qH s.ah τ u
      | none=>none
     | false=>none) with
   | some (x,i)=>match tU E s rs Ts with
    | some (l,j)=>some (⟨τ,x⟩::l,i++j)
    | none=>none
   | none=>none
  | none=>none
 | _,_=>none
def Jx(E:Env)(fn:Func)(post:List TV->Prop)(e:Exit)(s:ai):Prop :=
 match e with
 | .ret | .normal=>match tU E s fn.results.toList fn.resultTypes.toList with
  | some (vs,ids)=>match nodupB ids with
   | true=>post vs
   | false=>False
  | none=>False
 | _=>False
section
variable {P:Program} {E:Env}
theorem Fy{c:Ctx}(hE:bE c.P c.E)(hcP:c.P=P)(hcE:c.E=E){G:Gh}{s:ai}{a:Act}{w:World}(h:Inv c G s a w):∀ {rs:List ResultVar} {Ts:List TypeId} {vs:List TV} {ids:List Nat},tU E s rs Ts=some (vs,ids)->ids.Nodup ->
  ∃ xs fp,(rs.mapM (mZ a.tmps)).run P w = .ok xs w/\Od w vs xs fp/\fp.Nodup/\∀ b∈fp,wK G s.ah ids b
 | [],[],vs,ids,hr,_=>by
  simp only[tU,b3t,b3w] at hr;obtain⟨rfl,rfl⟩:=hr;exact⟨[],[],by simp,rfl,b4I,by simp⟩
 | r::rs,T::Ts,vs,ids,hr,cQ=>by
  simp only[tU] at hr;split at hr;case h_2=>cases hr
  case h_1 τ q hT =>
  split at hr;case h_2=>cases hr
  case h_1 x i hx =>
  split at hr;case h_2=>cases hr
  case h_1 l j hl =>
  simp only[b3t,b3w] at hr;obtain⟨rfl,rfl⟩:=hr;rw[b4a] at cQ;obtain⟨n1,n2,n3⟩:=cQ;obtain⟨xs,fp,h1,h2,h3,h4⟩:=Fy hE hcP hcE h hl n2;cases r with
  | cell p t =>
   simp only at hx;split at hx;case h_2=>cases hx
   case h_1 hb =>
   have hb:=b3x hb;subst hb;split at hx;case h_2=>cases hx
   case h_1 u hu =>
   obtain⟨b,o,cs,q1,q2,q3,q4⟩:=qp h.aK (λ _ _ h=>h) hu (br h (.tmp p));subst hcP hcE;have cG:=jM hE hT q2 q3;have q1':a.tmps.getD p undef = .pointer (some ⟨b,o,none⟩):=q1;obtain⟨f1,k1,k2,k3⟩:=mj h hx q4 n1;refine⟨La τ cs::xs,f1++fp,?_,⟨f1,fp,rfl,k1,h2⟩,ed k2 h3 λ b hb cz=>h.iV (k3 b hb) (h4 b cz) (λ x hx y hy=>n3 x hx y hy),λ b hb=>?_⟩
   .simp only[Instr.loadAt,Instr.sureAddr,b4c,b4i,b3X] at cG;simp only[b5Y,mZ,q1',asAddr,b4c,b4i,b3X,cG,h1]
   .rcases b3y.1 hb with hb|hb
    .exact (k3 b hb).mono λ k hk=>by simp[hk]
    .exact (h4 b hb).mono λ k hk=>by simp[hk]
  | tmp t =>
   obtain⟨f1,k1,k2,k3⟩:=mj h hx (br h (.tmp t)) n1;refine⟨a.tmps.getD t undef::xs,f1++fp,by simp[b5Y,mZ,h1],⟨f1,fp,rfl,k1,h2⟩,ed k2 h3 λ b hb cz=>h.iV (k3 b hb) (h4 b cz) (λ x hx y hy=>n3 x hx y hy),λ b hb=>?_⟩;rcases b3y.1 hb with hb|hb
   .exact (k3 b hb).mono λ k hk=>by simp[hk]
   .exact (h4 b hb).mono λ k hk=>by simp[hk]
 | [],_::_,_,_,hr,_=>by cases hr
 | _::_,[],_,_,hr,_=>by cases hr
theorem Zi{w:World}:∀ {vs:List TV} {xs:List Value} {fp:List Nat},Od w vs xs fp->tY w vs (if h:xs.toArray.size=1 then xs.toArray[0] else .tuple xs.toArray) fp
 | [],[],fp,h=>⟨[],by simp,h⟩
 | [v],[x],fp,h=>by
  obtain⟨f1,f2,rfl,h1,h2⟩:=h;have h2:f2=[]:=h2;subst h2;simpa [tY] using h1
 | v::u::r,x::y::z,fp,h=>⟨x::y::z,by simp,h⟩
 | [],_::_,_,h=>h.elim
 | _::_,[],_,h=>h.elim
 | [_],_::_::_,_,h=>by obtain⟨_,_,_,_,h⟩:=h;exact h.elim
 | _::_::_,[_],_,h=>by obtain⟨_,_,_,_,h⟩:=h;exact h.elim
theorem jB:∀ {us:List TV} {id:Nat} {p:Nat×aA},p∈bZ id us->id<=p.1/\p.1<id+us.length
 | [],id,p,h=>by cases h
 | u::us,id,p,h=>by
  rcases b3y.1 h with h|h
  .have:=S3 h;simp only[b3G];omega
  .have:=jB h;simp only[b3G];omega
theorem qD:∀ {us:List TV} {id:Nat},((bZ id us).map (·.1)).Nodup
 | [],id=>b4I
 | u::us,id=>by
  simp only[bZ,b5n];refine ed ?_ qD λ x hx Dm=>?_
  .obtain⟨τ,y⟩:=u;cases τ<;>simp[fI]
  .obtain⟨p,hp,rfl⟩:=b3E.1 hx;obtain⟨q,hq,e⟩:=b3E.1 Dm;have h1:=S3 hp;have h2:=jB hq;omega
theorem a5h(v:TV):v.cells.length<=100:=by
 obtain⟨τ,y⟩:=v;cases τ with
 | st s =>
  show (s.cells y).length<=100;rw[aQ.iS];exact Ty.size_le (.st s)
 | _=>exact Nat.succ_le_of_lt (Nat.zero_lt_of_lt (by decide:0<100))
theorem Ck{c:Ctx}{a:Act}{w:World}{S:Nat->Prop}(hR:∀ j,c.R j=none):∀ {Z9:List Arg} {xs:List Value} {fp:List Nat} {p:Nat} {G:Gh} {s:ai},Inv c G s a w->tX P w S Z9 xs fp->fp.Nodup->Fr c G s.ah w fp ->
  (∀ i x,xs[i]?=some x->a.tmps.getD (p+i) undef=x)->p+Z9.length<=s.aC.length->(∀ id o,s.ah id=some o->id<1000000+100 * p)->∃ G',Inv c G' (sC p Z9 s) a w
 | [],xs,fp,p,G,s,h,_,_,_,_,_,_=>⟨G,h⟩
 | b::Z9,[],fp,p,G,s,h,hA,_,_,_,_,_=>hA.elim
 | b::Z9,x::xs,fp,p,G,s,h,hA,cQ,hF,hx,hlen,aZ=>by
  obtain⟨f1,f2,rfl,hb,hA⟩:=hA;rw[b4a] at cQ;obtain⟨n1,n2,n3⟩:=cQ;simp only[b3G] at hlen;have Dm:∀ i y,xs[i]?=some y->a.tmps.getD (p+1+i) undef=y:=λ i y hi=>by
   have:=hx (i+1) y (by simpa using hi);rwa [show p+(i+1)=p+1+i by omega] at this
  have other:f1=[]->sC p (b::Z9) s=sC (p+1) Z9 s->∃ G',Inv c G' (sC p (b::Z9) s) a w:=λ hf e=>by
   subst hf;rw[e];exact Ck hR h hA n2 (λ q hq=>hF q (by simp[hq])) Dm (by omega) λ id o ho=>by have:=aZ id o ho;omega
  cases b with
  | own v =>
   have hO:Cr w v x f1:=hb;obtain⟨G1,DO,l1,i1,e1,t1,fr1⟩:=bu.Uu (id:=1000000+100 * p) h hO n1 (λ q hq=>hF q (by simp[hq]))
    (λ q hq=>by
     cases Iy:s.ah q.1 with
     | none=>rfl
     | some o=>have h1:=aZ _ o Iy;have h2:=jB hq;omega) qD (λ j _=>hR j)
   have cr:ai.ah { aC:=s.aC.set p (eZ (1000000+100 * p) v),aK:=bZ (1000000+100 * p) v.cells++s.aK }=DO:=by
    funext i;rw[l1 i];exact pq _ _ i
   have hI:Inv c G1 { aC:=s.aC.set p (eZ (1000000+100 * p) v),aK:=bZ (1000000+100 * p) v.cells++s.aK } a w:=by
    unfold Inv;rw[cr,show ai.sl { aC:=s.aC.set p (eZ (1000000+100 * p) v),aK:=bZ (1000000+100 * p) v.cells++s.aK }=jP s.aC.length s.sl (some p) (eZ (1000000+100 * p) v) from qG s.aC p _ _,
     show ({ aC:=s.aC.set p (eZ (1000000+100 * p) v),aK:=bZ (1000000+100 * p) v.cells++s.aK }:ai).aC.length=s.aC.length from by simp]
    exact { i1 with
     aC:=λ i=>by
      unfold jP;split
      .rename_i hi;obtain⟨e,_⟩:=hi;simp only[b3t] at e;subst e;rw[show a.tmps.getD p undef=x from hx 0 x rfl];exact t1.fT
      .exact i1.aC i }
   obtain⟨G2,h2⟩:=Ck hR hI hA n2 (by
    rw[cr];exact fr1 f2 (λ q hq=>hF q (by simp[hq])) λ q hq X1=>n3 q X1 q hq rfl) Dm (by simp;omega) (λ id o ho=>by
     rw[cr,l1 id] at ho;unfold gw at ho;split at ho
     .rename_i o' cO;have h1:=jB (fB cO);have h2:=a5h v;simp only at h1;omega
     .have:=aZ id o ho;omega)
   exact⟨G2,h2⟩
  | val v=>exact other hb.1 rfl
  | ref v=>exact other hb.1 rfl
  | fn v=>exact other hb.1 rfl
  | c9 v=>exact other hb.1 rfl
  | box k=>exact other hb.1 rfl
theorem tX.dH{w:World}{S:Nat->Prop}:∀ {Z9:List Arg} {xs:List Value} {fp:List Nat},tX P w S Z9 xs fp->aT (a6d P w S) Z9 xs
 | [],[],_,_=>trivial
 | a::Z9,x::xs,_,h=>by
  obtain⟨f1,f2,_,h1,h2⟩:=h;refine⟨?_,tX.dH h2⟩;cases a with
  | own v=>trivial
  | box k=>exact h1.2.elim
  | _=>exact h1.2
 | [],_::_,_,h=>h.elim
 | _::_,[],_,h=>h.elim
theorem a2o{w:World}{S:Nat->Prop}(hS:ua w S){fn:Func}{args:List Arg}{cA:List Value}{fa:List Nat}(ha:tX P w S args cA fa)(SU:fa=[]\/∀ a∈args,a.NW=true)(cQ:fa.Nodup)(E1:∀ b∈fa,b<w.heap.size/\¬ S b) :
  ∃ G,Inv ⟨P,E,w,λ b=>b∈fa,S,λ _=>none,λ _=>False,λ _=>none⟩ G (UN fn args) { tmps:=cA.toArray++Array.replicate (fn.ntmps - cA.toArray.size) undef,defers:=[] } w:=by
 have h0:=Ta (P:=P) (E:=E) (fn:=fn) hS (X:=λ b=>b∈fa) E1 ha.dH (SU.imp_left λ e b hb=>by rw[e] at hb;cases hb);have hlen:=ha.dH.length;refine Ck (S:=S) (λ _=>rfl) h0 ha cQ (λ b hb=>⟨.inr hb,(E1 b hb).2,(E1 b hb).1,λ i o h=>(by cases h),λ j τ xs h=>by cases h⟩) (λ i x hi=>?_) (by simp[dP]<;>omega) (λ id o h=>by cases h);rw[Nat.zero_add,Array.getD_eq_getD_getElem?,Array.getElem?_append_left (by simpa using (List.getElem?_eq_some_iff.1 hi).1)];simp[hi]
theorem XO(hE:bE P E)(hU:P.follows .mixedOrders=true){f:FuncId}{fn:Func}{dI:Code}(hf:P.funcs[f]?=some fn)(hb:fn.body=some dI)(Λ:Nat->az){args:List Arg}{res:List TV}{post:List TV->Prop}(V8:∀ vs,post vs->vs=res)
  (h:s5 E dI Λ 0 (Jx E fn post) (UN fn args)):rm P f args res:=by
 intro w S cA fa hS ha SU nF E1;refine b7e hf hb ?_;obtain⟨G0,hinv⟩:=a2o (P:=P) (E:=E) (fn:=fn) hS ha SU nF E1;refine b6E (fZ (c:=⟨P,E,w,λ b=>b∈fa,S,λ _=>none,λ _=>False,λ _=>none⟩) hE hU dI Λ 0 _ _ _ _ w hinv h) ?_;have fin:∀ (e:Exit) (a:Act) (w':World),(e = .normal\/e = .ret)->(∃ G s,Inv ⟨P,E,w,λ b=>b∈fa,S,λ _=>none,λ _=>False,λ _=>none⟩ G s a w'/\Jx E fn post e s) ->
   a.defers=[]/\∃ v,(results fn a.tmps).run P w' = .ok v w'/\∃ x fp,Ending.returned v = .returned x/\bC (λ b=>b∈fa) w w'/\tY w' res x fp/\fp.Nodup/\∀ b∈fp,b∈fa\/(w.heap.size<=b/\b<w'.heap.size):=by
  rintro e a w' he ⟨G,s,hI,hp⟩;have V7:∃ vs ids,tU E s fn.results.toList fn.resultTypes.toList=some (vs,ids)/\ids.Nodup/\vs=res:=by
   rcases he with rfl|rfl <;>
   .simp only[Jx] at hp;split at hp
    .rename_i vs ids B0;split at hp
     .rename_i hn;exact⟨vs,ids,B0,cW hn,V8 vs hp⟩
     .exact hp.elim
    .exact hp.elim
  obtain⟨vs,ids,B0,hn,rfl⟩:=V7;obtain⟨xs,fp,h1,h2,h3,h4⟩:=Fy (P:=P) (E:=E) (c:=⟨P,E,w,λ b=>b∈fa,S,λ _=>none,λ _=>False,λ _=>none⟩) hE rfl rfl hI B0 hn;refine⟨hI.defers,(if h:xs.toArray.size=1 then xs.toArray[0] else .tuple xs.toArray),?_,_,fp,rfl,hI.aS,Zi h2,h3,λ b hb=>?_⟩
  .rw[tR,b5C];simp only[b4c,b7f,h1];rfl
  .obtain⟨id,hi,hq⟩:=h4 b hb;rcases hq with ⟨τ,ys,q1,q2⟩|⟨e',τ,ys,q1,q2⟩
   .obtain⟨p1,_,p3,_⟩:=hI.aR.pl id τ ys b q1 q2;exact p1.elim (λ q => .inr ⟨q,p3⟩) .inl
   .obtain⟨p1,_,p3⟩:=hI.place id _ b q1 q2;exact p1.elim (λ q => .inr ⟨q,p3⟩) .inl
 intro e a w' hq;cases e with
 | normal=>exact fin .normal a w' (.inl rfl) hq
 | ret=>exact fin .ret a w' (.inr rfl) hq
 | exit i=>obtain⟨_,_,_,hp⟩:=hq;exact hp.elim
 | goto l=>obtain⟨_,_,_,hp⟩:=hq;exact hp.elim
 | panic ch=>obtain⟨_,_,_,hp⟩:=hq;exact hp.elim
 | outgrown=>obtain⟨_,_,_,hp⟩:=hq;exact hp.elim
theorem C1.reR{c:Ctx}{G:Gh}{lk:Nat->Option aA}{w:World}{v:AV}{x:Value}(h:C1 c G lk w v x)(R:Nat->Option Value):C1 { c with R:=R } G lk w v x:=by
 cases v<;>exact h
theorem TR.reR{c:Ctx}{G:Gh}{lk:Nat->Option aA}{w:World}{v:AV}{x:Value}(h:TR c G lk w v x)(R:Nat->Option Value):TR { c with R:=R } G lk w v x:=by
 cases v with
 | agg cs =>
  obtain⟨l,h1,h2⟩:=h;exact⟨l,h1,h2.imp λ u y _ hy=>hy.reR R⟩
 | aw i=>exact C1.reR (c:=c) (w:=w) (v := .aw i) h R
 | cZ v=>exact C1.reR (c:=c) (w:=w) (lk:=lk) (v := .cZ v) h R
 | _=>exact h
def iX(fn:Func)(v:TV)(k:Int):ai:={ aC:=eZ 50 v :: .aF ⟨.int .i64,k⟩::List.replicate (fn.ntmps - 2) .any,aK:=bZ 50 v.cells }
def DV(fn:Func)(m:Cp)(x:m.τ.den)(k:Int)(e:Exit)(s:ai):Prop :=
 match e with
 | .ret | .normal=>match fn.results.toList with
  | [.tmp t]=>match s.eval (.tmp t),qH s.ah m.τ (eZ 50 ⟨m.τ,x⟩) with
   | .aF ⟨.int .i64,n⟩,some (x',ids)=>match nodupB ids&&ids.all λ id=>cx (s.ah id) with
    | true=>n=(m.g x k).2.2/\x'=(m.g x k).2.1
    | false=>False
   | _,_=>False
  | _=>False
 | _=>False
theorem O2{c c0:Ctx}{G G0:Gh}{lk lk0:Nat->Option aA}{w w':World}(Wb:∀ j v,cx (lk0 j)=true->(∃ l,G0.η j = .tuple (v::l).toArray)->50<=j->cx (lk j)=true->∃ l,G.η j = .tuple (v::l).toArray) :
  ∀ {us:List TV} {id:Nat} {ts:List Ty} {us':List TV} {ids:List Nat} {l:List Value},50<=id->(∀ u∈us,u.τ.agg=false)->aT (C1 c0 G0 lk0 w) (ca id us) l->sR lk (ca id us) ts=some (us',ids)->aT (C1 c G lk w') (ca id us) l
 | [],id,ts,us',ids,l,_,_,h,_=>by
  match l,h with
  | [],_=>trivial
 | u::us,id,ts,us',ids,l,aZ,hu,h,ht=>by
  match l,h,ts,ht with
  | v::l,h,t::ts,ht =>
   simp only[ca,sR] at ht;split at ht;case h_2=>cases ht
   case h_1 x i hx =>
   split at ht;case h_2=>cases ht
   case h_1 r j hr =>
   refine⟨?_,O2 Wb (by omega) (λ u hu'=>hu u (by simp[hu'])) h.2 hr⟩;have h1:=h.1;obtain⟨τ,y⟩:=u;cases τ with
   | slice t' =>
    obtain⟨q1,q2,q3,q4⟩:=h1;have hT:cx (lk id)=true:=by
     simp only[iN,dY] at hx;split at hx
     .rename_i hl;rw[hl];rfl
     .cases hx
    obtain⟨l',nP⟩:=Wb id v q1 ⟨q2,q3⟩ aZ hT;exact⟨hT,l',nP,q4⟩
   | st s=>exact absurd (hu ⟨.st s,y⟩ (by simp)) (by simp[Ty.agg])
   | mv t'=>exact trivial
   | ptr=>exact⟨rfl,h1.2⟩
   | int k=>exact⟨rfl,h1.2⟩
   | bool=>exact⟨rfl,h1.2⟩
   | str=>exact⟨rfl,h1.2⟩
theorem VJ(hE:bE P E)(hU:P.follows .mixedOrders=true){f:FuncId}{fn:Func}{dI:Code}(hf:P.funcs[f]?=some fn)(hb:fn.body=some dI){m:Cp}(Λ:m.τ.den->Int->Nat->az)
  (EY:∀ x:m.τ.den,(TV.cells ⟨m.τ,x⟩).length<=50) (hn:2<=fn.ntmps) (h:∀ (x:m.τ.den) (k:Int),(m.g x k).1.ok->O k->s5 E dI (Λ x k) 0 (DV fn m x k) (iX fn ⟨m.τ,x⟩ k)):JN P f m:=by
 intro x k w v fp yn hk hG hO cQ bK;refine b7e hf hb ?_;have h0:bu ⟨P,E,w,λ b=>b∈fp,λ b=>b<w.heap.size/\b∉fp,λ _=>none,λ _=>False,λ _=>none⟩ ⟨λ b=>b<w.heap.size/\b∉fp,λ _=>undef,λ _=>[]⟩ (λ _ => .any) (iX fn ⟨m.τ,x⟩ k).aC.length (λ _=>none) { tmps := #[v, .int .i64 k]++Array.replicate (fn.ntmps - 2) undef,defers:=[] } w:={
  defers:=rfl
  size:=by simp[iX];omega
  aS:=bC.refl _ _
  jE:=⟨bK,λ g hg=>⟨(hG g hg).1,(hG g hg).1.2,(hG g hg).1.1,(hG g hg).2⟩⟩
  ez:=λ b _ _=>b5z
  sX:=λ b h=>h
  dE:=λ b h=>h.1
  aC:=λ _=>trivial
  aK:=λ id o h=>by cases h
  place:=λ id o b h=>by cases h
  apart:=λ id dx o o' b h=>by cases h
  aR:=⟨(λ id τ xs h=>by cases h),(λ id τ xs h=>by cases h),(λ id τ xs b h=>by cases h),(λ id dx τ bf xs cR b h=>by cases h)⟩
  root:=λ id v h=>by cases h
  iO:=λ id v h=>by cases h
  du:=λ id v h=>by cases h
  fc:=λ id v h=>by cases h }
 obtain⟨G1,DO,l1,i1,e1,t1,_⟩:=h0.Uu (id:=50) hO cQ (λ b hb=>⟨.inr hb,λ h=>h.2 hb,bK b hb,λ i o h=>(by cases h),λ j τ xs h=>by cases h⟩) (λ _ _=>rfl) qD (λ _ _=>rfl);have Y2:(iX fn ⟨m.τ,x⟩ k).ah=DO:=by
  funext i;rw[l1 i];unfold gw iX ai.ah;cases ah (bZ 50 (TV.cells ⟨m.τ,x⟩)) i<;>rfl
 let R:Nat->Option Value:=λ id=>match cx (DO id),G1.η id with
  | true, .tuple arr=>arr[0]?
  | _,_=>none
 have hR:∀ id v',R id=some v'->cx (DO id)=true/\∃ l,G1.η id = .tuple (v'::l).toArray:=by
  intro id v' hr;simp only[R] at hr;split at hr
  .rename_i arr ht eu;refine⟨ht,?_⟩;rw[eu];have hl:arr.toList[0]?=some v':=by simpa using hr
   match hq:arr.toList,hl with
   | a0::l,hl =>
    simp at hl;subst hl;exact⟨l,by rw[<-hq]⟩
  .cases hr
 have hinv:Inv ⟨P,E,w,λ b=>b∈fp,λ b=>b<w.heap.size/\b∉fp,R,λ _=>False,λ _=>none⟩ G1 (iX fn ⟨m.τ,x⟩ k) { tmps := #[v, .int .i64 k]++Array.replicate (fn.ntmps - 2) undef,defers:=[] } w:=by
  unfold Inv;rw[Y2];exact {
   defers:=i1.defers,size:=i1.size,aS:=i1.aS,jE:=i1.jE,ez:=i1.ez,sX:=i1.sX,dE:=i1.dE
   aC:=λ i=>by
    match i with
    | 0 =>
     have e:(#[v,Value.int .i64 k]++Array.replicate (fn.ntmps - 2) undef).getD 0 undef=v:=by
      rw[b4s,b6N (by simp)];rfl
     show VR _ _ _ _ (eZ 50 ⟨m.τ,x⟩) ((#[v,Value.int .i64 k]++Array.replicate (fn.ntmps - 2) undef).getD 0 undef);rw[e];exact (t1.reR R).fT
    | 1 =>
     have e:(#[v,Value.int .i64 k]++Array.replicate (fn.ntmps - 2) undef).getD 1 undef = .int .i64 k:=by
      rw[b4s,b6N (by simp)];rfl
     show VR _ _ _ _ (.aF ⟨.int .i64,k⟩) ((#[v,Value.int .i64 k]++Array.replicate (fn.ntmps - 2) undef).getD 1 undef);rw[e];exact Qq hk
    | i+2 =>
     have:(iX fn ⟨m.τ,x⟩ k).sl (i+2) = .any:=by
      simp only[ai.sl,iX,List.getD_cons_succ];rw[b3N,List.getElem?_replicate];split<;>rfl
     rw[this];trivial
   aK:=i1.aK,place:=i1.place,apart:=i1.apart
   aR:=⟨i1.aR.tr,i1.aR.nd,i1.aR.pl,i1.aR.ap⟩
   root:=λ id v' hr ht=>(hR id v' hr).2
   du:=λ id b hr=>by cases hr
   fc:=λ id b hr=>by cases hr
   iO:=λ id v' hr=>by
    obtain⟨ht,_⟩:=hR id v' hr;rw[l1 id] at ht;unfold gw at ht;split at ht
    .rename_i o ho;have:=jB (fB ho);have:=EY x;simp only at *
     omega
    .cases ht }
 refine b6E (fZ (c:=⟨P,E,w,λ b=>b∈fp,λ b=>b<w.heap.size/\b∉fp,R,λ _=>False,λ _=>none⟩) hE hU dI (Λ x k) 0 _ _ _ _ w hinv (h x k yn hk)) ?_;have fin:∀ (e:Exit) (a:Act) (w':World),(e = .normal\/e = .ret)->(∃ G s,Inv ⟨P,E,w,λ b=>b∈fp,λ b=>b<w.heap.size/\b∉fp,R,λ _=>False,λ _=>none⟩ G s a w'/\DV fn m x k e s) ->
   a.defers=[]/\∃ u,(results fn a.tmps).run P w' = .ok u w'/\Ending.returned u = .returned (.int .i64 (m.g x k).2.2)/\O (m.g x k).2.2/\bC (λ b=>b∈fp) w w'/\∃ wP,Cr w' ⟨m.τ,(m.g x k).2.1⟩ v wP/\wP.Nodup/\∀ b∈wP,b∈fp\/(w.heap.size<=b/\b<w'.heap.size):=by
  rintro e a w' he ⟨G,s,hI,hp⟩;have V7:∃ t n x' ids,fn.results.toList=[.tmp t]/\s.eval (.tmp t) = .aF ⟨.int .i64,n⟩/\qH s.ah m.τ (eZ 50 ⟨m.τ,x⟩)=some (x',ids)/\ids.Nodup/\(∀ id∈ids,cx (s.ah id)=true)/\n=(m.g x k).2.2/\x'=(m.g x k).2.1:=by
   rcases he with rfl|rfl <;>
   .simp only[DV] at hp;split at hp
    .rename_i t ht;split at hp
     .rename_i n x' ids h1 h2;split at hp
      .rename_i hb;simp only[b3A,b4r] at hb;exact⟨t,n,x',ids,ht,h1,h2,cW hb.1,hb.2,hp⟩
      .exact hp.elim
     .exact hp.elim
    .exact hp.elim
  obtain⟨t,n,x',ids,r1,r2,r3,r4,r5,rfl,rfl⟩:=V7;have cU:=br hI (.tmp t);rw[r2] at cU;obtain⟨q1,q2⟩:=a0g cU;have Wb:∀ j v',cx (DO j)=true->(∃ l,G1.η j = .tuple (v'::l).toArray)->50<=j->cx (s.ah j)=true->∃ l,G.η j = .tuple (v'::l).toArray:=by
   rintro j v' ht ⟨l,hl⟩ _ TC;exact hI.root j v' (by simp only[R,ht,hl];rfl) TC
  have TD:VR ⟨P,E,w,λ b=>b∈fp,λ b=>b<w.heap.size/\b∉fp,R,λ _=>False,λ _=>none⟩ G s.ah w' (eZ 50 ⟨m.τ,x⟩) v:=by
   obtain⟨Lj,g⟩:=m;cases Lj with
   | st st =>
    obtain⟨l,hl,hc⟩:=t1;refine⟨l,hl,?_⟩;simp only[eZ,qH] at r3;split at r3;case h_2=>cases r3
    case h_1 us i hus =>
    exact O2 Wb (b4h _) (L1 st x) hc hus
   | mv t'=>exact trivial
   | slice t' =>
    obtain⟨q1,q2,q3,q4⟩:=t1;have hT:cx (s.ah 50)=true:=by
     simp only[eZ,iN,qH,dY] at r3;split at r3
     .rename_i hl;rw[hl];rfl
     .cases r3
    obtain⟨l',nP⟩:=Wb 50 v q1 ⟨q2,q3⟩ (b4h _) hT;exact⟨hT,l',nP,q4⟩
   | ptr=>exact t1
   | int k=>exact t1
   | bool=>exact t1
   | str=>exact t1
  obtain⟨wP,o1,o2,o3⟩:=mj hI r3 TD r4;have Y5:(results fn a.tmps).run P w' = .ok (a.tmps.getD t undef) w':=by
   rw[tR,b5C,r1];simp[mZ]
  refine⟨hI.defers,_,Y5,by rw[show a.tmps.getD t undef=_ from q1],q2,hI.aS,wP,o1,o2,λ b hb=>?_⟩;obtain⟨id,hi,hq⟩:=o3 b hb;rcases hq with ⟨τ,ys,q1,q2⟩|⟨e',τ,ys,q1,q2⟩
  .obtain⟨p1,_,p3,_⟩:=hI.aR.pl id τ ys b q1 q2;exact p1.elim (λ q => .inr ⟨q,p3⟩) .inl
  .have:=r5 id hi;rw[q1] at this;cases this
 intro e a w' hq;cases e with
 | normal=>exact fin .normal a w' (.inl rfl) hq
 | ret=>exact fin .ret a w' (.inr rfl) hq
 | exit i=>obtain⟨_,_,_,hp⟩:=hq;exact hp.elim
 | goto l=>obtain⟨_,_,_,hp⟩:=hq;exact hp.elim
 | panic ch=>obtain⟨_,_,_,hp⟩:=hq;exact hp.elim
 | outgrown=>obtain⟨_,_,_,hp⟩:=hq;exact hp.elim
end
def l6:List CK->List TV->Nat->List AV
 | .d _::ks,v::ds,n => .aF v::l6 ks ds n
 | .o _::ks,v::ds,n=>iN n v::l6 ks ds (n+1)
 | .p j::ks,ds,n => .ptr (400000+j) 0::l6 ks ds n
 | _,_,_=>[]
def l5:Nat->List (List CK)->List (List TV)->Nat->List (Nat×aA)
 | k,ks::sh,ds::bM,n=>(400000+k, .box (l6 ks ds n))::l5 (k+1) sh bM (n+(dD ks ds).length)
 | _,_,_,_=>[]
def ke:List (List CK)->List (List TV)->List TV
 | ks::sh,ds::bM=>dD ks ds++ke sh bM
 | _,_=>[]
def ZK:Arg->AV
 | .box k => .ptr (400000+k) 0
 | a=>U5 a
def ea(fn:Func)(args:List Arg)(sh:List (List CK))(bM:List (List TV)):ai :=
 { aC:=args.map ZK++List.replicate (fn.ntmps - args.length) .any,aK:=l5 0 sh bM 1000000++bZ 1000000 (ke sh bM) }
def idM(n:Nat):List (Nat×Nat):=(List.range n).map λ k=>(k,400000+k)
def J7(E:Env)(fn:Func)(sh:List (List CK))(post:List TV->List (List TV)->Prop)(e:Exit)(s:ai):Prop :=
 match e with
 | .ret | .normal=>match tU E s fn.results.toList fn.resultTypes.toList with
  | some (vs,ids)=>match iZ s.ah sh 0 (idM sh.length) with
   | some (bM,IB,m)=>match nodupB (ids++IB)&&Nat.beq m.length sh.length with
    | true=>post vs bM
    | false=>False
   | none=>False
  | none=>False
 | _=>False
theorem a5A:∀ (n:Nat) (k:Nat),ah (idM n) k=if k<n then some (400000+k) else none:=by
 intro n k;have key:∀ (l:List Nat),l.Nodup->ah (l.map λ k=>(k,400000+k)) k=if k∈l then some (400000+k) else none:=by
  intro l;induction l with
  | nil=>intro _;rfl
  | cons j l ih =>
   intro hn;simp only[b4n] at hn;rw[b4o,pr,ih hn.2];by_cases hk:k=j
   .subst hk;simp
   .simp[hk]
 rw[idM,key _ b6t];simp
section
variable {P:Program} {E:Env}
theorem YC{w:World}{S:Nat->Prop}{B:Nat->Nat}:∀ {sh:List (List CK)} {k:Nat} {bM:List (List TV)} {n:Nat} {fa:List Nat},fE w S B k sh bM fa ->
  ∃ xs,cT w ((ke sh bM).map TV.aP) xs fa/\(∀ u∈ke sh bM,u.τ.agg=false) /\
   ∀ p∈l5 k sh bM n,∃ j cs l t,p=(400000+j, .box cs)/\k<=j/\j<k+sh.length/\w.heap[B j]?=some (.cells l.toArray t (0,0))/\l.length=cs.length /\
    ∀ (c:Ctx) (G:Gh) (lk:Nat->Option aA) (N:Nat),(∀ b,S b->G.S b)->(∀ j,j<N->G.η (400000+j) = .pointer (some ⟨B j,0,none⟩)/\gf (lk (400000+j))=true)->(∀ ks∈sh,∀ j,CK.p j∈ks->j<N) ->
     aT (C1 c G lk w) (ca n (ke sh bM)) xs->aT (C1 c G lk w) cs l
 | [],k,[],n,fa,h=>⟨[],⟨rfl,h⟩,by simp[ke],by simp[l5]⟩
 | ks::sh,k,ds::bM,n,fa,h=>by
  obtain⟨l,t,f1,f2,rfl,hw,hB,hbs⟩:=h;obtain⟨xs,q1,q2,q3⟩:=YC (n:=n+(dD ks ds).length) hbs;obtain⟨o1,o2,o3⟩:=hB.wH;have hlen:∀ (us:List TV) (n:Nat),(ca n us).length=us.length:=λ us=>by
   induction us with
   | nil=>intro n;rfl
   | cons u us ih=>intro n;simp[ca,ih]
  have EZ:∀ {ks:List CK} {ds:List TV} {l:List Value} {fp:List Nat} {n:Nat},ja w S B ks ds l fp->l.length=(l6 ks ds n).length:=by
   intro ks;induction ks with
   | nil=>intro ds l fp n h;cases ds<;>cases l<;>first|rfl|cases h
   | cons k0 ks ih =>
    intro ds l fp n h;cases l with
    | nil=>cases k0<;>cases ds<;>cases h
    | cons x l =>
     cases k0 with
     | d τ =>
      cases ds with
      | nil=>cases h
      | cons v ds=>simp[l6,ih h.2 (n:=n)]
     | o τ =>
      cases ds with
      | nil=>cases h
      | cons v ds=>obtain⟨_,_,_,_,h2⟩:=h;simp[l6,ih h2 (n:=n+1)]
     | p j =>
      have h:x = .pointer (some ⟨B j,0,none⟩)/\ja w S B ks ds l fp:=by cases ds<;>exact h
      simp[l6,ih h.2 (n:=n)]
  have Rj:∀ (c:Ctx) (G:Gh) (lk:Nat->Option aA) (N:Nat),(∀ b,S b->G.S b)->(∀ j,j<N->G.η (400000+j) = .pointer (some ⟨B j,0,none⟩)/\gf (lk (400000+j))=true) ->
    ∀ {ks:List CK} {ds:List TV} {l:List Value} {fp:List Nat} {n:Nat},ja w S B ks ds l fp->(∀ j,CK.p j∈ks->j<N)->aT (C1 c G lk w) (ca n (dD ks ds)) (kY ks l)->aT (C1 c G lk w) (l6 ks ds n) l:=by
   intro c G lk N hS hN ks;induction ks with
   | nil=>intro ds l fp n h _ _;cases ds<;>cases l<;>first|exact trivial|cases h
   | cons k0 ks ih =>
    intro ds l fp n h hp hc;cases l with
    | nil=>cases k0<;>cases ds<;>cases h
    | cons x l =>
     cases k0 with
     | d τ =>
      cases ds with
      | nil=>cases h
      | cons v ds =>
       obtain⟨⟨e,h1,h2⟩,h3⟩:=h;exact⟨⟨by rw[e];exact h1,Rd.aS hS (λ _ _=>rfl) _ h2⟩,ih h3 (λ j hj=>hp j (by simp[hj])) hc⟩
     | o τ =>
      cases ds with
      | nil=>cases h
      | cons v ds =>
       obtain⟨_,_,_,_,h2⟩:=h;exact⟨hc.1,ih h2 (λ j hj=>hp j (by simp[hj])) hc.2⟩
     | p j =>
      have h:x = .pointer (some ⟨B j,0,none⟩)/\ja w S B ks ds l fp:=by cases ds<;>exact h
      have hc:aT (C1 c G lk w) (ca n (dD ks ds)) (kY ks l):=by cases ds<;>exact hc
      obtain⟨g1,g2⟩:=hN j (hp j (by simp));have r:=ih h.2 (λ j hj=>hp j (by simp[hj])) hc;show aT _ (AV.ptr (400000+j) 0::l6 ks ds n) (x::l);exact⟨⟨B j,g1,h.1,g2⟩,r⟩
  refine⟨kY ks l++xs,by rw[ke,b5n];exact o1.append q1,λ u hu=>(b3y.1 hu).elim (o2 u) (q2 u),λ p hp=>?_⟩;have AI:∀ {c:Ctx} {G':Gh} {lk':Nat->Option aA},aT (C1 c G' lk' w) (ca n (ke (ks::sh) (ds::bM))) (kY ks l++xs)->aT (C1 c G' lk' w) (ca n (dD ks ds)) (kY ks l)/\aT (C1 c G' lk' w) (ca (n+(dD ks ds).length) (ke sh bM)) xs:=λ {c G' lk'} q=>by
   rw[ke,sy] at q;have hl:(ca n (dD ks ds)).length=(kY ks l).length:=by rw[<-o3];exact hlen _ _
   have h1:=q.take (ca n (dD ks ds)).length;have h2:=q.drop (ca n (dD ks ds)).length;rw[b5G,hl,b5G] at h1;rw[b5M,hl,b5M] at h2;exact⟨h1,h2⟩
  rcases b3S.1 hp with rfl|hp
  .exact⟨k,l6 ks ds n,l,t,rfl,b4h _,by simp,hw,EZ hB,λ c G lk N h1 h2 h3 h4=>Rj c G lk N h1 h2 hB (h3 ks (by simp)) (AI h4).1⟩
  .obtain⟨j,cs,l',t',g1,g2,g3,g4,g5,g6⟩:=q3 p hp;exact⟨j,cs,l',t',g1,by omega,by simp;omega,g4,g5,λ c G lk N h1 h2 h3 h4=>g6 c G lk N h1 h2 (λ ks' hk=>h3 ks' (by simp[hk])) (AI h4).2⟩
 | [],_,_::_,_,_,h=>h.elim
 | _::_,_,[],_,_,h=>h.elim
def Xp(sh:List (List CK)):Bool:=Nat.blt sh.length 1000&&sh.all λ ks=>ks.all λ c=>match c with
 | .p j=>Nat.blt j sh.length
 | _=>true
theorem Xq{sh:List (List CK)}(h:Xp sh=true):∀ ks∈sh,∀ j,CK.p j∈ks->j<sh.length:=λ ks hk j hj=>by
 unfold Xp at h;rw[Bool.and_eq_true] at h;obtain⟨_,h⟩:=h;rw[List.all_eq_true] at h;have h2:=h ks hk;rw[List.all_eq_true] at h2;exact Nat.le_of_ble_eq_true (h2 _ hj)
theorem ja.congr{w:World}{S:Nat->Prop}{B B':Nat->Nat}{N:Nat}(hB:∀ j,j<N->B j=B' j):∀ {ks:List CK} {ds:List TV} {l:List Value} {fp:List Nat},(∀ j,CK.p j∈ks->j<N)->ja w S B ks ds l fp->ja w S B' ks ds l fp:=by
 intro ks;induction ks with
 | nil=>intro ds l fp _ h;cases ds<;>cases l<;>exact h
 | cons k0 ks ih =>
  intro ds l fp hp h;cases l with
  | nil=>cases k0<;>cases ds<;>cases h
  | cons x l =>
   cases k0 with
   | d τ =>
    cases ds with
    | nil=>cases h
    | cons v ds=>exact⟨h.1,ih (λ j hj=>hp j (by simp[hj])) h.2⟩
   | o τ =>
    cases ds with
    | nil=>cases h
    | cons v ds =>
     obtain⟨f1,f2,e,h1,h2⟩:=h;exact⟨f1,f2,e,h1,ih (λ j hj=>hp j (by simp[hj])) h2⟩
   | p j =>
    have h:x = .pointer (some ⟨B j,0,none⟩)/\ja w S B ks ds l fp:=by cases ds<;>exact h
    have r:=ih (λ j hj=>hp j (by simp[hj])) h.2;have e:x = .pointer (some ⟨B' j,0,none⟩):=by rw[h.1,hB j (hp j (by simp))]
    cases ds<;>exact⟨e,r⟩
theorem fE.congr{w:World}{S:Nat->Prop}{B B':Nat->Nat}{N:Nat}(hB:∀ j,j<N->B j=B' j):∀ {sh:List (List CK)} {k:Nat} {bM:List (List TV)} {fa:List Nat},k+sh.length<=N->(∀ ks∈sh,∀ j,CK.p j∈ks->j<N)->fE w S B k sh bM fa->fE w S B' k sh bM fa
 | [],k,bM,fa,_,_,h=>by cases bM<;>exact h
 | ks::sh,k,[],fa,_,_,h=>h.elim
 | ks::sh,k,ds::bM,fa,hk,hp,h=>by
  obtain⟨l,t,f1,f2,e,h1,h2,h3⟩:=h;simp only[b3G] at hk;exact⟨l,t,f1,f2,e,by rw[<-hB k (by omega)];exact h1,h2.congr hB (hp ks (by simp)),fE.congr hB (by omega) (λ ks' lF=>hp ks' (by simp[lF])) h3⟩
theorem LA:∀ {sh:List (List CK)} {k:Nat} {bM:List (List TV)} {n:Nat} {j:Nat},sh.length=bM.length->k<=j->j<k+sh.length->∃ cs,ah (l5 k sh bM n) (400000+j)=some (.box cs)
 | [],k,bM,n,j,_,h1,h2=>by simp at h2;omega
 | ks::sh,k,[],n,j,hl,_,_=>by simp at hl
 | ks::sh,k,ds::bM,n,j,hl,h1,h2=>by
  rw[l5,pr];by_cases hj:j=k
  .subst hj;exact⟨_,b4d rfl⟩
  .rw[if_neg (by omega)];exact LA (by simpa using hl) (by omega) (by simp at h2;omega)
theorem fE.len{w:World}{S:Nat->Prop}{B:Nat->Nat}:∀ {sh:List (List CK)} {k:Nat} {bM:List (List TV)} {fa:List Nat},fE w S B k sh bM fa->sh.length=bM.length
 | [],_,[],_,_=>rfl
 | [],_,_::_,_,h=>h.elim
 | _::_,_,[],_,h=>h.elim
 | ks::sh,k,ds::bM,fa,h=>by
  obtain⟨l,t,f1,f2,e,h1,h2,h3⟩:=h;simp[fE.len h3]
theorem a0F{w:World}{S:Nat->Prop}{B:Nat->Nat}{fn:Func}{args:List Arg}{cA:List Value}{sh:List (List CK)}{bM:List (List TV)}{fa:List Nat}(Hm:Xp sh=true)(hS:ua w S)(VQ:fE w S B 0 sh bM fa)(SP:fa.Nodup)
  (E1:∀ b∈fa,b<w.heap.size/\¬ S b/\∀ k,k<sh.length->B k≠b) (hB:∀ k,k<sh.length->B k<w.heap.size/\¬ S (B k)) (FZ:∀ j k,j<sh.length->k<sh.length->B j=B k->j=k) (ha:aT (Yr P w S (BX sh.length B fa) B) args cA)
  (Ri:∀ k,Arg.box k∈args->k<sh.length) :
  ∃ G,Inv ⟨P,E,w,BX sh.length B fa,S,λ _=>none,λ _=>False,λ id=>if 400000<=id/\id<400000+sh.length then some (B (id - 400000)) else none⟩ G (ea fn args sh bM) { tmps:=cA.toArray++Array.replicate (fn.ntmps - cA.toArray.size) undef,defers:=[] } w:=by
 have hlen:=ha.length;let c1:Ctx:=⟨P,E,w,λ b=>b∈fa,S,λ _=>none,λ _=>False,λ _=>none⟩;have h0:bu c1 ⟨S,λ _=>undef,λ _=>[]⟩ (λ _ => .any) (ea fn args sh bM).aC.length (λ _=>none) { tmps:=cA.toArray++Array.replicate (fn.ntmps - cA.toArray.size) undef,defers:=[] } w:={
  defers:=rfl
  size:=by simp[ea,hlen]
  aS:=bC.refl _ _
  jE:=⟨λ b h=>(E1 b h).1,λ g hg=>⟨(hS.2 g hg).1,λ q=>(E1 g q).2.1 (hS.2 g hg).1,hS.1 g (hS.2 g hg).1,(hS.2 g hg).2⟩⟩
  ez:=λ b _ _=>b5z
  sX:=λ b hs=>hs
  dE:=hS.1
  aC:=λ i=>trivial
  aK:=λ id o h=>by cases h
  place:=λ id o b h=>by cases h
  apart:=λ id dx o o' b h=>by cases h
  aR:=⟨(λ id τ xs h=>by cases h),(λ id τ xs h=>by cases h),(λ id τ xs b h=>by cases h),(λ id dx τ bf xs cR b h=>by cases h)⟩
  root:=λ id v h=>by cases h
  iO:=λ id v h=>by cases h
  du:=λ id v h=>by cases h
  fc:=λ id v h=>by cases h }
 obtain⟨xs,o1,o2,o3⟩:=YC (n:=1000000) VQ;have b3s:sh.length<1000:=by
  unfold Xp at Hm;rw[Bool.and_eq_true] at Hm;exact Nat.le_of_ble_eq_true Hm.1
 have hFr:Fr c1 ⟨S,λ _=>undef,λ _=>[]⟩ (λ _=>none) w fa:=λ b hb=>⟨.inr hb,(E1 b hb).2.1,(E1 b hb).1,(λ i o h=>by cases h),(λ j τ xs h=>by cases h)⟩;obtain⟨G1,DO,k1,k2,k3,k4,_⟩:=h0.Ct (us:=ke sh bM) (cs:=xs) (id:=1000000) o2 o1 SP hFr (λ p hp=>rfl) qD (λ j _=>rfl);have Y2:∀ i o,DO i=some o->1000000<=i/\cx (some o)=true:=λ i o ho=>by
  rw[k1 i] at ho;unfold gw at ho;split at ho
  .rename_i o' cO;simp only[b3t] at ho;subst ho;refine⟨(jB (fB cO)).1,?_⟩;have:∀ {us:List TV} {id:Nat} {p:Nat×aA},p∈bZ id us->cx (some p.2)=true:=by
    intro us;induction us with
    | nil=>intro id p hp;cases hp
    | cons u us ih =>
     intro id p hp;rcases b3y.1 hp with hp|hp
     .obtain⟨τ,y⟩:=u;cases τ<;>simp[fI] at hp;subst hp;rfl
     .exact ih hp
   exact this (fB cO)
  .cases ho
 have a0b:∀ i o,DO i=some o->eb (G1.η i)=none:=λ i o ho=>by
  obtain⟨_,ht⟩:=Y2 i o ho;match o,ht with
  | .aw τ ys,_ =>
   obtain⟨v,l,_,_,q,_⟩:=k2.aR.tr i τ ys ho;rw[q];rfl
 let G2:Gh:=⟨S,λ i=>if 400000<=i/\i<400000+sh.length then .pointer (some ⟨B (i - 400000),0,none⟩) else G1.η i,G1.φ⟩;have Y7:∀ j,j<sh.length->G2.η (400000+j) = .pointer (some ⟨B j,0,none⟩):=λ j hj=>by
  show (if 400000<=400000+j/\400000+j<400000+sh.length then _ else _)=_;rw[b4d (by omega),b5Q]
 have Y6:∀ i,1000000<=i->G2.η i=G1.η i:=λ i hi=>b3H (by omega);have hGS:G1.S=S:=k3.S;have a3g:(ea fn args sh bM).ah=λ i=>match ah (l5 0 sh bM 1000000) i with
   | some o=>some o
   | none=>DO i:=by
  funext i;show ah (l5 0 sh bM 1000000++bZ 1000000 (ke sh bM)) i=_;rw[pq];unfold gw;cases ah (l5 0 sh bM 1000000) i with
  | some o=>rfl
  | none =>
   simp only;rw[k1 i];unfold gw;cases ah (bZ 1000000 (ke sh bM)) i<;>rfl
 have b1X:∀ j,j<sh.length->∃ cs,(ea fn args sh bM).ah (400000+j)=some (.box cs):=λ j hj=>by
  obtain⟨cs,q⟩:=LA (n:=1000000) VQ.len (Nat.zero_le j) (by simpa using hj);exact⟨cs,by rw[a3g];simp only[q]⟩
 have yj:∀ i o,(ea fn args sh bM).ah i=some o->(∃ j cs l t,i=400000+j/\j<sh.length/\o = .box cs/\w.heap[B j]?=some (.cells l.toArray t (0,0)) /\
   ∀ (c:Ctx) (G:Gh) (lk:Nat->Option aA),(∀ b,S b->G.S b)->(∀ j,j<sh.length->G.η (400000+j) = .pointer (some ⟨B j,0,none⟩)/\gf (lk (400000+j))=true)->aT (C1 c G lk w) (ca 1000000 (ke sh bM)) xs->aT (C1 c G lk w) cs l) \/
   (DO i=some o/\1000000<=i):=λ i o ho=>by
  rw[a3g] at ho;simp only at ho;cases hl:ah (l5 0 sh bM 1000000) i with
  | some o' =>
   rw[hl] at ho;simp only[Option.some.injEq] at ho;subst ho;obtain⟨j,cs,l,t,q1,_,q2,q3,_,q4⟩:=o3 _ (eV hl);simp only[Prod.mk.injEq] at q1;obtain⟨rfl,rfl⟩:=q1;exact .inl ⟨j,cs,l,t,rfl,by simpa using q2,rfl,q3,λ c G lk h1 h2 h3=>q4 c G lk sh.length h1 h2 (Xq Hm) h3⟩
  | none =>
   rw[hl] at ho;exact .inr ⟨ho,(Y2 i o ho).1⟩
 have eR:∀ i,eJ (DO i) ((ea fn args sh bM).ah i):=λ i=>by
  cases hl:DO i with
  | none=>exact⟨(λ q=>by cases q),(λ e τ xs q=>by cases q),(λ q=>by cases q),λ q=>by cases q⟩
  | some o =>
   have:=(Y2 i o hl).1;have hn:ah (l5 0 sh bM 1000000) i=none:=tI λ p hp e=>by
    obtain⟨j,cs,l,t,q1,_,q2,_⟩:=o3 p hp;rw[q1] at e;simp only at e;omega
   rw[a3g];simp only[hn,hl];exact eJ.refl _
 have EY:aT (C1 ⟨P,E,w,BX sh.length B fa,S,λ _=>none,λ _=>False,λ id=>if 400000<=id/\id<400000+sh.length then some (B (id - 400000)) else none⟩ G2 (ea fn args sh bM).ah w) (ca 1000000 (ke sh bM)) xs:=by
  have:∀ {us:List TV} {n:Nat} {xs:List Value},1000000<=n->aT (C1 c1 G1 DO w) (ca n us) xs->aT (C1 ⟨P,E,w,BX sh.length B fa,S,λ _=>none,λ _=>False,λ id=>if 400000<=id/\id<400000+sh.length then some (B (id - 400000)) else none⟩ G2 (ea fn args sh bM).ah w) (ca n us) xs:=by
   intro us;induction us with
   | nil=>intro n xs _ h;cases xs<;>exact h
   | cons u us ih =>
    intro n xs hn h;cases xs with
    | nil=>exact h.elim
    | cons x xs =>
     refine⟨?_,ih (by omega) h.2⟩;have h1:C1 c1 G1 DO w (iN n u) x:=h.1;obtain⟨τ,y⟩:=u;have aF:C1 c1 G1 DO w (.aF ⟨τ,y⟩) x->C1 ⟨P,E,w,BX sh.length B fa,S,λ _=>none,λ _=>False,λ id=>if 400000<=id/\id<400000+sh.length then some (B (id - 400000)) else none⟩ G2 (ea fn args sh bM).ah w (.aF ⟨τ,y⟩) x:=λ q=>⟨q.1,Rd.aS (λ b hb=>by rw[hGS] at hb;exact hb) (λ _ _=>rfl) _ q.2⟩;cases τ with
     | slice τ =>
      obtain⟨g1,l,g2,g3⟩:=h1;exact⟨(eR n).2.2.1 g1,l,by rw[Y6 n hn];exact g2,g3⟩
     | mv τ=>exact trivial
     | _=>exact aF h1
  exact this (b4h _) k4
 have hN:∀ j,j<sh.length->G2.η (400000+j) = .pointer (some ⟨B j,0,none⟩)/\gf ((ea fn args sh bM).ah (400000+j))=true:=λ j hj=>by
  obtain⟨cs,q⟩:=b1X j hj;exact⟨Y7 j hj,by rw[q];rfl⟩
 have Wd:∀ i τ xs,(ea fn args sh bM).ah i=some (.aw τ xs)->DO i=some (.aw τ xs)/\1000000<=i:=λ i τ ys hi=>by
  rcases yj i _ hi with ⟨_,_,_,_,_,_,q,_⟩|q
  .cases q
  .exact q
 refine⟨G2,?_⟩;exact {
  defers:=rfl
  size:=by simp[ea,hlen]
  aS:=bC.refl _ _
  jE:=⟨λ b hb=>hb.elim (λ q=>(E1 b q).1) λ ⟨k,hk,e⟩=>(by rw[e];exact (hB k hk).1),λ g hg=>⟨(hS.2 g hg).1,λ q=>q.elim (λ q=>(E1 g q).2.1 (hS.2 g hg).1) λ ⟨k,hk,e⟩=>(hB k hk).2 (e ▸ (hS.2 g hg).1),hS.1 g (hS.2 g hg).1,(hS.2 g hg).2⟩⟩
  ez:=λ b _ _=>b5z
  sX:=λ b hs=>hs
  dE:=hS.1
  aC:=λ i=>by
   have Wc:∀ v x,v∈args->Yr P w S (BX sh.length B fa) B v x->VR ⟨P,E,w,BX sh.length B fa,S,λ _=>none,λ _=>False,λ id=>if 400000<=id/\id<400000+sh.length then some (B (id - 400000)) else none⟩ G2 (ea fn args sh bM).ah w (ZK v) x:=by
    intro v x hm h;cases v with
    | val v=>exact h
    | ref v =>
     obtain⟨b,o,cs,h1,h2,h3,h4,h5⟩:=h;exact⟨b,o,cs,h1, .inr ⟨h2,h3,λ z=>z⟩,h4,h5⟩
    | fn f=>exact h
    | c9 v =>
     obtain⟨f,eO,l,h1,h2,h3⟩:=h;refine⟨f,eO,l,h1,h2,h3.imp λ u z _ hz=>?_⟩;cases u with
     | val v=>exact hz
     | ref v =>
      obtain⟨b,o,cs,h1,h2,h3,h4,h5⟩:=hz;exact⟨b,o,cs,h1, .inr ⟨h2,h3,λ z=>z⟩,h4,h5⟩
     | fn f=>exact hz
     | _=>exact hz.elim
    | own v=>exact h.elim
    | box k =>
     obtain⟨g1,g2⟩:=hN k (Ri k hm);exact⟨B k,g1,h,g2⟩
   have h1:aT (λ v x=>VR ⟨P,E,w,BX sh.length B fa,S,λ _=>none,λ _=>False,λ id=>if 400000<=id/\id<400000+sh.length then some (B (id - 400000)) else none⟩ G2 (ea fn args sh bM).ah w v x) (args.map ZK) cA:=aT.en _ (ha.imp λ v x hm h=>Wc v x hm h);have h2:=aT.getD (d:=AV.any) (e:=undef) (show VR ⟨P,E,w,BX sh.length B fa,S,λ _=>none,λ _=>False,λ id=>if 400000<=id/\id<400000+sh.length then some (B (id - 400000)) else none⟩ G2 (ea fn args sh bM).ah w .any undef from trivial) (h1.Af (a:=AV.any) (b:=undef) (show VR ⟨P,E,w,BX sh.length B fa,S,λ _=>none,λ _=>False,λ id=>if 400000<=id/\id<400000+sh.length then some (B (id - 400000)) else none⟩ G2 (ea fn args sh bM).ah w .any undef from trivial) (fn.ntmps - args.length)) i;have e1:(ea fn args sh bM).sl i=(args.map ZK++List.replicate (fn.ntmps - args.length) AV.any).getD i AV.any:=rfl;have e2:(cA.toArray++Array.replicate (fn.ntmps - cA.toArray.size) undef).getD i undef=(cA++List.replicate (fn.ntmps - args.length) undef).getD i undef:=by
    rw[b4s,b3N,<-b7j];simp[hlen]
   rw[e1];show VR _ _ _ _ _ ((cA.toArray++Array.replicate (fn.ntmps - cA.toArray.size) undef).getD i undef);rw[e2];exact h2
  aK:=λ i o ho=>by
   rcases yj i o ho with ⟨j,cs,l,t,rfl,hj,rfl,q3,q4⟩|⟨q1,q2⟩
   .exact⟨B j,l,t,Y7 j hj,q3,q4 _ G2 _ (λ b hb=>hb) hN EY⟩
   .have:=(Y2 i o q1).2;match o,this with
    | .aw τ ys,_=>trivial
  place:=λ i o b ho hb=>by
   rcases yj i o ho with ⟨j,cs,l,t,rfl,hj,rfl,q3,q4⟩|⟨q1,q2⟩
   .rw[Y7 j hj] at hb;simp only[eb,b3t] at hb;subst hb;exact⟨.inr (.inr ⟨j,hj,rfl⟩),(hB j hj).2,(hB j hj).1⟩
   .rw[Y6 i q2,a0b i o q1] at hb;cases hb
  apart:=λ i i' o o' b ho cO hb cz=>by
   rcases yj i o ho with ⟨j,cs,l,t,rfl,hj,rfl,q3,q4⟩|⟨q1,q2⟩
   .rcases yj i' o' cO with ⟨j',dB,l',t',rfl,Iw,rfl,_,_⟩|⟨g1,g2⟩
    .rw[Y7 j hj] at hb;rw[Y7 j' Iw] at cz;simp only[eb,b3t] at hb cz;rw[FZ j j' hj Iw (hb.trans cz.symm)]
    .rw[Y6 i' g2,a0b i' o' g1] at cz;cases cz
   .rw[Y6 i q2,a0b i o q1] at hb;cases hb
  aR:={
   tr:=λ i τ ys hi=>by
    obtain⟨q1,q2⟩:=Wd i τ ys hi;rw[Y6 i q2];exact k2.aR.tr i τ ys q1
   nd:=λ i τ ys hi=>k2.aR.nd i τ ys (Wd i τ ys hi).1
   pl:=λ i τ ys b hi hb=>by
    obtain⟨q1,q2⟩:=Wd i τ ys hi;obtain⟨p1,p2,p3,p4⟩:=k2.aR.pl i τ ys b q1 hb;have XQ:b∈fa:=p1.elim (λ q=>absurd p3 (Nat.not_lt.2 q)) id;refine⟨.inr (.inl XQ),(E1 b XQ).2.1,p3,λ i' o' cO e=>?_⟩;rcases yj i' o' cO with ⟨j,cs,l,t,rfl,hj,rfl,_,_⟩|⟨g1,g2⟩
    .rw[Y7 j hj] at e;simp only[eb,b3t] at e;exact (E1 b XQ).2.2 j hj e
    .rw[Y6 i' g2,a0b i' o' g1] at e;cases e
   ap:=λ i i' τ bf ys ys' b hi lZ=>k2.aR.ap i i' τ bf ys ys' b (Wd i τ ys hi).1 (Wd i' bf ys' lZ).1 }
  root:=λ id v h=>by cases h
  iO:=λ id v h=>by cases h
  du:=λ id b hr ht=>by
   simp only at hr;split at hr
   .rename_i hc;simp only[b3t] at hr;show (if 400000<=id/\id<400000+sh.length then _ else _)=_;rw[b4d hc,hr]
   .cases hr
  fc:=λ id b hr=>by
   simp only at hr;split at hr
   .rename_i hc;exact hc.1
   .cases hr }
theorem Z2(hE:bE P E)(hU:P.follows .mixedOrders=true){f:FuncId}{fn:Func}{dI:Code}(hf:P.funcs[f]?=some fn)(hb:fn.body=some dI)(Λ:Nat->az){args:List Arg}{sh:List (List CK)}{bM:List (List TV)}{res:List TV}{dJ:List (List TV)}{post:List TV->List (List TV)->Prop}
  (V8:∀ vs ds,post vs ds->vs=res/\ds=dJ) (Hm:Xp sh=true) (Ri:∀ k,Arg.box k∈args->k<sh.length) (h:s5 E dI Λ 0 (J7 E fn sh post) (ea fn args sh bM)):Oc P f sh args bM res dJ:=by
 intro w S B cA fa hS VQ SP E1 hB FZ ha;refine b7e hf hb ?_;obtain⟨G0,hinv⟩:=a0F (P:=P) (E:=E) (fn:=fn) Hm hS VQ SP E1 hB FZ ha Ri;generalize hc:(⟨P,E,w,BX sh.length B fa,S,λ _=>none,λ _=>False,λ id=>if 400000<=id/\id<400000+sh.length then some (B (id - 400000)) else none⟩:Ctx)=c at *
 have hcP:c.P=P:=by rw[<-hc]
 have hcE:c.E=E:=by rw[<-hc]
 have hcw:c.w0=w:=by rw[<-hc]
 have hcX:c.X=BX sh.length B fa:=by rw[<-hc]
 have hcS:c.S0=S:=by rw[<-hc]
 have hcB:∀ j,j<sh.length->c.RB (400000+j)=some (B j):=λ j hj=>by
  rw[<-hc];show (if 400000<=400000+j/\400000+j<400000+sh.length then _ else _)=_;rw[b4d (by omega),b5Q]
 have hE':bE c.P c.E:=by rw[hcP,hcE];exact hE
 have cG:=fZ (c:=c) hE' (by rw[hcP];exact hU) dI Λ 0 (J7 E fn sh post) G0 (ea fn args sh bM) _ w hinv (by rw[hcE];exact h);rw[hcP] at cG;refine b6E cG ?_;have fin:∀ (e:Exit) (a:Act) (w':World),(e = .normal\/e = .ret)->(∃ G s,Inv c G s a w'/\J7 E fn sh post e s) ->
   a.defers=[]/\∃ v,(results fn a.tmps).run P w' = .ok v w'/\∃ x S' fp KB,Ending.returned v = .returned x/\bC (BX sh.length B fa) w w'/\(∀ b,S b->S' b)/\(∀ b,S' b->b<w'.heap.size)/\(∀ b,b<w.heap.size->¬ BX sh.length B fa b->(S' b↔S b)) /\
    tY w' res x fp/\fE w' S' B 0 sh dJ KB/\(fp++KB).Nodup/\(∀ b∈fp++KB,(b∈fa\/(w.heap.size<=b/\b<w'.heap.size))/\¬ S' b/\∀ k,k<sh.length->B k≠b)/\∀ k,k<sh.length->¬ S' (B k):=by
  rintro e a w' he ⟨G,s,hI,hp⟩;have V7:∃ vs ids ds IB m,tU E s fn.results.toList fn.resultTypes.toList=some (vs,ids)/\iZ s.ah sh 0 (idM sh.length)=some (ds,IB,m)/\(ids++IB).Nodup/\vs=res/\ds=dJ:=by
   rcases he with rfl|rfl <;>
   .simp only[J7] at hp;split at hp
    .rename_i vs ids B0;split at hp
     .rename_i ds IB m Rk;split at hp
      .rename_i hn;rw[b3A] at hn;obtain⟨q1,q2⟩:=V8 _ _ hp;exact⟨vs,ids,ds,IB,m,B0,Rk,cW hn.1,q1,q2⟩
      .exact hp.elim
     .exact hp.elim
    .exact hp.elim
  obtain⟨vs,ids,ds,IB,m,B0,Rk,hn,rfl,rfl⟩:=V7;rw[b4a] at hn;obtain⟨n1,n2,n3⟩:=hn;obtain⟨xs,fp,h1,h2,h3,h4⟩:=Fy (P:=P) (E:=E) (c:=c) hE' hcP hcE hI B0 n1;obtain⟨x0,a0c,KB,b1Q,b0A,a9G⟩:=vK hI Rk n2;have a4r:∀ k,k<sh.length->∃ cs,s.ah (400000+k)=some (.box cs)/\G.η (400000+k) = .pointer (some ⟨B k,0,none⟩)/\ah m k=some (400000+k):=λ k hk=>by
   obtain⟨id,cs,q1,q2⟩:=a0c k (Nat.zero_le _) (by simpa using hk);have q3:=x0 k (400000+k) (by rw[a5A,if_pos hk]);rw[q3] at q1;simp only[Option.some.injEq] at q1;subst q1;exact⟨cs,q2,hI.du _ _ (hcB k hk) (by rw[q2];rfl),q3⟩
  have hbo:∀ k,k<sh.length->kP G m k=B k:=λ k hk=>by
   obtain⟨cs,_,q2,q3⟩:=a4r k hk;simp only[kP,q3,q2];rfl
  have b1R:=fE.congr (N:=sh.length) hbo (by omega) (Xq Hm) (b1Q m (k9.refl m));have gd:bC (BX sh.length B fa) w w':=by
   have:=hI.aS;rwa [hcX,hcw] at this
  have eL:∀ ids b,wK G s.ah ids b->(b∈fa\/(w.heap.size<=b/\b<w'.heap.size))/\¬ G.S b/\∀ k,k<sh.length->B k≠b:=λ ids b hb=>by
   obtain⟨id,hi,hq⟩:=hb;have hp:(c.w0.heap.size<=b\/c.X b)/\¬ G.S b/\b<w'.heap.size/\∀ k,k<sh.length->B k≠b:=by
    rcases hq with ⟨τ,ys,q1,q2⟩|⟨e',τ,ys,q1,q2⟩
    .obtain⟨p1,p2,p3,p4⟩:=hI.aR.pl id τ ys b q1 q2;refine⟨p1,p2,p3,λ k hk e=>?_⟩;obtain⟨cs,g1,g2,_⟩:=a4r k hk;exact p4 _ _ g1 (by rw[g2,<-e];rfl)
    .obtain⟨p1,p2,p3⟩:=hI.place id _ b q1 q2;refine⟨p1,p2,p3,λ k hk e=>?_⟩;obtain⟨cs,g1,g2,_⟩:=a4r k hk;have:=hI.apart id _ _ _ b q1 g1 q2 (by rw[g2,<-e];rfl);subst this;rw[q1] at g1;cases g1
   obtain⟨p1,p2,p3,p4⟩:=hp;refine⟨?_,p2,p4⟩;rw[hcw,hcX] at p1;rcases p1 with p1|p1|⟨k,hk,e⟩
   .exact .inr ⟨p1,p3⟩
   .exact .inl p1
   .exact absurd e.symm (p4 k hk)
  refine⟨hI.defers,(if h:xs.toArray.size=1 then xs.toArray[0] else .tuple xs.toArray),?_,_,G.S,fp,KB,rfl,gd,?_,hI.dE,?_,Zi h2,b1R,?_,?_,?_⟩
  .rw[tR,b5C];simp only[b4c,b7f,h1];rfl
  .intro b hb;exact hI.sX b (by rw[hcS];exact hb)
  .intro b hb hx;have:=hI.ez b (by rw[hcw];exact hb) (by rw[hcX];exact hx);rwa [hcS] at this
  .exact ed h3 b0A λ b hb cz=>hI.iV (h4 b hb) (a9G b cz) λ x hx y hy=>n3 x hx y hy
  .intro b hb;rcases b3y.1 hb with hb|hb
   .exact eL ids b (h4 b hb)
   .exact eL IB b (a9G b hb)
  .intro k hk;obtain⟨cs,q1,q2,_⟩:=a4r k hk;exact (hI.place _ _ (B k) q1 (by rw[q2];rfl)).2.1
 intro e a w' hq;cases e with
 | normal=>exact fin .normal a w' (.inl rfl) hq
 | ret=>exact fin .ret a w' (.inr rfl) hq
 | exit i=>obtain⟨_,_,_,hp⟩:=hq;exact hp.elim
 | goto l=>obtain⟨_,_,_,hp⟩:=hq;exact hp.elim
 | panic ch=>obtain⟨_,_,_,hp⟩:=hq;exact hp.elim
 | outgrown=>obtain⟨_,_,_,hp⟩:=hq;exact hp.elim
end
def FB:List (Nat×Ty×Nat×Nat) :=
 [(2,(.int .i64),0,0),
  (3,(.int .i64),0,0),
  (4, .bool,0,0),
  (5,(.int .u8),0,0),
  (9, .str,0,0),
  (12,(.int .u64),0,0),
  (23,(.st .sig),0,0),
  (24,(.slice (.st .claim)),120,124),
  (26,(.st .proof),0,0),
  (27,(.slice (.st .expr)),40,29),
  (29,(.st .expr),0,0),
  (30,(.slice (.int .i64)),8,2),
  (32,(.st .proofStep),0,0),
  (36,(.slice (.st .expr)),40,38),
  (38,(.st .expr),0,0),
  (41,(.st .sig),0,0),
  (42,(.slice (.st .claim)),120,99),
  (44,(.st .proof),0,0),
  (48,(.st .proofStep),0,0),
  (94,(.st .equation),0,0),
  (97,(.slice (.st .proofStep)),88,48),
  (99,(.st .claim),0,0),
  (118,(.slice .bool),1,4),
  (122,(.slice (.st .proofStep)),88,32),
  (124,(.st .claim),0,0),
  (129,(.slice .str),16,9),
  (154,(.slice (.st .proof)),40,44),
  (168,(.slice (.st .equation)),80,94),
  (183,(.st .l01Reader),0,0),
  (187,(.st .reader),0,0),
  (194,(.slice (.int .u8)),1,5),
  (203,(.int .u64),0,0),
  (221,(.int .u64),0,0)]
def UM:List (Nat×Ty) :=
 [(73,(.st .proof)),(75,(.st .expr)),(77,(.st .proofStep)),(96,(.st .claim)),(101,(.st .equation)),(149,(.int .i64)),(181,(.st .l01Reader)),(191,(.st .reader)),(212,(.int .u8))]
def Qb:List (Nat×Ty×Ty):=[]
def EL:List Nat:=[23,41]
abbrev a0M:Nat:=2
abbrev ZF:Nat:=4
abbrev sF:Nat:=26
abbrev ZG:Nat:=38
abbrev Og:Nat:=48
abbrev XJ:Nat:=99
noncomputable abbrev prog:Program:=Tryz.prog
def Kc(c:Nat->List Arg->Option (Vc×List TV))(wr own:List Nat)(oc:Nat->List Arg->Option (Vc×List TV))(mk:Nat->Option Cp)(cl:Nat->Option qL)(ro:List Nat)(tk:Nat->List Bool)(sk:Nat->Option SK)(sc:Nat->List Arg->List (List TV)->Option (Vc×List TV×List (List TV)))(nc:Nat->List Arg->Option (Vc×a0L)):((FB.all λ r=>sU prog (Env.mk FB UM c wr own oc mk cl ro tk sk sc Qb nc EL) r.1 r.2.1 r.2.2.1 r.2.2.2)&&Qb.all λ r=>WK prog (Env.mk FB UM c wr own oc mk cl ro tk sk sc Qb nc EL) r.1 r.2.1 r.2.2)=true:=by kernel_rfl
def Vo:EL.all (ZS prog)=true:=by kernel_rfl
def tQ:prog.follows .mixedOrders=true:=Checked.mixed Tryz.checked
def aO(f:Func):Code:=match f.body with
 | some c=>c
 | none => .skip
abbrev ij:Nat:=6
noncomputable abbrev ie:Func:=Tryz.f6
def lK:prog.funcs[ij]?=some ie:=Tryz.func6
def uc:ie.body=some (aO ie):=by kernel_rfl
abbrev GF:Nat:=8
noncomputable abbrev uu:Func:=Tryz.f8
def CC:prog.funcs[GF]?=some uu:=Tryz.func8
def Mc:uu.body=some (aO uu):=by kernel_rfl
abbrev zd:Nat:=9
noncomputable abbrev xW:Func:=Tryz.f9
def n6:prog.funcs[zd]?=some xW:=Tryz.func9
def OG:xW.body=some (aO xW):=by kernel_rfl
abbrev wG:Nat:=10
noncomputable abbrev nw:Func:=Tryz.f10
def sZ:prog.funcs[wG]?=some nw:=Tryz.func10
def EE:nw.body=some (aO nw):=by kernel_rfl
abbrev vD:Nat:=12
noncomputable abbrev ux:Func:=Tryz.f12
def my:prog.funcs[vD]?=some ux:=Tryz.func12
def xD:ux.body=some (aO ux):=by kernel_rfl
abbrev me:Nat:=13
noncomputable abbrev xX:Func:=Tryz.f13
def fm:prog.funcs[me]?=some xX:=Tryz.func13
def Az:xX.body=some (aO xX):=by kernel_rfl
abbrev nL:Nat:=14
noncomputable abbrev nx:Func:=Tryz.f14
def iy:prog.funcs[nL]?=some nx:=Tryz.func14
def pL:nx.body=some (aO nx):=by kernel_rfl
abbrev y7:Nat:=16
noncomputable abbrev xV:Func:=Tryz.f16
def n0:prog.funcs[y7]?=some xV:=Tryz.func16
def OF:xV.body=some (aO xV):=by kernel_rfl
abbrev GC:Nat:=17
noncomputable abbrev uo:Func:=Tryz.f17
def CA:prog.funcs[GC]?=some uo:=Tryz.func17
def L9:uo.body=some (aO uo):=by kernel_rfl
abbrev wF:Nat:=18
noncomputable abbrev nv:Func:=Tryz.f18
def sY:prog.funcs[wF]?=some nv:=Tryz.func18
def ED:nv.body=some (aO nv):=by kernel_rfl
abbrev Bo:Nat:=19
noncomputable abbrev pX:Func:=Tryz.f19
def xw:prog.funcs[Bo]?=some pX:=Tryz.func19
def HZ:pX.body=some (aO pX):=by kernel_rfl
abbrev vB:Nat:=25
noncomputable abbrev ur:Func:=Tryz.f25
def mu:prog.funcs[vB]?=some ur:=Tryz.func25
def Mb:ur.body=some (aO ur):=by kernel_rfl
abbrev kG:Nat:=27
noncomputable abbrev uw:Func:=Tryz.f27
def eK:prog.funcs[kG]?=some uw:=Tryz.func27
def xC:uw.body=some (aO uw):=by kernel_rfl
abbrev vA:Nat:=29
noncomputable abbrev um:Func:=Tryz.f29
def mr:prog.funcs[vA]?=some um:=Tryz.func29
def L8:um.body=some (aO um):=by kernel_rfl
abbrev qt:Nat:=30
noncomputable abbrev pW:Func:=Tryz.f30
def jT:prog.funcs[qt]?=some pW:=Tryz.func30
def HY:pW.body=some (aO pW):=by kernel_rfl
abbrev Bn:Nat:=31
noncomputable abbrev pV:Func:=Tryz.f31
def xv:prog.funcs[Bn]?=some pV:=Tryz.func31
def HX:pV.body=some (aO pV):=by kernel_rfl
abbrev ze:Nat:=32
noncomputable abbrev oE:Func:=Tryz.f32
def vU:prog.funcs[ze]?=some oE:=Tryz.func32
def G9:oE.body=some (aO oE):=by kernel_rfl
abbrev yU:Nat:=33
noncomputable abbrev oq:Func:=Tryz.f33
def vM:prog.funcs[yU]?=some oq:=Tryz.func33
def GW:oq.body=some (aO oq):=by kernel_rfl
abbrev D6:Nat:=36
noncomputable abbrev rJ:Func:=Tryz.f36
def Aq:prog.funcs[D6]?=some rJ:=Tryz.func36
def Kr:rJ.body=some (aO rJ):=by kernel_rfl
abbrev D7:Nat:=37
noncomputable abbrev rK:Func:=Tryz.f37
def Ar:prog.funcs[D7]?=some rK:=Tryz.func37
def Ks:rK.body=some (aO rK):=by kernel_rfl
abbrev LM:Nat:=38
noncomputable abbrev BS:Func:=Tryz.f38
def HM:prog.funcs[LM]?=some BS:=Tryz.func38
def QY:BS.body=some (aO BS):=by kernel_rfl
abbrev B9:Nat:=39
noncomputable abbrev BR:Func:=Tryz.f39
def HL:prog.funcs[B9]?=some BR:=Tryz.func39
def QX:BR.body=some (aO BR):=by kernel_rfl
abbrev GN:Nat:=40
noncomputable abbrev uJ:Func:=Tryz.f40
def CL:prog.funcs[GN]?=some uJ:=Tryz.func40
def Mo:uJ.body=some (aO uJ):=by kernel_rfl
abbrev B8:Nat:=41
noncomputable abbrev BQ:Func:=Tryz.f41
def HK:prog.funcs[B8]?=some BQ:=Tryz.func41
def QW:BQ.body=some (aO BQ):=by kernel_rfl
abbrev D9:Nat:=42
noncomputable abbrev rP:Func:=Tryz.f42
def At:prog.funcs[D9]?=some rP:=Tryz.func42
def Kv:rP.body=some (aO rP):=by kernel_rfl
abbrev LL:Nat:=43
noncomputable abbrev BP:Func:=Tryz.f43
def HJ:prog.funcs[LL]?=some BP:=Tryz.func43
def QV:BP.body=some (aO BP):=by kernel_rfl
abbrev so:Nat:=44
noncomputable abbrev rL:Func:=Tryz.f44
def lg:prog.funcs[so]?=some rL:=Tryz.func44
def vY:rL.body=some (aO rL):=by kernel_rfl
abbrev sq:Nat:=45
noncomputable abbrev rM:Func:=Tryz.f45
def lh:prog.funcs[sq]?=some rM:=Tryz.func45
def vZ:rM.body=some (aO rM):=by kernel_rfl
abbrev yV:Nat:=46
noncomputable abbrev ot:Func:=Tryz.f46
def vN:prog.funcs[yV]?=some ot:=Tryz.func46
def GX:ot.body=some (aO ot):=by kernel_rfl
abbrev I7:Nat:=48
noncomputable abbrev xP:Func:=Tryz.f48
def FH:prog.funcs[I7]?=some xP:=Tryz.func48
def Oz:xP.body=some (aO xP):=by kernel_rfl
abbrev Jc:Nat:=49
noncomputable abbrev xU:Func:=Tryz.f49
def FL:prog.funcs[Jc]?=some xU:=Tryz.func49
def OE:xU.body=some (aO xU):=by kernel_rfl
abbrev Bi:Nat:=50
noncomputable abbrev pP:Func:=Tryz.f50
def xo:prog.funcs[Bi]?=some pP:=Tryz.func50
def HR:pP.body=some (aO pP):=by kernel_rfl
abbrev LK:Nat:=51
noncomputable abbrev BO:Func:=Tryz.f51
def HI:prog.funcs[LK]?=some BO:=Tryz.func51
def QU:BO.body=some (aO BO):=by kernel_rfl
abbrev D4:Nat:=52
noncomputable abbrev rH:Func:=Tryz.f52
def Ao:prog.funcs[D4]?=some rH:=Tryz.func52
def Kp:rH.body=some (aO rH):=by kernel_rfl
abbrev D5:Nat:=53
noncomputable abbrev rI:Func:=Tryz.f53
def Ap:prog.funcs[D5]?=some rI:=Tryz.func53
def Kq:rI.body=some (aO rI):=by kernel_rfl
abbrev zb:Nat:=54
noncomputable abbrev oC:Func:=Tryz.f54
def vS:prog.funcs[zb]?=some oC:=Tryz.func54
def G7:oC.body=some (aO oC):=by kernel_rfl
abbrev zc:Nat:=55
noncomputable abbrev oD:Func:=Tryz.f55
def vT:prog.funcs[zc]?=some oD:=Tryz.func55
def G8:oD.body=some (aO oD):=by kernel_rfl
abbrev qq:Nat:=56
noncomputable abbrev pU:Func:=Tryz.f56
def jS:prog.funcs[qq]?=some pU:=Tryz.func56
def HW:pU.body=some (aO pU):=by kernel_rfl
abbrev Ea:Nat:=57
noncomputable abbrev rQ:Func:=Tryz.f57
def Au:prog.funcs[Ea]?=some rQ:=Tryz.func57
def Kw:rQ.body=some (aO rQ):=by kernel_rfl
abbrev Gx:Nat:=58
noncomputable abbrev ug:Func:=Tryz.f58
def Cv:prog.funcs[Gx]?=some ug:=Tryz.func58
def L3:ug.body=some (aO ug):=by kernel_rfl
abbrev Ee:Nat:=59
noncomputable abbrev rU:Func:=Tryz.f59
def Ay:prog.funcs[Ee]?=some rU:=Tryz.func59
def KA:rU.body=some (aO rU):=by kernel_rfl
abbrev GI:Nat:=60
noncomputable abbrev uE:Func:=Tryz.f60
def CF:prog.funcs[GI]?=some uE:=Tryz.func60
def Mj:uE.body=some (aO uE):=by kernel_rfl
abbrev GK:Nat:=62
noncomputable abbrev uG:Func:=Tryz.f62
def CH:prog.funcs[GK]?=some uG:=Tryz.func62
def Ml:uG.body=some (aO uG):=by kernel_rfl
abbrev rj:Nat:=63
noncomputable abbrev kU:Func:=Tryz.f63
def pJ:prog.funcs[rj]?=some kU:=Tryz.func63
def BF:kU.body=some (aO kU):=by kernel_rfl
abbrev zh:Nat:=64
noncomputable abbrev VC:Func:=Tryz.f64
def Tk:prog.funcs[zh]?=some VC:=Tryz.func64
abbrev Jh:Nat:=65
noncomputable abbrev ya:Func:=Tryz.f65
def FR:prog.funcs[Jh]?=some ya:=Tryz.func65
def OM:ya.body=some (aO ya):=by kernel_rfl
abbrev zf:Nat:=66
noncomputable abbrev oF:Func:=Tryz.f66
def vV:prog.funcs[zf]?=some oF:=Tryz.func66
def Ha:oF.body=some (aO oF):=by kernel_rfl
abbrev yZ:Nat:=67
noncomputable abbrev ov:Func:=Tryz.f67
def vP:prog.funcs[yZ]?=some ov:=Tryz.func67
def GZ:ov.body=some (aO ov):=by kernel_rfl
abbrev DY:Nat:=68
noncomputable abbrev ry:Func:=Tryz.f68
def Ai:prog.funcs[DY]?=some ry:=Tryz.func68
def Kh:ry.body=some (aO ry):=by kernel_rfl
abbrev I5:Nat:=69
noncomputable abbrev xN:Func:=Tryz.f69
def FF:prog.funcs[I5]?=some xN:=Tryz.func69
def Ox:xN.body=some (aO xN):=by kernel_rfl
abbrev rh:Nat:=70
noncomputable abbrev kQ:Func:=Tryz.f70
def pH:prog.funcs[rh]?=some kQ:=Tryz.func70
def BD:kQ.body=some (aO kQ):=by kernel_rfl
abbrev D1:Nat:=71
noncomputable abbrev rC:Func:=Tryz.f71
def Al:prog.funcs[D1]?=some rC:=Tryz.func71
def Kl:rC.body=some (aO rC):=by kernel_rfl
abbrev Bl:Nat:=72
noncomputable abbrev pS:Func:=Tryz.f72
def xr:prog.funcs[Bl]?=some pS:=Tryz.func72
def HU:pS.body=some (aO pS):=by kernel_rfl
abbrev Bk:Nat:=73
noncomputable abbrev pR:Func:=Tryz.f73
def xq:prog.funcs[Bk]?=some pR:=Tryz.func73
def HT:pR.body=some (aO pR):=by kernel_rfl
abbrev y8:Nat:=74
noncomputable abbrev oz:Func:=Tryz.f74
def vQ:prog.funcs[y8]?=some oz:=Tryz.func74
def G5:oz.body=some (aO oz):=by kernel_rfl
abbrev GJ:Nat:=75
noncomputable abbrev uF:Func:=Tryz.f75
def CG:prog.funcs[GJ]?=some uF:=Tryz.func75
def Mk:uF.body=some (aO uF):=by kernel_rfl
abbrev Ec:Nat:=76
noncomputable abbrev rS:Func:=Tryz.f76
def Aw:prog.funcs[Ec]?=some rS:=Tryz.func76
def Ky:rS.body=some (aO rS):=by kernel_rfl
abbrev Bj:Nat:=77
noncomputable abbrev pQ:Func:=Tryz.f77
def xp:prog.funcs[Bj]?=some pQ:=Tryz.func77
def HS:pQ.body=some (aO pQ):=by kernel_rfl
abbrev D3:Nat:=78
noncomputable abbrev rF:Func:=Tryz.f78
def An:prog.funcs[D3]?=some rF:=Tryz.func78
def Kn:rF.body=some (aO rF):=by kernel_rfl
abbrev mc:Nat:=79
noncomputable abbrev lM:Func:=Tryz.f79
def qM:prog.funcs[mc]?=some lM:=Tryz.func79
def CP:lM.body=some (aO lM):=by kernel_rfl
abbrev GD:Nat:=83
noncomputable abbrev uq:Func:=Tryz.f83
def CB:prog.funcs[GD]?=some uq:=Tryz.func83
def Ma:uq.body=some (aO uq):=by kernel_rfl
abbrev Je:Nat:=84
noncomputable abbrev x6:Func:=Tryz.f84
def FO:prog.funcs[Je]?=some x6:=Tryz.func84
def OJ:x6.body=some (aO x6):=by kernel_rfl
abbrev Eb:Nat:=85
noncomputable abbrev rR:Func:=Tryz.f85
def Av:prog.funcs[Eb]?=some rR:=Tryz.func85
def Kx:rR.body=some (aO rR):=by kernel_rfl
abbrev vE:Nat:=86
noncomputable abbrev uz:Func:=Tryz.f86
def mz:prog.funcs[vE]?=some uz:=Tryz.func86
def Me:uz.body=some (aO uz):=by kernel_rfl
abbrev sr:Nat:=87
noncomputable abbrev rO:Func:=Tryz.f87
def lj:prog.funcs[sr]?=some rO:=Tryz.func87
def Ku:rO.body=some (aO rO):=by kernel_rfl
abbrev vH:Nat:=88
noncomputable abbrev uC:Func:=Tryz.f88
def mC:prog.funcs[vH]?=some uC:=Tryz.func88
def Mh:uC.body=some (aO uC):=by kernel_rfl
abbrev ri:Nat:=89
noncomputable abbrev kR:Func:=Tryz.f89
def pI:prog.funcs[ri]?=some kR:=Tryz.func89
def BE:kR.body=some (aO kR):=by kernel_rfl
abbrev GO:Nat:=90
noncomputable abbrev uK:Func:=Tryz.f90
def CM:prog.funcs[GO]?=some uK:=Tryz.func90
def Mp:uK.body=some (aO uK):=by kernel_rfl
abbrev sO:Nat:=91
noncomputable abbrev XN:Func:=Tryz.f91
def U9:prog.funcs[sO]?=some XN:=Tryz.func91
abbrev vF:Nat:=92
noncomputable abbrev uA:Func:=Tryz.f92
def mA:prog.funcs[vF]?=some uA:=Tryz.func92
def Mf:uA.body=some (aO uA):=by kernel_rfl
abbrev kq:Nat:=93
noncomputable abbrev Mx:Func:=Tryz.f93
def Ke:prog.funcs[kq]?=some Mx:=Tryz.func93
abbrev vC:Nat:=94
noncomputable abbrev uv:Func:=Tryz.f94
def mw:prog.funcs[vC]?=some uv:=Tryz.func94
def xB:uv.body=some (aO uv):=by kernel_rfl
abbrev DX:Nat:=95
noncomputable abbrev rv:Func:=Tryz.f95
def Ah:prog.funcs[DX]?=some rv:=Tryz.func95
def Kg:rv.body=some (aO rv):=by kernel_rfl
abbrev I6:Nat:=96
noncomputable abbrev xO:Func:=Tryz.f96
def FG:prog.funcs[I6]?=some xO:=Tryz.func96
def Oy:xO.body=some (aO xO):=by kernel_rfl
abbrev Gy:Nat:=97
noncomputable abbrev uh:Func:=Tryz.f97
def Cw:prog.funcs[Gy]?=some uh:=Tryz.func97
def L4:uh.body=some (aO uh):=by kernel_rfl
abbrev Jb:Nat:=98
noncomputable abbrev xT:Func:=Tryz.f98
def FK:prog.funcs[Jb]?=some xT:=Tryz.func98
def OD:xT.body=some (aO xT):=by kernel_rfl
abbrev I9:Nat:=99
noncomputable abbrev xR:Func:=Tryz.f99
def FJ:prog.funcs[I9]?=some xR:=Tryz.func99
def OB:xR.body=some (aO xR):=by kernel_rfl
abbrev mW:Nat:=100
noncomputable abbrev ru:Func:=Tryz.f100
def la:prog.funcs[mW]?=some ru:=Tryz.func100
def Kf:ru.body=some (aO ru):=by kernel_rfl
abbrev nJ:Nat:=101
noncomputable abbrev nr:Func:=Tryz.f101
def iv:prog.funcs[nJ]?=some nr:=Tryz.func101
def Ez:nr.body=some (aO nr):=by kernel_rfl
abbrev Bm:Nat:=102
noncomputable abbrev pT:Func:=Tryz.f102
def xu:prog.funcs[Bm]?=some pT:=Tryz.func102
def HV:pT.body=some (aO pT):=by kernel_rfl
abbrev GB:Nat:=103
noncomputable abbrev uk:Func:=Tryz.f103
def Cz:prog.funcs[GB]?=some uk:=Tryz.func103
def L7:uk.body=some (aO uk):=by kernel_rfl
abbrev qu:Nat:=104
noncomputable abbrev jV:Func:=Tryz.f104
def o6:prog.funcs[qu]?=some jV:=Tryz.func104
def zK:jV.body=some (aO jV):=by kernel_rfl
abbrev Ed:Nat:=105
noncomputable abbrev rT:Func:=Tryz.f105
def Ax:prog.funcs[Ed]?=some rT:=Tryz.func105
def Kz:rT.body=some (aO rT):=by kernel_rfl
abbrev Gz:Nat:=106
noncomputable abbrev ui:Func:=Tryz.f106
def Cx:prog.funcs[Gz]?=some ui:=Tryz.func106
def L5:ui.body=some (aO ui):=by kernel_rfl
abbrev zj:Nat:=107
noncomputable abbrev yc:Func:=Tryz.f107
def n9:prog.funcs[zj]?=some yc:=Tryz.func107
def OO:yc.body=some (aO yc):=by kernel_rfl
abbrev iL:Nat:=108
noncomputable abbrev lS:Func:=Tryz.f108
def gV:prog.funcs[iL]?=some lS:=Tryz.func108
def CV:lS.body=some (aO lS):=by kernel_rfl
abbrev qA:Nat:=109
noncomputable abbrev yb:Func:=Tryz.f109
def n8:prog.funcs[qA]?=some yb:=Tryz.func109
def ON:yb.body=some (aO yb):=by kernel_rfl
abbrev qv:Nat:=110
noncomputable abbrev xZ:Func:=Tryz.f110
def n7:prog.funcs[qv]?=some xZ:=Tryz.func110
def OI:xZ.body=some (aO xZ):=by kernel_rfl
abbrev zg:Nat:=111
noncomputable abbrev oG:Func:=Tryz.f111
def vW:prog.funcs[zg]?=some oG:=Tryz.func111
def Hb:oG.body=some (aO oG):=by kernel_rfl
abbrev Fi:Nat:=112
noncomputable abbrev EN:Func:=Tryz.f112
def sG:prog.funcs[Fi]?=some EN:=Tryz.func112
def Tn:EN.body=some (aO EN):=by kernel_rfl
abbrev Fj:Nat:=113
noncomputable abbrev EP:Func:=Tryz.f113
def sH:prog.funcs[Fj]?=some EP:=Tryz.func113
def FT:EP.body=some (aO EP):=by kernel_rfl
abbrev yW:Nat:=114
noncomputable abbrev xM:Func:=Tryz.f114
def nY:prog.funcs[yW]?=some xM:=Tryz.func114
def Ov:xM.body=some (aO xM):=by kernel_rfl
abbrev sj:Nat:=115
noncomputable abbrev rz:Func:=Tryz.f115
def ld:prog.funcs[sj]?=some rz:=Tryz.func115
def Ki:rz.body=some (aO rz):=by kernel_rfl
abbrev qs:Nat:=116
noncomputable abbrev jU:Func:=Tryz.f116
def o5:prog.funcs[qs]?=some jU:=Tryz.func116
def zJ:jU.body=some (aO jU):=by kernel_rfl
abbrev DZ:Nat:=117
noncomputable abbrev rA:Func:=Tryz.f117
def Aj:prog.funcs[DZ]?=some rA:=Tryz.func117
def Kj:rA.body=some (aO rA):=by kernel_rfl
abbrev tN:Nat:=118
noncomputable abbrev lQ:Func:=Tryz.f118
def qQ:prog.funcs[tN]?=some lQ:=Tryz.func118
def CU:lQ.body=some (aO lQ):=by kernel_rfl
abbrev Jd:Nat:=119
noncomputable abbrev xY:Func:=Tryz.f119
def FM:prog.funcs[Jd]?=some xY:=Tryz.func119
def OH:xY.body=some (aO xY):=by kernel_rfl
abbrev GG:Nat:=120
noncomputable abbrev uy:Func:=Tryz.f120
def CD:prog.funcs[GG]?=some uy:=Tryz.func120
def Md:uy.body=some (aO uy):=by kernel_rfl
abbrev GL:Nat:=121
noncomputable abbrev uH:Func:=Tryz.f121
def CI:prog.funcs[GL]?=some uH:=Tryz.func121
def Mm:uH.body=some (aO uH):=by kernel_rfl
abbrev GP:Nat:=122
noncomputable abbrev uL:Func:=Tryz.f122
def CN:prog.funcs[GP]?=some uL:=Tryz.func122
def Mq:uL.body=some (aO uL):=by kernel_rfl
abbrev mg:Nat:=123
noncomputable abbrev lR:Func:=Tryz.f123
def gU:prog.funcs[mg]?=some lR:=Tryz.func123
def pc:lR.body=some (aO lR):=by kernel_rfl
abbrev yY:Nat:=124
noncomputable abbrev xS:Func:=Tryz.f124
def nZ:prog.funcs[yY]?=some xS:=Tryz.func124
def OC:xS.body=some (aO xS):=by kernel_rfl
abbrev I4:Nat:=125
noncomputable abbrev xL:Func:=Tryz.f125
def FE:prog.funcs[I4]?=some xL:=Tryz.func125
def Ou:xL.body=some (aO xL):=by kernel_rfl
abbrev nU:Nat:=126
noncomputable abbrev iT:Func:=Tryz.f126
def nh:prog.funcs[nU]?=some iT:=Tryz.func126
def wN:iT.body=some (aO iT):=by kernel_rfl
abbrev sn:Nat:=127
noncomputable abbrev rG:Func:=Tryz.f127
def lf:prog.funcs[sn]?=some rG:=Tryz.func127
def Ko:rG.body=some (aO rG):=by kernel_rfl
abbrev tM:Nat:=128
noncomputable abbrev lP:Func:=Tryz.f128
def qP:prog.funcs[tM]?=some lP:=Tryz.func128
def CT:lP.body=some (aO lP):=by kernel_rfl
abbrev GM:Nat:=129
noncomputable abbrev uI:Func:=Tryz.f129
def CJ:prog.funcs[GM]?=some uI:=Tryz.func129
def Mn:uI.body=some (aO uI):=by kernel_rfl
abbrev D0:Nat:=130
noncomputable abbrev rB:Func:=Tryz.f130
def Ak:prog.funcs[D0]?=some rB:=Tryz.func130
def Kk:rB.body=some (aO rB):=by kernel_rfl
abbrev Jf:Nat:=131
noncomputable abbrev x7:Func:=Tryz.f131
def FP:prog.funcs[Jf]?=some x7:=Tryz.func131
def OK:x7.body=some (aO x7):=by kernel_rfl
abbrev vG:Nat:=132
noncomputable abbrev uB:Func:=Tryz.f132
def mB:prog.funcs[vG]?=some uB:=Tryz.func132
def Mg:uB.body=some (aO uB):=by kernel_rfl
abbrev jz:Nat:=133
noncomputable abbrev VB:Func:=Tryz.f133
def Tj:prog.funcs[jz]?=some VB:=Tryz.func133
abbrev y9:Nat:=134
noncomputable abbrev oB:Func:=Tryz.f134
def vR:prog.funcs[y9]?=some oB:=Tryz.func134
def G6:oB.body=some (aO oB):=by kernel_rfl
abbrev eo:Nat:=135
noncomputable abbrev Hc:Func:=Tryz.f135
def Ex:prog.funcs[eo]?=some Hc:=Tryz.func135
abbrev Jg:Nat:=136
noncomputable abbrev x8:Func:=Tryz.f136
def FQ:prog.funcs[Jg]?=some x8:=Tryz.func136
def OL:x8.body=some (aO x8):=by kernel_rfl
abbrev D8:Nat:=137
noncomputable abbrev rN:Func:=Tryz.f137
def As:prog.funcs[D8]?=some rN:=Tryz.func137
def Kt:rN.body=some (aO rN):=by kernel_rfl
abbrev I8:Nat:=138
noncomputable abbrev xQ:Func:=Tryz.f138
def FI:prog.funcs[I8]?=some xQ:=Tryz.func138
def OA:xQ.body=some (aO xQ):=by kernel_rfl
abbrev tK:Nat:=139
noncomputable abbrev lN:Func:=Tryz.f139
def qN:prog.funcs[tK]?=some lN:=Tryz.func139
def CQ:lN.body=some (aO lN):=by kernel_rfl
abbrev yX:Nat:=140
noncomputable abbrev ou:Func:=Tryz.f140
def vO:prog.funcs[yX]?=some ou:=Tryz.func140
def GY:ou.body=some (aO ou):=by kernel_rfl
abbrev GH:Nat:=141
noncomputable abbrev uD:Func:=Tryz.f141
def CE:prog.funcs[GH]?=some uD:=Tryz.func141
def Mi:uD.body=some (aO uD):=by kernel_rfl
abbrev GA:Nat:=142
noncomputable abbrev uj:Func:=Tryz.f142
def Cy:prog.funcs[GA]?=some uj:=Tryz.func142
def L6:uj.body=some (aO uj):=by kernel_rfl
abbrev kp:Nat:=143
noncomputable abbrev jW:Func:=Tryz.f143
def fV:prog.funcs[kp]?=some jW:=Tryz.func143
def zL:jW.body=some (aO jW):=by kernel_rfl
abbrev Ji:Nat:=144
noncomputable abbrev VD:Func:=Tryz.f144
def Tl:prog.funcs[Ji]?=some VD:=Tryz.func144
abbrev D2:Nat:=145
noncomputable abbrev rD:Func:=Tryz.f145
def Am:prog.funcs[D2]?=some rD:=Tryz.func145
def Km:rD.body=some (aO rD):=by kernel_rfl
abbrev pw:Nat:=146
noncomputable abbrev jk:Func:=Tryz.f146
def iR:prog.funcs[pw]?=some jk:=Tryz.func146
def xF:jk.body=some (aO jk):=by kernel_rfl
abbrev qy:Nat:=147
noncomputable abbrev jZ:Func:=Tryz.f147
def o8:prog.funcs[qy]?=some jZ:=Tryz.func147
def zO:jZ.body=some (aO jZ):=by kernel_rfl
abbrev nK:Nat:=149
noncomputable abbrev nt:Func:=Tryz.f149
def iw:prog.funcs[nK]?=some nt:=Tryz.func149
def EB:nt.body=some (aO nt):=by kernel_rfl
abbrev Ja:Nat:=150
noncomputable abbrev VA:Func:=Tryz.f150
def Ti:prog.funcs[Ja]?=some VA:=Tryz.func150
abbrev qw:Nat:=151
noncomputable abbrev jX:Func:=Tryz.f151
def o7:prog.funcs[qw]?=some jX:=Tryz.func151
def zM:jX.body=some (aO jX):=by kernel_rfl
abbrev qx:Nat:=152
noncomputable abbrev jY:Func:=Tryz.f152
def jh:prog.funcs[qx]?=some jY:=Tryz.func152
def zN:jY.body=some (aO jY):=by kernel_rfl
abbrev wE:Nat:=154
noncomputable abbrev nu:Func:=Tryz.f154
def sW:prog.funcs[wE]?=some nu:=Tryz.func154
def EC:nu.body=some (aO nu):=by kernel_rfl
abbrev wD:Nat:=155
noncomputable abbrev ns:Func:=Tryz.f155
def lJ:prog.funcs[wD]?=some ns:=Tryz.func155
def EA:ns.body=some (aO ns):=by kernel_rfl
abbrev Bp:Nat:=158
noncomputable abbrev pY:Func:=Tryz.f158
def xx:prog.funcs[Bp]?=some pY:=Tryz.func158
def H0:pY.body=some (aO pY):=by kernel_rfl
abbrev qz:Nat:=159
noncomputable abbrev j8:Func:=Tryz.f159
def pb:prog.funcs[qz]?=some j8:=Tryz.func159
def zP:j8.body=some (aO j8):=by kernel_rfl
abbrev tO:Nat:=164
noncomputable abbrev lT:Func:=Tryz.f164
def qR:prog.funcs[tO]?=some lT:=Tryz.func164
def CW:lT.body=some (aO lT):=by kernel_rfl
abbrev Qd:Nat:=165
noncomputable abbrev EO:Func:=Tryz.f165
def Lm:prog.funcs[Qd]?=some EO:=Tryz.func165
def To:EO.body=some (aO EO):=by kernel_rfl
abbrev tL:Nat:=166
noncomputable abbrev lO:Func:=Tryz.f166
def qO:prog.funcs[tL]?=some lO:=Tryz.func166
def CS:lO.body=some (aO lO):=by kernel_rfl
abbrev ib:Nat:=171
noncomputable abbrev eN:Func:=Tryz.f171
def gN:prog.funcs[ib]?=some eN:=Tryz.func171
def np:eN.body=some (aO eN):=by kernel_rfl
end Go.Proofs.YtmjfpcajohhbeaaGreatDoor

set_option maxRecDepth 4000
set_option maxHeartbeats 4000000
namespace Go.Proofs.YtmjfpcajohhbeaaGreatDoor
def Td:∀ (xs:List Int) (k:Nat),k<xs.length->xs.take (k+1)=xs.take k++[xs.getD k 0]
 | [],k,h=>by simp at h
 | x::xs,0,h=>by simp
 | x::xs,k+1,h=>by
  have:=Td xs k (by simpa using h);simp at this ⊢;exact this
def Ro(x:J)(k:Int):Bool:=decide (0<=k/\k<=(x.M.length:Int) - 1)
def isN(x:J):Bool:=decide (x.aq=5)
def eC:J->List Int->Bool
 | _,[]=>true
 | x,k::ks=>Ro x k&&eC (x.M.getD k.toNat zE) ks
def dN:J->List Int->J
 | x,[]=>x
 | x,k::ks=>dN (x.M.getD k.toNat zE) ks
def oS:J->List Int->Bool
 | _,[]=>false
 | x,k::ks=>isN x||oS (x.M.getD k.toNat zE) ks
def W0(k:Int):∀ (ks:List Int) (x:J),eC x (ks++[k])=(eC x ks&&Ro (dN x ks) k)/\dN x (ks++[k])=(dN x ks).M.getD k.toNat zE/\oS x (ks++[k])=(oS x ks||isN (dN x ks))
 | [],x=>⟨by simp[eC,dN],rfl,by simp[oS,dN]⟩
 | j::ks,x=>by
  obtain⟨h1,h2,h3⟩:=W0 k ks (x.M.getD j.toNat zE);simp only[b4M,eC,dN,oS,h1,h2,h3,b6F,Bool.or_assoc,and_self]
def zk(x:J)(ks:List Int)(k:Nat)(h:k<ks.length):eC x (ks.take (k+1))=(eC x (ks.take k)&&Ro (dN x (ks.take k)) (ks.getD k 0)) /\
  dN x (ks.take (k+1))=(dN x (ks.take k)).M.getD (ks.getD k 0).toNat zE/\oS x (ks.take (k+1))=(oS x (ks.take k)||isN (dN x (ks.take k))):=by
 rw[Td ks k h];exact W0 _ _ _
def a4J:∀ (ks js:List Int) (x:J),eC x (ks++js)=(eC x ks&&eC (dN x ks) js)
 | [],js,x=>by simp[eC,dN]
 | k::ks,js,x=>by simp only[b4M,eC,dN,a4J ks js,b6F]
def a4K(x:J)(ks:List Int)(k:Nat)(h:eC x (ks.take k)=false):eC x ks=false:=by
 conv=>lhs;rw[<-b4K k ks]
 rw[a4J,h,b4P]
def a0u(x:J)(ks:List Int)(k:Nat)(h:ks.length<=k):eC x (ks.take k)=eC x ks/\dN x (ks.take k)=dN x ks/\oS x (ks.take k)=oS x ks:=by
 rw[b3U h];exact⟨rfl,rfl,rfl⟩
def Qe:J->List Int->J
 | x,[]=>x
 | x,k::ks=>bif Ro x k then Qe (x.M.getD k.toNat zE) ks else x
def Yd:J->List Int->Bool
 | _,[]=>false
 | x,k::ks=>bif Ro x k then isN x||Yd (x.M.getD k.toNat zE) ks else false
def W1:∀ (ks:List Int) (x:J) (k:Nat),k<=ks.length->eC x (ks.take k)=true->(k<ks.length->Ro (dN x (ks.take k)) (ks.getD k 0)=false)->dN x (ks.take k)=Qe x ks/\oS x (ks.take k)=Yd x ks
 | [],x,k,h,_,_=>by rw[List.take_nil];exact⟨rfl,rfl⟩
 | j::js,x,0,_,_,h=>by
  have h:=h (by simp);rw[b4z] at h ⊢;have h:Ro x j=false:=h;simp only[dN,oS,Qe,Yd];rw[h];exact⟨rfl,rfl⟩
 | j::js,x,k+1,hl,ho,h=>by
  rw[List.take_succ_cons] at ho h ⊢;simp only[eC,Bool.and_eq_true] at ho;simp only[dN,oS,Qe,Yd];rw[ho.1];have:=W1 js _ k (by simpa using hl) ho.2 (λ q=>h (by simpa using q));rw[this.1,this.2];exact⟨rfl,rfl⟩
def WZ:∀ (ks:List Int) (x:J),eC x ks=true->Qe x ks=dN x ks/\Yd x ks=oS x ks
 | [],_,_=>⟨rfl,rfl⟩
 | j::js,x,h=>by
  simp only[eC,b3A] at h;simp only[dN,oS,Qe,Yd];rw[h.1];have:=WZ js _ h.2;rw[this.1,this.2];exact⟨rfl,rfl⟩
open Go.RowKit Go.Proofs
set_option maxRecDepth 100000 in
def a7l(n lo hi:Int)(w:World):Calls prog B8 #[.int .i64 n, .int .i64 lo, .int .i64 hi] w λ e w'=>e = .returned (.bool (decide (lo<=n/\n<=hi)))/\w'=w:=by
 go_enter Tryz.func41,Tryz.ntmps41;go_wp2
 .go_ret;refine⟨?_,rfl⟩;simp_all
 .go_ret;refine⟨?_,rfl⟩;simp;omega
def a6e(w:World)(x:J)(ks:List Int)(R:Nat->Nat->Nat->Prop):Prop:=∀ k b o,R k b o->k<=ks.length->w.cell? ⟨b,o,none⟩=some (.int .i64 (dN x (ks.take k)).aq) /\
 ∃ a cap,w.cell? ⟨b,o+2,none⟩=some (.slice a (dN x (ks.take k)).M.length cap)/\(dN x (ks.take k)).M.length<=140737488355328/\∀ j:Nat,k<ks.length->ks.getD k 0=(j:Int)->j<(dN x (ks.take k)).M.length->∃ bk q,a=some ⟨bk,q,none⟩/\R (k+1) bk (q+j * 3)
def b0c(w0:World)(x:J)(ks:List Int)(R:Nat->Nat->Nat->Prop)(p bl i:Value)(w:World):Prop :=
 (∃ m,w=w0.drewN m)/\∃ (k b o:Nat),i = .int .i64 (k:Int)/\k<=ks.length/\p = .pointer (some ⟨b,o,none⟩)/\bl = .bool (oS x (ks.take k))/\eC x (ks.take k)=true/\R k b o
def a6s(n:Nat):Value->Nat
 | .int _ k=>n - k.toNat
 | _=>0
set_option maxRecDepth 100000 in
def a0T(w:World)(x:J)(ks:List Int)(R:Nat->Nat->Nat->Prop)(b0 o0:Nat)(h0:R 0 b0 o0)(hR:a6e w x ks R)(v:Value)(S:Nat->Prop)(hv:Rd w S (.slice 1 (ks.map (D.int .i64))) [v]) :
  Calls prog sO #[.pointer (some ⟨b0,o0,none⟩),v] w λ e w'=>(∃ m,w'=w.drewN m)/\∃ p bl,e = .returned (.tuple #[p, .bool bl, .bool (eC x ks)]) /\
   ∃ k b o,k<=ks.length/\p = .pointer (some ⟨b,o,none⟩)/\R k b o/\dN x (ks.take k)=Qe x ks/\bl=Yd x ks/\(eC x ks=true->k=ks.length):=by
 obtain⟨a,cap,hv1,_,FY,hlen,eF⟩:=hv;simp only[b3F,b3L] at hv1;subst hv1;simp only[b3M] at *
 go_enter Tryz.func91,Tryz.ntmps91;go_wp2;go_loopw [0,7,8] (λ p bl i w'=>b0c w x ks R p bl i w') (λ p bl i w'=>a6s ks.length i)
 .exact⟨⟨0,rfl⟩,0,b0,o0,rfl,b4G _,rfl,by rw[b4z];rfl,by rw[b4z];rfl,h0⟩
 obtain⟨⟨nd,hwn⟩,k,b,o,rfl,hk,rfl,rfl,VV,hL⟩:=hrel;have hw:wr.heap=w.heap:=by rw[hwn];rfl
 have hwd:∀ m,∃ m',wr.drewN m=w.drewN m':=λ m=>⟨nd+m,by rw[hwn,World.drewN_drewN]⟩;have hw0:∃ m,wr=w.drewN m:=⟨nd,hwn⟩;clear hwn;obtain⟨tf,a5,b3n,hc5,hl5,V5⟩:=hR k b o hL hk;have hcc:∀ a,wr.cell? a=w.cell? a:=λ a=>by simp only[World.cell?,hw]
 rw[<-hcc] at tf hc5;clear hcc;by_cases hkn:k<ks.length
 .obtain eF|⟨q0,p0,rfl,Pv,eF⟩:=eF
  .rw[b5P] at eF;subst eF;simp at hkn
  obtain⟨c0,Rj,hc2,hc3⟩:=eF.at_ (n:=1) _ _ _ (λ d hd=>by obtain⟨y,_,rfl⟩:=b3E.1 hd;rfl) k (.int .i64 (ks.getD k 0)) (by simp[hkn]);rw[hc2.1] at hc3;have hck:wr.cell? ⟨q0,p0+k,none⟩=some (.int .i64 (ks.getD k 0)):=by
   have:=hc3 0 _ rfl;rw[<-this];simp only[Nat.mul_one,b5s,World.cell?,hw]
  have kV:=zk x ks k hkn;have a9D:=a4K x ks (k+1);generalize hj:ks.getD k 0=j at *
  generalize hnn:(dN x (ks.take k)).M.length=nk at *
  generalize hkk:(dN x (ks.take k)).aq=kk at *
  generalize hbl:oS x (ks.take k)=bl at *
  have b2g:isN (dN x (ks.take k))=decide (kk=5):=by unfold isN;rw[hkk]
  have gm:¬ (0<=j/\j<=(nk:Int) - 1)->eC x ks=false/\dN x (ks.take k)=Qe x ks/\bl=Yd x ks:=λ h=>by
   refine⟨a9D ?_,?_⟩
   .rw[kV.1];simp only[Ro,hnn];rw[b3K h,b4U]
   .have:=W1 ks x k hk VV λ _=>by
     rw[hj];simp only[Ro,hnn];exact b3K h
    exact⟨this.1,hbl.symm.trans this.2⟩
  have a9Q:∀ j':Nat,j=(j':Int)->j'<nk->eC x (ks.take (k+1))=true:=λ j' e h=>by
   rw[kV.1,VV];simp only[Ro,hnn];rw[b4k (by omega)];rfl
  have hB:=kV.2.2;rw[b2g] at hB;clear kV a9D;cases bl;all_goals
   go_wp2
   go_quiet (first|(go_at_call 41;exact Calls.quiet_of_same (a7l _ _ _ _)))
   go_wp2
  .rename_i eL;have hb:=gm (by simp at eL;omega);go_ret3;exact⟨hwd _,_,false,by rw[hb.1];rfl,k,b,o,hk,rfl,hL,hb.2.1,hb.2.2,λ e=>by rw[hb.1] at e;cases e⟩
  .rename_i eL;have V1:0<=j/\j<=(nk:Int) - 1:=by simp at eL;omega
   obtain⟨j,rfl⟩:=b6p V1.1;obtain⟨bk,q,rfl,Is⟩:=V5 j hkn rfl (by omega);have a6Q:=a9Q j rfl (by omega);go_quiet (skip);go_wp2;refine⟨⟨hwd _,k+1,bk,q+j * 3,rfl,by omega,rfl,?_,a6Q,Is⟩,?_⟩
   .rw[hB];simp;by_cases h5:kk=5<;>simp[h5]
   .simp only[a6s];omega
  .rename_i eL;have hb:=gm (by simp at eL;omega);go_ret3;exact⟨hwd _,_,true,by rw[hb.1];rfl,k,b,o,hk,rfl,hL,hb.2.1,hb.2.2,λ e=>by rw[hb.1] at e;cases e⟩
  .rename_i eL;have V1:0<=j/\j<=(nk:Int) - 1:=by simp at eL;omega
   obtain⟨j,rfl⟩:=b6p V1.1;obtain⟨bk,q,rfl,Is⟩:=V5 j hkn rfl (by omega);have a6Q:=a9Q j rfl (by omega);go_quiet (skip);go_wp2;refine⟨⟨hwd _,k+1,bk,q+j * 3,rfl,by omega,rfl,?_,a6Q,Is⟩,?_⟩
   .rw[hB];rfl
   .simp only[a6s];omega
 .go_wp2;have Lx:=a0u x ks k (by omega);have hke:k=ks.length:=by omega
  subst hke;go_ret3;rw[Lx.1] at VV;have hs:=W1 ks x ks.length (b4h _) (by rw[Lx.1];exact VV) λ h=>absurd h (b5R _);exact⟨hw0,_,oS x (ks.take ks.length),by rw[VV];rfl,ks.length,b,o,b4h _,rfl,hL,hs.1,hs.2,λ _=>rfl⟩
def a5Y(x:J):x.aP.size=3:=by cases x;rfl
def b1a{w:World}{S T:Nat->Prop}{x:J}{ks:List Int}(hS:∀ b,S b->b<w.heap.size):a6e w x ks λ k b o=>b<w.heap.size/\(S b\/T b)/\∃ cs,cd w b o cs/\Rd w S (dN x (ks.take k)).aP cs:=by
 rintro k b o ⟨hb,_,cs,hc,hr⟩ hk;have Nc:=hr;generalize hz:dN x (ks.take k)=z at *
 cases z with
 | mk kd n M =>
  simp only[J.aP,J.tV] at hr;obtain⟨v0,r0,rfl,a0,v1,r1,rfl,a1,v2,r2,rfl,a2,rfl⟩:=hr;have e0:[v0]=[.int .i64 kd]:=a0.1;obtain⟨a,cap,e2,_,_,hl,eF⟩:=a2;simp only[b3F,b3L] at e0 e2;subst e0 e2;rw[b3M] at hl;refine⟨hc 0 _ rfl,a,cap,by rw[hc 2 _ rfl,b3M],hl,λ j hkn hj XW=>?_⟩;obtain eF|⟨bk,q,rfl,cz,eF⟩:=eF
  .rw[b5P] at eF;subst eF;simp at XW
  have XW:j<M.length:=XW;obtain⟨c0,Rj,hc2,hc3⟩:=eF.at_ (n:=3) _ _ _ (λ d hd=>by obtain⟨y,_,rfl⟩:=b3E.1 hd;exact a5Y y) j (M.getD j zE).aP (by simp[XW]);refine⟨bk,q,rfl,hS bk cz, .inl cz,c0,hc3,?_⟩;have cw:=(zk x ks k hkn).2.1;rw[cw,hz,hj];exact hc2
def Bq:Nat->List Arg->Option (Vc×a0L):=λ f zs=>match Nat.beq f sO with
 | true=>match zs with
  | [.ref ⟨.st .expr,x⟩, .val ⟨.slice (.int .i64),ks⟩]=>some (.none, .res [(true,⟨.st .expr,Qe x ks⟩),(false,⟨.bool,Yd x ks⟩),(false,⟨.bool,eC x ks⟩)])
  | _=>none
 | false=>none
def a8r(x:J)(ks:List Int):a2u prog sO [.ref ⟨.st .expr,x⟩, .val ⟨.slice (.int .i64),ks⟩] (.res [(true,⟨.st .expr,Qe x ks⟩),(false,⟨.bool,Yd x ks⟩),(false,⟨.bool,eC x ks⟩)]):=by
 intro w S T cA hS hT ha;match cA,ha with
 | [v1,v2],ha =>
  obtain⟨⟨b,o,cs,rfl,hb,hc,r⟩,r2,_⟩:=ha;have r:Rd w S x.aP cs:=r;have r2:Rd w S (.slice 1 (ks.map (D.int .i64))) [v2]:=r2;have hTb:T b:=hT _ (b5U ..) ⟨b,o,none⟩ rfl;refine (a0T w x ks (λ k b o=>b<w.heap.size/\(S b\/T b)/\∃ cs,cd w b o cs/\Rd w S (dN x (ks.take k)).aP cs) b o (by exact⟨hb, .inr hTb,cs,hc,by rw[b4z];exact r⟩) (b1a hS.1) v2 S r2).mono ?_;rintro e w' ⟨⟨m,rfl⟩,p,bl,rfl,k,b',o',hk,rfl,⟨cz,cw,dB,Tw,Nc⟩,hE,rfl,_⟩;refine⟨_,S,rfl,⟨rfl,rfl,rfl,b4h _,λ _ _ _=>rfl⟩,λ _ _=>b5z,hS.1,λ b hb=>(by cases hb),[_,_,_],rfl,⟨b',o',dB,rfl,cw,Tw,?_⟩,rfl,rfl,ae⟩;rw[hE] at Nc;exact Rd.aS (w:=w) (w':=w.drewN m) (λ _ h=>h) (λ _ _=>rfl) _ Nc
def WY:∀ f args pre cells,Bq f args=some (pre,cells)->pre.ok->jG prog f/\a2u prog f args cells:=by
 intro f args pre cells h _;unfold Bq at h;split at h
 .rename_i hf;have hf:=b3x hf;subst hf;split at h
  .simp only[b3t,b3w] at h;obtain⟨rfl,rfl⟩:=h;exact⟨⟨_,U9,rfl,by decide⟩,a8r _ _⟩
  .cases h
 .cases h
end Go.Proofs.YtmjfpcajohhbeaaGreatDoor

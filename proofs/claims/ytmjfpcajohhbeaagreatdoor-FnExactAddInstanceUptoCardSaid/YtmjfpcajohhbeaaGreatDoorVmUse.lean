/- VmDraw3, VmFrz, VmMix, VmDraw4, VmGuard, VmCode, VmFun, VmOwnFun, VmStFun, VmTab, VmNew, VmUse. -/
import Derived.Test.YtmjfpcajohhbeaaGreatDoorVmDraw2
import Derived.Deep.LoopGhost
import Derived.Test.YtmjfpcajohhbeaaGreatDoorChecked
import Derived.WalkKit
import Derived.Deep.QuietTactic
import Derived.BigQuiet
import Derived.LoopTactic
set_option linter.all false
namespace Go.Proofs.YtmjfpcajohhbeaaGreatDoor
def b6Z:=@List.any_eq_false
def b4P:=@Array.getElem?_eq_some_iff
def b6b:=@List.eq_nil_iff_forall_not_mem
def b5f:=@Array.size_setIfInBounds
def b5x:=@of_decide_eq_false
def b6g:=@Nat.testBit_two_pow_sub_one
def b7s:=@Classical.not_forall
def b7a:=@Classical.not_imp
def b5N:=@List.mem_append_left
def b7A:=@List.map_congr_left
def b6k:=@List.not_mem_nil
def b7t:=@or_false
def b7h:=@forall_eq_or_imp
def b5d:=@Array.getElem?_eq_none
def b3S:=@Bool.not_eq_true'
def b3D:=@decide_eq_false_iff_not
def b5I:=@List.mem_filterMap
def b7p:=@List.foldl_nil
def b7c:=@Nat.blt_eq
def b4E:=@true_and
def b7i:=@List.filter_cons
def b5b:=@List.mem_filter
def b5l:=@List.mem_of_mem_erase
def b7u:=@List.perm_cons_erase
def b6l:=@List.Sublist.map
def b6Q:=@List.erase_sublist
def b5T:=@List.mem_erase_of_ne
def b3I:=@Bool.not_false
def b4T:=@Bool.true_and
def b7B:=@List.filter_sublist
def b3K:=@Bool.not_true
def b7x:=@Bool.false_or
def b6N:=@Go.wp_mono
def b7q:=@Array.getElem?_toList
def b7m:=@Go.calls_of_wp
def b5K:=@Array.mapM_eq_mapM_toList
def b7n:=@Go.Sem.run_map
def b6V:=@Array.getElem?_append_left
def b6O:=@Bool.and_assoc
def b4Y:=@Bool.false_and
def b5V:=@List.map_eq_nil_iff
def b3Q:=@decide_eq_false
def b5c:=@Bool.and_false
def b4l:=@decide_eq_true
def b6m:=@Bool.and_eq_true_iff
theorem Ik{l:List Oper}{D:Nat->Prop}(hD:∀ (k:Nat),D k->∀ (o:Oper),l[k]?=some o->∀ e∈o.after.toList,Region.binds .any e=true->D e.on):∀ (i:Nat) (o:Oper),l[i]?=some o->(∀ e∈o.after.toList,Region.binds .any e=true->D e.on) ->
  ∀ k,Nat.testBit ((bV l []).getD i 0) k=true->D k:=by
 obtain⟨r,h1,h2,h3⟩:=BW l [];rw[h1];simp only[List.nil_append,List.length_nil,Nat.zero_add] at h3 ⊢;intro i;induction i using Nat.strongRecOn with
 | _ i ih =>
  intro o ho b2l k hk;obtain⟨e,he,hb,h⟩:=h3 i o ho k hk;have hde:=b2l e he hb;rcases h with rfl|⟨bN,h⟩
  .exact hde
  .have hll:i<l.length:=(b4B.1 ho).1;have hp:l[e.on]?=some (l[e.on]'(by omega)):=b4j (by omega);exact ih e.on bN _ hp (λ e' EK cz=>hD e.on hde _ hp e' EK cz) k h
theorem cg{l:List Oper}(h:backward l=true):∀ (i:Nat) (o:Oper),l[i]?=some o->∀ e∈o.after.toList,Region.binds .any e=true->e.on<i:=by
 intro i o ho e he hb;unfold backward at h;rw[List.all_eq_true] at h;have hi:i<l.length:=(List.getElem?_eq_some_iff.1 ho).1;have:=h i (by simpa using hi);rw[ho] at this;simp only[List.all_eq_true] at this;have:=this e he;rw[hb] at this;simpa [Nat.blt_eq] using this
theorem IM:∀ {ds:List (Option Nat)},distinct ds=true->(∀ d∈ds,∃ t,d=some t)/\∀ (j k t:Nat),ds[j]?=some (some t)->ds[k]?=some (some t)->j=k
 | [],_=>⟨by simp,by simp⟩
 | none::_,h=>by cases h
 | some d::r,h=>by
  simp only[distinct] at h;split at h
  .cases h
  .rename_i a2h;obtain⟨h1,h2⟩:=IM h;have ie:∀ x∈r,x≠some d:=by
    intro x hx e;subst e;rw[b6Z] at a2h;have:=a2h _ hx;simp at this
   refine⟨λ x hx=>?_,λ j k t hj hk=>?_⟩
   .rcases b3Z.1 hx with rfl|hx
    .exact⟨d,rfl⟩
    .exact h1 x hx
   .cases j with
    | zero =>
     simp at hj;subst hj;cases k with
     | zero=>rfl
     | succ k=>exact absurd rfl (ie _ (List.mem_of_getElem? (by simpa using hk)))
    | succ j =>
     cases k with
     | zero =>
      simp at hk;subst hk;exact absurd rfl (ie _ (List.mem_of_getElem? (by simpa using hj)))
     | succ k=>rw[h2 j k t (by simpa using hj) (by simpa using hk)]
theorem mem_ready{ops:Array Oper}{listed:Array Bool}{i:Nat}(hs:listed.size=ops.size):i∈Region.ready .any ops listed↔∃ o,ops[i]?=some o/\listed.getD i false=false/\∀ e∈o.after.toList,Region.binds .any e=true->listed.getD e.on false=true:=by
 unfold Region.ready;simp only[List.mem_filter,List.mem_range,Bool.and_eq_true,Bool.not_eq_true'];constructor
 .rintro⟨hi,h1,h2⟩;have ho:ops[i]?=some ops[i]:=b4R hi;rw[ho] at h2;simp only[b6s,b7g] at h2;refine⟨_,ho,?_,λ e he hb=>?_⟩
  .have:i<listed.size:=by omega
   simpa [Array.getD_eq_getD_getElem?,this] using h1
  .rw[Array.all_eq_true_iff_forall_mem] at h2;have:=h2 e (by simpa using he);simpa [hb] using this
 .rintro⟨o,ho,h1,h2⟩;have hi:i<ops.size:=(b4P.1 ho).1;refine⟨hi,?_,?_⟩
  .have:i<listed.size:=by omega
   simpa [Array.getD_eq_getD_getElem?,this] using h1
  .rw[ho];simp only[b6s,b7g];rw[Array.all_eq_true_iff_forall_mem];intro e he;cases hb:Region.binds .any e with
   | false=>simp
   | true=>simp[h2 e (by simpa using he) hb]
theorem wm{listed:Array Bool}{i k:Nat}(hi:i<listed.size):(listed.setIfInBounds i true).getD k false=true↔listed.getD k false=true\/k=i:=by
 rw[b4z,b4z,b6K];by_cases h:i=k
 .subst h;simp[hi]
 .simp[h,Ne.symm h]
section
variable {c:Ctx} {G:Gh} {s:ah} {a:Act} {w w':World}
theorem Pq(hE:bH c.P c.E){ops:Array Oper}{m:Nat}(dM:backward ops.toList=true)(ri:∀ j o,m<=j->ops.toList[j]?=some o->∀ k,k<j->Nat.testBit ((bV ops.toList []).getD j 0) k=true)
  {Q:ah->Prop} {Q':Exit->Act->World->Prop} (hQ:∀ G s a w,Inv c G s a w->Q s->Q' .normal a w) :
  ∀ (fuel j:Nat) (kn:List (Nat×Bool)) (G:Gh) (s:ah) (a:Act) (w:World) (listed:Array Bool),m<=j->ops.size<=j+fuel->listed.size=ops.size->(∀ k,k<ops.size->(listed.getD k false=true↔k<j)) ->
   Inv c G s a w->fv c.E ops (ops.toList.drop j) kn Q s->wpAny c.P .any ops Q' fuel listed a w:=by
 intro fuel;induction fuel with
 | zero =>
  intro j kn G s a w listed hmj hf cM hl hI hr;have vR:ops.toList.drop j=[]:=b5Q (by simp;omega);rw[vR] at hr;refine⟨?_,hQ _ _ _ _ hI hr⟩;apply b6b.2;intro i hi;obtain⟨o,ho,h1,_⟩:=(mem_ready cM).1 hi;have bN:=(b4P.1 ho).1;have:=(hl i bN).2 (by omega);rw[h1] at this;cases this
 | succ fuel ih =>
  intro j kn G s a w listed hmj hf cM hl hI hr;by_cases hj:j<ops.size
  .have ho:ops[j]?=some ops[j]:=b4R hj;have b0M:ops.toList.drop j=ops[j]::ops.toList.drop (j+1):=by
    rw[List.drop_eq_getElem_cons (by simpa using hj)];simp
   rw[b0M] at hr;constructor
   .intro vR;have:j∈Region.ready .any ops listed:=(mem_ready cM).2 ⟨_,ho,by
     cases hb:listed.getD j false with
     | false=>rfl
     | true=>have:=(hl j hj).1 hb;omega,λ e he hb=>by
     have:=cg dM j ops[j] (by simp) e he hb;exact (hl e.on (by omega)).2 this⟩
    rw[vR] at this;cases this
   .intro i hi;obtain⟨o,cE,h1,h2⟩:=(mem_ready cM).1 hi;have L8:=(b4P.1 cE).1;have hge:j<=i:=by
     rcases b4J i j with h|h
     .have:=(hl i L8).2 h;rw[h1] at this;cases this
     .exact h
    have EM:i=j:=by
     rcases b4J j i with h|h
     .have eY:=Ik (l:=ops.toList) (D:=λ k=>k<j) (λ k hk o' cN e he hb=>by
       have:=cg dM k o' cN e he hb;omega) i o (by simpa using cE) (λ e he hb=>by
        have bN:=cg dM i o (by simpa using cE) e he hb;exact (hl e.on (by omega)).1 (h2 e he hb)) j (ri i o (by omega) (by simpa using cE) j h)
      omega
     .omega
    subst EM;have hoe:o=ops[i]:=by rw[ho] at cE;exact (b6r cE).symm
    have AE:∀ k,k<ops.size->((listed.setIfInBounds i true).getD k false=true↔k<i+1):=λ k hk=>by
     rw[wm (by omega),hl k hk];omega
    unfold wpOp;simp only[ho];have lA:=Fz hE hI hr;split at lA
    .rename_i hw;rw[b4n hw];exact .inl (b5j (λ a' w' ⟨G',s',pL,h1,h2⟩=>ih (i+1) pL G' s' a' w' _ (by omega) (by omega) (by rw[b5f];exact cM) AE h1 h2) (lA Q'))
    .rename_i hw;rw[b3R hw];obtain⟨G',s',pL,h1,h2⟩:=lA;exact ih (i+1) pL G' s' _ w _ (by omega) (by omega) (by rw[b5f];exact cM) AE h1 h2
  .have vR:ops.toList.drop j=[]:=b5Q (by simp;omega);rw[vR] at hr;have pF:Region.ready .any ops listed=[]:=by
    apply b6b.2;intro i hi;obtain⟨o,ho,h1,_⟩:=(mem_ready cM).1 hi;have bN:=(b4P.1 ho).1;have:=(hl i bN).2 (by omega);rw[h1] at this;cases this
   exact⟨λ _=>hQ _ _ _ _ hI hr,λ i hi=>by rw[pF] at hi;cases hi⟩
theorem L4{l:List Oper}{ops:Array Oper}(hl:ops.toList=l){bits:Nat}{o:Oper}{LJ:Bool}(h:Inv c G s a w)(hg:gj l bits s o LJ):Region.wanted o (yielded ops a.tmps)=LJ:=by
 unfold gj at hg;split at hg
 .rename_i hn;simp[Region.wanted,hn,hg]
 .rename_i g want hn;obtain⟨t,v,h1,_,h3,h4⟩:=hg;have hx:=bx h (.tmp t);rw[h3] at hx;have hs:Ax ops g=some t:=by
   unfold Ax;rw[<-h1];unfold cD;rw[<-hl];simp
  unfold GV at h4;split at h4
  .have hy:=Nv (s:=s) hs hx;simp[Region.wanted,hn,hy,h4]
  .have hy:=IY (s:=s) hs hx;simp[Region.wanted,hn,hy,h4]
  .exact h4.elim
theorem a3k(hE:bH c.P c.E){ops:Array Oper}{m:Nat}{es:List Rv}{s0:ah}(dM:backward ops.toList=true)(hm:m<=ops.size)
  (ri:∀ j o,m<=j->ops.toList[j]?=some o->∀ k,k<j->Nat.testBit ((bV ops.toList []).getD j 0) k=true)
  (rj:∀ j k t,j<m->k<m->cD ops.toList j=some t->cD ops.toList k=some t->j=k)
  (a7u:∀ i o,i<m->ops.toList[i]?=some o->VV c.E ops.toList m ((bV ops.toList []).getD i 0) (dR ops.toList es s0 (List.range i)) o (es.getD i ⟨false, .any,none⟩))
  (Nz:∀ i o,i<m->ops.toList[i]?=some o->wK o.dst=true) (tu:∀ i o t,i<m->ops.toList[i]?=some o->zS o.op=true->o.dst=some t->s0.af t=none)
  {Q:ah->Prop} {Q':Exit->Act->World->Prop} (hQ:∀ G s a w,Inv c G s a w->Q s->Q' .normal a w) {kn:List (Nat×Bool)} (L6:∀ G a w,Inv c G (dR ops.toList es s0 (List.range m)) a w->fv c.E ops (ops.toList.drop m) kn Q (dR ops.toList es s0 (List.range m))) :
  ∀ (fuel:Nat) (π:List Nat) (G:Gh) (a:Act) (w:World) (listed:Array Bool),ops.size=π.length+fuel->π.Nodup->(∀ k∈π,k<m)->listed.size=ops.size->(∀ k,k<ops.size->(listed.getD k false=true↔k∈π)) ->
   (∀ k∈π,∀ o,ops.toList[k]?=some o->∀ e∈o.after.toList,Region.binds .any e=true->e.on∈π)->Inv c G (dR ops.toList es s0 π) a w->wpAny c.P .any ops Q' fuel listed a w:=by
 intro fuel;induction fuel with
 | zero =>
  intro π G a w listed hf hn bN cM hl AA hI;have hlen:=zq m π hn bN;have kX:∀ k,k<m->k∈π:=λ k hk=>by
   cases hb:decide (k∈π) with
   | true=>exact b4u hb
   | false =>
    have:=zq m (k::π) (b4x.2 ⟨b5x hb,hn⟩) (λ j hj=>by
     rcases b3Z.1 hj with rfl|hj
     .exact hk
     .exact bN j hj)
    simp at this;omega
  suffices BO:Inv c G (dR ops.toList es s0 (List.range m)) a w from Pq hE dM ri hQ 0 m kn G (dR ops.toList es s0 (List.range m)) a w listed (b4r _) (by omega) cM (λ k hk=>by rw[hl k hk];exact⟨bN k,kX k⟩) BO (L6 G a w BO)
  have heq:∀ t,(dR ops.toList es s0 π).sl t=(dR ops.toList es s0 (List.range m)).sl t/\(dR ops.toList es s0 π).af t=(dR ops.toList es s0 (List.range m)).af t:=λ t =>
   Yq (bits:=2 ^ m - 1) rj bN (by simp) hn List.nodup_range (λ k hk _=>⟨kX k hk,by simpa using hk⟩) t (by
    unfold hidden;rw[List.any_eq_false];intro k hk;simp only[List.mem_range] at hk;split
    .split
     .simp[b6g,hk]
     .simp
    .simp)
  unfold Inv at hI ⊢;rw[Qr] at hI ⊢;rw[<-funext λ t=>(heq t).1,<-funext λ t=>(heq t).2];exact hI
 | succ fuel ih =>
  intro π G a w listed hf hn bN cM hl AA hI;by_cases kX:∀ k,k<m->k∈π
  .suffices BO:Inv c G (dR ops.toList es s0 (List.range m)) a w from Pq hE dM ri hQ (fuel+1) m kn G (dR ops.toList es s0 (List.range m)) a w listed (b4r _) (by have:=zq m π hn bN;omega) cM (λ k hk=>by rw[hl k hk];exact⟨bN k,kX k⟩) BO (L6 G a w BO)
   have heq:∀ t,(dR ops.toList es s0 π).sl t=(dR ops.toList es s0 (List.range m)).sl t/\(dR ops.toList es s0 π).af t=(dR ops.toList es s0 (List.range m)).af t:=λ t =>
    Yq (bits:=2 ^ m - 1) rj bN (by simp) hn List.nodup_range (λ k hk _=>⟨kX k hk,by simpa using hk⟩) t (by
     unfold hidden;rw[List.any_eq_false];intro k hk;simp only[List.mem_range] at hk;split
     .split
      .simp[b6g,hk]
      .simp
     .simp)
   unfold Inv at hI ⊢;rw[Qr] at hI ⊢;rw[<-funext λ t=>(heq t).1,<-funext λ t=>(heq t).2];exact hI
  ·
   have hex:∃ k,k<m/\k∉π/\∀ j,j<k->j∈π:=by
    have:∀ n,(∃ k,k<n/\k<m/\k∉π)->∃ k,k<m/\k∉π/\∀ j,j<k->j∈π:=by
     intro n;induction n with
     | zero=>rintro⟨k,hk,_⟩;omega
     | succ n ihn =>
      rintro⟨k,hk,hkm,Dr⟩;by_cases hs:∃ k,k<n/\k<m/\k∉π
      .exact ihn hs
      .refine⟨k,hkm,Dr,λ j hj=>?_⟩;cases hb:decide (j∈π) with
       | true=>exact b4u hb
       | false=>exact absurd ⟨j,by omega,by omega,b5x hb⟩ hs
    refine this m ?_;have h1:∃ k,¬ (k<m->k∈π):=b7s.1 kX;obtain⟨k,hk⟩:=h1;have h2:=b7a.1 hk;exact⟨k,h2.1,h2.1,h2.2⟩
   obtain⟨k0,a4Y,vQ,a2p⟩:=hex;have a2m:ops[k0]?=some (ops[k0]'(by omega)):=b4R (by omega);constructor
   .intro vR;have:k0∈Region.ready .any ops listed:=(mem_ready cM).2 ⟨_,a2m,by
     cases hb:listed.getD k0 false with
     | false=>rfl
     | true=>exact absurd ((hl k0 (by omega)).1 hb) vQ,λ e he hb=>by
     have a2o:=cg dM k0 ops[k0] (by simp) e he hb;exact (hl e.on (by omega)).2 (a2p e.on a2o)⟩
    rw[vR] at this;cases this
   .intro i hi;obtain⟨o,cE,h1,h2⟩:=(mem_ready cM).1 hi;have L8:=(Array.getElem?_eq_some_iff.1 cE).1;have eA:ops.toList[i]?=some o:=by simpa using cE
    have y8:i∉π:=λ hh=>by
     have:=(hl i L8).2 hh;rw[h1] at this;cases this
    have WY:∀ e∈o.after.toList,Region.binds .any e=true->e.on∈π:=λ e he hb=>by
     have a2o:=cg dM i o eA e he hb;exact (hl e.on (by omega)).1 (h2 e he hb)
    have Hc:=Ik (l:=ops.toList) (D:=λ k=>k∈π) (λ k hk o' cN e he hb=>AA k hk o' cN e he hb) i o eA WY;have vP:i<m:=by
     rcases b4J i m with h|h
     .exact h
     .exact absurd (Hc k0 (ri i o h eA k0 (by omega))) vQ
    have P1:=Ik (l:=ops.toList) (D:=λ k=>k<i) (λ k hk o' cN e he hb=>by
     have:=cg dM k o' cN e he hb;omega) i o eA (λ e he hb=>cg dM i o eA e he hb)
    have NJ:=λ t hh=>Yq (l:=ops.toList) (es:=es) (s0:=s0) (m:=m) (bits:=(bV ops.toList []).getD i 0) (π:=π) (π':=List.range i) rj bN (by intro k hk;simp at hk;omega) hn b6C
     (λ k hk hb=>⟨Hc k hb,by simpa using P1 k hb⟩) t hh
    obtain⟨hg,cH,a3Q⟩:=a7u i o vP eA;have cW:YO ops.toList m ((bV ops.toList []).getD i 0) (dR ops.toList es s0 (List.range i))=YO ops.toList m ((bV ops.toList []).getD i 0) (dR ops.toList es s0 π):=by
     funext x;cases x with
     | tmp t =>
      simp only[YO];split
      .rfl
      .rename_i hh;exact ((NJ t hh).1).symm
     | _=>rfl
    have cF:U7 ops.toList m ((bV ops.toList []).getD i 0) (dR ops.toList es s0 (List.range i))=U7 ops.toList m ((bV ops.toList []).getD i 0) (dR ops.toList es s0 π):=by
     funext t;simp only[U7];split
     .rfl
     .rename_i hh;exact ((NJ t hh).2).symm
    have hg':gj ops.toList ((bV ops.toList []).getD i 0) (dR ops.toList es s0 π) o (es.getD i ⟨false, .any,none⟩).LJ:=by
     unfold gj at hg ⊢;split
     .rename_i Ds;simpa [Ds] using hg
     .rename_i g want Ds;simp only[Ds] at hg;obtain⟨t,b,q1,q2,q3,q4⟩:=hg;refine⟨t,b,q1,q2,?_,q4⟩;have hgm:g<m:=Nat.lt_trans (P1 g q2) vP;have hh:hidden ops.toList m ((bV ops.toList []).getD i 0) t=false:=by
       unfold hidden;rw[List.any_eq_false];intro k hk;simp only[List.mem_range] at hk;split
       .rename_i d hd;split
        .rename_i I1;have I1:=b3G I1;subst I1;have:=rj k g d hk hgm hd q1;subst this;rw[q2];simp
        .simp
       .simp
      exact ((NJ t hh).1).trans q3
    have hw:=L4 (ops:=ops) rfl hI hg';have AB:∀ (G':Gh) (a':Act) (w':World),Inv c G' (dR ops.toList es s0 (π++[i])) a' w'->wpAny c.P .any ops Q' fuel (listed.setIfInBounds i true) a' w':=by
     intro G' a' w' BO;refine ih (π++[i]) G' a' w' _ (by simp;omega) ?_ ?_ (by rw[b5f];exact cM) ?_ ?_ BO
     .rw[b4h];exact⟨hn,by simp,λ x hx y hy=>by simp at hy;subst hy;exact λ e=>y8 (e ▸ hx)⟩
     .intro k hk;rcases b3H.1 hk with hk|hk
      .exact bN k hk
      .simp at hk;omega
     .intro k hk;rw[wm (by omega),hl k hk];simp
     .intro k hk o' cN e he hb;rcases b3H.1 hk with hk|hk
      .exact b5N _ (AA k hk o' cN e he hb)
      .simp at hk;subst hk;rw[eA] at cN;simp only[b3C] at cN;subst cN;exact b5N _ (WY e he hb)
    have R1:cD ops.toList i=o.dst:=by simp[cD,eA]
    unfold wpOp;simp only[cE];cases Qd:(es.getD i ⟨false, .any,none⟩).LJ with
    | true =>
     rw[Qd] at hw;rw[b4n hw];obtain⟨vc,hq,ep⟩:=cH Qd;rw[cW,cF] at hq;refine .inl (b5j ?_ (Oo hE hI (lk':=U7 ops.toList m ((bV ops.toList []).getD i 0) (dR ops.toList es s0 π)) ?_ ?_ hq ep))
     .intro a' w' hd;obtain⟨G',oK⟩:=T3 hI (Nz i o vP eA) (λ t ob I1 UB=>by
       rw[UB] at hq;have hcr:=Q4 hq;have h0:=tu i o t vP eA hcr I1;have EN:=(gI ops.toList es t π s0 (λ k hk hkd=>by
        have:=rj k i t (bN k hk) vP hkd (by rw[R1];exact I1);subst this;exact y8 hk)).2
       rw[EN,h0]) hd
      refine AB G' a' w' ?_;rw[zr,R1];exact oK
     .intro id ob aX;unfold U7 at aX;split at aX
      .cases aX
      .exact aX
     .intro x;cases x with
      | tmp t =>
       simp only[YO];split
       .trivial
       .exact bx hI (.tmp t)
      | const v=>exact bx hI (.const v)
      | global g=>exact bx hI (.global g)
      | func f=>exact bx hI (.func f)
    | false =>
     rw[Qd] at hw;rw[hw];obtain⟨hv,UB⟩:=a3Q Qd;refine AB G _ w ?_;rw[zr,R1,hv,UB,Sx];exact Inv.put (v := .eh) hI rfl
theorem Xo{l:List Oper}{K:Prop}(h:Inv c G s a w):zp l s K->K:=by
 induction l with
 | nil=>exact λ h=>h
 | cons o r ih =>
  intro hk;simp only[zp] at hk;split at hk
  .exact ih (Kj (h.aB _) hk)
  .exact ih hk
theorem Wf(hE:bH c.P c.E)(ic:c.P.follows .mixedOrders=true){id:Nat}{ops:Array Oper}{Q:ah->Prop}{Q':Exit->Act->World->Prop}(hQ:∀ G s a w,Inv c G s a w->Q s->Q' .normal a w)
  (h:Inv c G s a w) (hd:We c.E ops Q s):(Code.region id ops true).wp c.P Q' a w:=by
 unfold We at hd;simp only at hd;split at hd;case h_2=>exact hd.elim
 case h_1 hb =>
  simp only[Bool.and_eq_true] at hb;obtain⟨P2,F3,dM⟩:=hb;obtain⟨r,ha1,ha2,_⟩:=BW ops.toList [];have WV:(bV ops.toList []).length=ops.size:=by rw[ha1];simpa using ha2
  obtain⟨hm1,_,hm3⟩:=DQ (bV ops.toList []) 0 0 (b4r _);simp only[b5n] at hm1 hm3;rw[WV] at hm1;generalize hmd:oR (bV ops.toList []) 0 0=m at *
  have ri:∀ j o,m<=j->ops.toList[j]?=some o->∀ k,k<j->Nat.testBit ((bV ops.toList []).getD j 0) k=true:=by
   intro j o hmj ho k hk;have hj:j<ops.size:=by have:=(List.getElem?_eq_some_iff.1 ho).1;simpa using this
   have hg:(bV ops.toList [])[j]?=some ((bV ops.toList [])[j]'(by omega)):=List.getElem?_eq_getElem (by omega);have:=hm3 j _ hg hmj;rw[List.getD_eq_getElem?_getD,hg,Option.getD_some,show (bV ops.toList [])[j]'(by omega)=2 ^ j - 1 by omega,Nat.testBit_two_pow_sub_one];simpa using hk
  obtain⟨_,R1⟩:=IM F3;have rj:∀ j k t,j<m->k<m->cD ops.toList j=some t->cD ops.toList k=some t->j=k:=by
   have get:∀ j t,j<m->cD ops.toList j=some t->((ops.toList.take m).map (·.dst))[j]?=some (some t):=by
    intro j t hj P8;unfold cD at P8;simp only[Option.bind_eq_some_iff] at P8;obtain⟨o,ho,hot⟩:=P8;rw[List.getElem?_map,List.getElem?_take,if_pos hj,ho];simp[hot]
   intro j k t hj hk P8 hkt;exact R1 j k t (get j t hj P8) (get k t hk hkt)
  obtain⟨es,pL,s',HO,hq⟩:=uK hd;have hlen:(ops.toList.take m).length=m:=by simp;omega
  have AD:∀ j o,(ops.toList.take m)[j]?=some o->ops.toList[0+j]?=some o:=λ j o ho=>by
   rw[b5i] at ho;split at ho
   .simpa using ho
   .cases ho
  obtain⟨ht1,ht2⟩:=a0u (ops.toList.take m) 0 es [] _ s' HO AD rfl rfl;simp only[b4i,b5n,hlen] at ht1 ht2;subst ht2;have hI0:Inv c G ((ops.toList.take m).foldl ah.fresh s) a w.drew:=FY _ (bw.drew h);refine wp_region_any ic ?_;refine a3k hE (m:=m) (es:=es) (s0:=(ops.toList.take m).foldl ah.fresh s) dM hm1 ri rj ?_ (λ i o vP ho=>b4C.1 P2 o (b5h (by rw[b5i,b4n vP];exact ho))) ?_ hQ (kn:=pL) (λ G a w hI=>Xo hI hq) ops.size [] G a _ _ (by simp) (by simp) (by simp) (by simp) ?_ (by simp) hI0
  .intro i o vP ho;exact ht1 i o (by rw[b5i,b4n vP];exact ho)
  .intro i o t vP ho hc I1;exact (Dq (ops.toList.take m) s t).2 o (b5h (by rw[b5i,b4n vP];exact ho)) hc I1
  .intro k hk;simp[hk]
end
section
variable {w w':World}
theorem VU.ctx{c c':Ctx}{S:Nat->Prop}{v:Arg}{x:Value}(h:VU c S w v x)(cv:∀ b,St c S b->St c' S b):VU c' S w v x:=by
 cases v with
 | ref v=>obtain⟨b,o,cs,h1,h2,h3⟩:=h;exact⟨b,o,cs,h1,cv b h2,h3⟩
 | val v=>exact h
 | fn f=>exact h
 | di v=>exact h
 | own v=>exact h
 | box k=>exact h
theorem C1.ctx{c c':Ctx}(hP:c'.P=c.P){G:Gh}{lk:Nat->Option aD}{v:AV}{x:Value}(h:C1 c G lk w v x)(cv:∀ b,St c G.S b->St c' G.S b):C1 c' G lk w v x:=by
 cases v with
 | dc v=>obtain⟨b,o,cs,h1,h2,h3⟩:=h;exact⟨b,o,cs,h1,cv b h2,h3⟩
 | iC v=>obtain⟨f,gl,l,h1,h2,h3⟩:=h;exact⟨f,gl,l,h1,hP ▸ h2,h3.imp λ _ _ _ q=>q.ctx cv⟩
 | _=>exact h
theorem TR.ctx{c c':Ctx}(hP:c'.P=c.P){G:Gh}{lk:Nat->Option aD}{v:AV}{x:Value}(h:TR c G lk w v x)(cv:∀ b,St c G.S b->St c' G.S b):TR c' G lk w v x:=by
 cases v with
 | aw id=>exact (show C1 c G lk w (.aw id) x from h).ctx hP cv
 | dc v=>exact (show C1 c G lk w (.dc v) x from h).ctx hP cv
 | agg cs=>obtain⟨l,h1,h2⟩:=h;exact⟨l,h1,h2.imp λ _ _ _ q=>q.ctx hP cv⟩
 | aI v=>exact h
 | any=>trivial
 | _=>exact h.elim
theorem CR.ctx{c c':Ctx}(hP:c'.P=c.P){G:Gh}{lk:Nat->Option aD}{v:AV}{x:Value}(h:CR c G lk w v x)(cv:∀ b,St c G.S b->St c' G.S b):CR c' G lk w v x:=by
 cases v with
 | aI v=>exact h
 | agg cs=>obtain⟨l,h1,h2⟩:=h;exact⟨l,h1,h2.imp λ _ _ _ q=>q.ctx hP cv⟩
 | any=>exact (show C1 c G lk w (.any) x from h).ctx hP cv
 | eh=>exact (show C1 c G lk w (.eh) x from h).ctx hP cv
 | nil=>exact (show C1 c G lk w (.nil) x from h).ctx hP cv
 | dc v=>exact (show C1 c G lk w (.dc v) x from h).ctx hP cv
 | ptr i o=>exact (show C1 c G lk w (.ptr i o) x from h).ctx hP cv
 | row i=>exact (show C1 c G lk w (.row i) x from h).ctx hP cv
 | eB i j o=>exact (show C1 c G lk w (.eB i j o) x from h).ctx hP cv
 | iR vs=>exact (show C1 c G lk w (.iR vs) x from h).ctx hP cv
 | fn f=>exact (show C1 c G lk w (.fn f) x from h).ctx hP cv
 | aw i=>exact (show C1 c G lk w (.aw i) x from h).ctx hP cv
 | sub i j o z=>exact (show C1 c G lk w (.sub i j o z) x from h).ctx hP cv
 | eU i j o z=>exact (show C1 c G lk w (.eU i j o z) x from h).ctx hP cv
 | di f cs=>exact (show C1 c G lk w (.di f cs) x from h).ctx hP cv
 | iC v=>exact (show C1 c G lk w (.iC v) x from h).ctx hP cv
 | mp i=>exact (show C1 c G lk w (.mp i) x from h).ctx hP cv
theorem VR.ctx{c c':Ctx}(hP:c'.P=c.P){G:Gh}{lk:Nat->Option aD}{v:AV}{x:Value}(h:VR c G lk w v x)(cv:∀ b,St c G.S b->St c' G.S b):VR c' G lk w v x:=by
 cases v with
 | aI v=>exact h
 | agg cs=>obtain⟨l,h1,h2⟩:=h;exact⟨l,h1,h2.imp λ _ _ _ q=>q.ctx hP cv⟩
 | iR vs=>obtain⟨l,h1,h2⟩:=h;exact⟨l,h1,h2.imp λ _ _ _ q=>q.ctx hP cv⟩
 | di f cs=>obtain⟨l,h1,h2⟩:=h;exact⟨l,h1,h2.imp λ _ _ _ q=>q.ctx hP cv⟩
 | any=>exact (show C1 c G lk w (.any) x from h).ctx hP cv
 | eh=>exact (show C1 c G lk w (.eh) x from h).ctx hP cv
 | nil=>exact (show C1 c G lk w (.nil) x from h).ctx hP cv
 | dc v=>exact (show C1 c G lk w (.dc v) x from h).ctx hP cv
 | ptr i o=>exact (show C1 c G lk w (.ptr i o) x from h).ctx hP cv
 | row i=>exact (show C1 c G lk w (.row i) x from h).ctx hP cv
 | eB i j o=>exact (show C1 c G lk w (.eB i j o) x from h).ctx hP cv
 | fn f=>exact (show C1 c G lk w (.fn f) x from h).ctx hP cv
 | aw i=>exact (show C1 c G lk w (.aw i) x from h).ctx hP cv
 | sub i j o z=>exact (show C1 c G lk w (.sub i j o z) x from h).ctx hP cv
 | eU i j o z=>exact (show C1 c G lk w (.eU i j o z) x from h).ctx hP cv
 | iC v=>exact (show C1 c G lk w (.iC v) x from h).ctx hP cv
 | mp i=>exact (show C1 c G lk w (.mp i) x from h).ctx hP cv
theorem OR.ctx{c c':Ctx}(hP:c'.P=c.P){G:Gh}{lk:Nat->Option aD}{id:Nat}{o:aD}(h:OR c G lk w id o)(cv:∀ b,St c G.S b->St c' G.S b):OR c' G lk w id o:=by
 cases o with
 | box cs=>obtain⟨b,l,t,h1,h2,h3⟩:=h;exact⟨b,l,t,h1,h2,h3.imp λ _ _ _ q=>q.ctx hP cv⟩
 | row e τ xs=>exact h
 | aw τ xs=>exact h
 | map m=>exact h
def Ctx.fz(c:Ctx)(w:World)(S:Nat->Prop)(Z:Nat->Prop):Ctx :=
 { c with w0:=w,X:=λ b=>((c.w0.heap.size<=b/\b<w.heap.size)\/c.X b)/\¬ Z b,S0:=S,Z:=λ b=>Z b\/c.Z b }
theorem Inv.fz{c:Ctx}{G:Gh}{s:ah}{a:Act}(h:Inv c G s a w){Z:Nat->Prop}(hZ:∀ b,Z b->yR c G s.af w b):Inv (c.fz w G.S Z) G s a w:=by
 have cv:∀ b,St c G.S b->St (c.fz w G.S Z) G.S b:=λ b hb=>by
  rcases hb with hb|⟨h1,h2,h3⟩
  .exact .inl hb
  .refine .inr ⟨b3X h1 h.aR.size,λ q=>q.1.elim (λ q=>by omega) h2,λ q=>q.elim (λ z=>(hZ b z).1.elim (λ q=>by omega) h2) h3⟩
 exact {
  defers:=h.defers,size:=h.size
  aR:=bE.refl _ _
  jP:=⟨λ b hb=>hb.1.elim (λ q=>q.2) λ q=>b3X (h.jP.1 b q) h.aR.size,λ g hg=>by
   obtain⟨_,h2,h3,_⟩:=h.jP.2 g hg;obtain⟨g1,g2⟩:=h.sOk.2 g hg;exact⟨g1,λ q=>q.1.elim (λ q=>by omega) h2,h.dH g g1,g2⟩⟩
  eu:=λ b _ _=>b5G
  sX:=λ b hb=>hb
  dH:=h.dH
  aB:=λ i=>(h.aB i).ctx (c:=c) (c':=c.fz w G.S Z) rfl cv
  aN:=λ id o ho=>(h.aN id o ho).ctx (c:=c) (c':=c.fz w G.S Z) rfl cv
  place:=λ id o b ho hb=>by
   obtain⟨h1,h2,h3⟩:=h.place id o b ho hb;exact⟨.inr ⟨h1.imp (λ q=>⟨q,h3⟩) (λ q=>q),λ z=>(hZ b z).2.2.2.1 id o ho hb⟩,h2,h3⟩
  apart:=h.apart
  aP:={
   tr:=h.aP.tr,nd:=h.aP.nd,ap:=h.aP.ap
   pl:=λ id τ xs b ht hb=>by
    obtain⟨h1,h2,h3,h4⟩:=h.aP.pl id τ xs b ht hb;exact⟨.inr ⟨h1.imp (λ q=>⟨q,h3⟩) (λ q=>q),λ z=>(hZ b z).2.2.2.2 id τ xs ht hb⟩,h2,h3,h4⟩ }
  root:=h.root,iP:=h.iP,dw:=h.dw,fh:=h.fh }
theorem Inv.b2Y{c:Ctx}{G:Gh}{s:ah}{a:Act}{G':Gh}{s':ah}{a':Act}(h:Inv c G s a w){Z:Nat->Prop}(hZ:∀ b,Z b->yR c G s.af w b)(h':Inv (c.fz w G.S Z) G' s' a' w') :
  Inv c G' s' a' w'/\∀ b,Z b->w'.heap[b]?=w.heap[b]?/\yR c G' s'.af w' b:=by
 have cv:∀ b,St (c.fz w G.S Z) G'.S b->St c G'.S b:=λ b hb=>by
  rcases hb with hb|⟨h1,h2,h3⟩
  .exact .inl hb
  .have hz:¬ Z b:=λ z=>h3 (.inl z);refine .inr ⟨?_,λ q=>h2 ⟨.inr q,hz⟩,λ q=>h3 (.inr q)⟩;rcases b4J b c.w0.heap.size with q|q
   .exact q
   .exact absurd ⟨.inl ⟨q,h1⟩,hz⟩ h2
 have back:∀ b,(w.heap.size<=b\/(c.fz w G.S Z).X b)->c.w0.heap.size<=b\/c.X b:=λ b hb=>by
  have:=h.aR.size;exact hb.elim (λ q => .inl (by omega)) λ q=>q.1.elim (λ q => .inl q.1) .inr
 refine⟨{
  defers:=h'.defers,size:=h'.size
  aR:=h.aR.trans h'.aR λ i hi hx=>hx.1.elim (λ q=>by omega) (λ q=>q)
  jP:=h.jP
  eu:=λ b hb hx=>(h'.eu b (b3X hb h.aR.size) (λ q=>q.1.elim (λ q=>by omega) hx)).trans (h.eu b hb hx)
  sX:=λ b hb=>h'.sX b (h.sX b hb)
  dH:=h'.dH
  aB:=λ i=>(h'.aB i).ctx (c:=c.fz w G.S Z) (c':=c) rfl cv
  aN:=λ id o ho=>(h'.aN id o ho).ctx (c:=c.fz w G.S Z) (c':=c) rfl cv
  place:=λ id o b ho hb=>by
   obtain⟨h1,h2,h3⟩:=h'.place id o b ho hb;exact⟨back b h1,h2,h3⟩
  apart:=h'.apart
  aP:={
   tr:=h'.aP.tr,nd:=h'.aP.nd,ap:=h'.aP.ap
   pl:=λ id τ xs b ht hb=>by
    obtain⟨h1,h2,h3,h4⟩:=h'.aP.pl id τ xs b ht hb;exact⟨back b h1,h2,h3,h4⟩ }
  root:=h'.root,iP:=h'.iP,dw:=h'.dw,fh:=h'.fh },λ b z=>?_⟩
 obtain⟨z1,z2,z3,z4,z5⟩:=hZ b z;have W6:¬ (c.fz w G.S Z).X b:=λ q=>q.2 z;have ie:¬ (w.heap.size<=b\/(c.fz w G.S Z).X b):=λ q=>q.elim (λ q=>by omega) W6;exact⟨h'.aR.block b z3 W6,z1,λ q=>z2 ((h'.eu b z3 W6).1 q),b3X z3 h'.aR.size,λ i o cE hb=>ie (h'.place i o b cE hb).1,λ j τ xs hj hb=>ie (h'.aP.pl j τ xs b hj hb).1⟩
end
theorem A0{α β:Type}{f g:α->β}{l:Array α}(h:∀ x∈l.toList,f x=g x):l.map f=l.map g:=by
 apply b7r;rw[b5F,b5F];exact b7A h
theorem execOp_congr{o:Oper}{ρ ρ':Operand->Value}{l:List Operand}(h:a1n o.op=some l)(he:∀ x∈l,ρ x=ρ' x):execOp ρ o=execOp ρ' o:=by
 have parts:∀ ps:Array (Nat×Operand),l=ps.toList.map (·.2)->(ps.map λ (i,x)=>(i,ρ x))=ps.map λ (i,x)=>(i,ρ' x):=λ ps hl=>A0 λ x hx=>by
  obtain⟨i,x⟩:=x;simp only;rw[he x (by rw[hl];exact b3N.2 ⟨(i,x),hx,rfl⟩)]
 unfold a1n at h;split at h;case h_21=>cases h
 case h_20 T x l hh m bB =>
  simp only[b3C] at h;subst h;have key:∀ q:Option Operand,(∀ y∈q.toList,ρ y=ρ' y)->q.map ρ=q.map ρ':=λ q hq=>by
   cases q with
   | none=>rfl
   | some y=>rw[b6s,b6s,hq y (by simp)]
  simp only[execOp,bB,he x (by simp),key l (λ y hy=>he y (by simp at hy;simp[hy])),key hh (λ y hy=>he y (by simp at hy;simp[hy])),key m (λ y hy=>he y (by simp at hy;simp[hy]))]
 case h_18 c bB =>
  split at h;case h_3=>cases h
  case h_1 f hc =>
   simp only[b3C] at h;subst h;have ha:c.args.map ρ=c.args.map ρ':=A0 λ x hx=>he x (by simp[hx]);simp only[execOp,bB,resolve,hc,ha,he f (by simp)]
  case h_2 b hc =>
   simp only[b3C] at h;subst h;have ha:c.args.map ρ=c.args.map ρ':=A0 λ x hx=>he x hx;simp only[execOp,bB,resolve,hc,ha]
 all_goals
  rename_i bB
  simp only[b3C] at h
  first
   | (have:=parts _ h.symm;simp only[execOp,bB,this];done)
   | (subst h;simp only[execOp,bB];done)
   | (subst h;simp only[execOp,bB,b6F];done)
   | (subst h;simp only[b3Z,b6k,b7t,b7h,forall_eq] at he;simp only[execOp,bB,he];done)
   | (subst h;simp only[b3Z,b6k,b7t,b7h,forall_eq] at he;simp only[execOp,bB,he.1,he.2];done)
   | (subst h;simp only[b3Z,b6k,b7t,b7h,forall_eq] at he;simp only[execOp,bB,he.1,he.2.1,he.2.2];done)
theorem a3c{u v:TV}(h:BA u v):u=v:=by
 unfold BA at h;split at h
 .rename_i x hx;have:=TV.aW hx;rw[this,h]
 .exact h.elim
theorem TH{v u:AV}(h:OY v u):v=u:=by
 unfold OY at h;split at h
 .rw[a3c h]
 .rw[a3c h]
 .rw[h]
 .rw[h]
 .rw[h.1,h.2]
 .rfl
 .rfl
 .exact h.elim
theorem JS{c:Ctx}{G:Gh}{lk:Nat->Option aD}{a:Act}{w:World}{o:Oper}{v:AV}{x:Value}(hr:(execOp a.eval o).run c.P w = .ok (.value x) w)(hv:VR c G lk w v x) :
  ∃ x,(execOp a.eval o).run c.P w = .ok (.value x) w/\VR c G lk w v x:=⟨x,hr,hv⟩
theorem a4r{c:Ctx}{G:Gh}{sl:Nat->AV}{n:Nat}{lk:Nat->Option aD}{a:Act}{w:World}(hE:bH c.P c.E)(hI:bw c G sl n lk a w){lk':Nat->Option aD}(cF:∀ id o,lk' id=some o->lk id=some o){ev:Operand->AV}(cW:∀ x,VR c G lk w (ev x) (a.eval x))
  {o:Oper} {vc:Vc} {v:AV} {ob:Option aD} (hq:On c.E lk' ev o=some (vc,v,ob)) (ep:vc.ok) (a0W:reads o.op=true) :
  ∃ x,(execOp a.eval o).run c.P w = .ok (.value x) w/\VR c G lk w v x:=by
 unfold On at hq;split at hq;case h_1 x bB =>
  simp only[b3C,b3F] at hq;obtain⟨rfl,rfl,rfl⟩:=hq;exact JS (by simp[execOp,bB]) (cW x)
 case h_8 T ad bB =>
  split at hq
  .rename_i τ r hT;split at hq
   .rename_i u hu;simp only[b3C,b3F] at hq;obtain⟨rfl,rfl,rfl⟩:=hq;obtain⟨b,o',cs,h1,h2,h3,h4⟩:=rV hI.aN cF hu (cW ad);refine JS ?_ h4;simp only[execOp,bB,h1,b4q,mY hE hT h2 h3,b4g,b4s]
   .cases hq
  .cases hq
 case h_9 x bB =>
  have key:∀ u,ev x=u->(∃ b o,a.eval x = .pointer (some ⟨b,o,none⟩))->vc = .none->v=u->ob=none->∃ x,(execOp a.eval o).run c.P w = .ok (.value x) w/\VR c G lk w v x:=by
   rintro u hu ⟨b,o',hx⟩ _ rfl rfl;refine JS (x:=a.eval x) ?_ (hu ▸ cW x);simp only[execOp,bB,hx,b4s]
  have hx:=cW x;split at hq
  .rename_i u hu;simp only[b3C,b3F] at hq;rw[hu] at hx;obtain⟨b,o',cs,h1,_⟩:=hx;exact key _ hu ⟨b,o',h1⟩ hq.1.symm hq.2.1.symm hq.2.2.symm
  .rename_i id off hu;simp only[b3C,b3F] at hq;rw[hu] at hx;obtain⟨b,_,h1,_⟩:=hx;exact key _ hu ⟨b,off,h1⟩ hq.1.symm hq.2.1.symm hq.2.2.symm
  .rename_i id i off hu;simp only[b3C,b3F] at hq;rw[hu] at hx;obtain⟨b,_,_,_,_,_,_,_,_,h1⟩:=hx;exact key _ hu ⟨b,_,h1⟩ hq.1.symm hq.2.1.symm hq.2.2.symm
  .cases hq
 case h_10 T x i bB =>
  split at hq
  .rename_i s r hT;have hx:=cW x;split at hq
   .rename_i u hu;rw[hu] at hx;split at hq
    .rename_i y hy;have e:=TV.aW hy;subst e;split at hq
     .rename_i f hf;simp only[b3C,b3F] at hq;obtain⟨rfl,rfl,rfl⟩:=hq;obtain⟨b,o',cs,h1,h2,h3,h4⟩:=hx;have bN:i<s.fU.length:=by
       have:=(b4B.1 hf).1;rw[<-aS.Ci s y,b3Y];exact this
      refine JS (x := .pointer (some ⟨b,o'+s.fA i,none⟩)) ?_ ?_
      .simp only[execOp,bB,h1,b4q,kQ hE hT bN,b4g,b4s]
      .refine⟨b,o'+s.fA i,(cs.drop (s.fA i)).take f.τ.size,rfl,h2,h3.part _ _,?_⟩;exact IN hf h4
     .cases hq
    .cases hq
   .rename_i id off hu;rw[hu] at hx;split at hq
    .rename_i bN;simp only[Option.some.injEq,Prod.mk.injEq] at hq;obtain⟨rfl,rfl,rfl⟩:=hq;have bN:i<s.fU.length:=by simpa [Nat.blt_eq] using bN
     obtain⟨b,h1,h2,h3⟩:=hx;refine JS (x := .pointer (some ⟨b,off+s.fA i,none⟩)) ?_ ⟨b,h1,rfl,h3⟩;simp only[execOp,bB,h2,b4q,kQ hE hT bN,b4g,b4s]
    .cases hq
   .rename_i id k off hu;rw[hu] at hx;split at hq
    .rename_i bN;simp only[Option.some.injEq,Prod.mk.injEq] at hq;obtain⟨rfl,rfl,rfl⟩:=hq;have bN:i<s.fU.length:=by simpa [Nat.blt_eq] using bN
     obtain⟨b,m,cap,e,τ,xs,h1,h2,h3,h4⟩:=hx;refine JS (x := .pointer (some ⟨b,k * τ.size+(off+s.fA i),none⟩)) ?_ ⟨b,m,cap,e,τ,xs,h1,h2,h3,rfl⟩;simp only[execOp,bB,h4,b4q,kQ hE hT bN,b4g,b4s,b6A]
    .cases hq
   .cases hq
  .cases hq
 case h_12 T x ix bB =>
  split at hq
  .rename_i τ r hT;split at hq
   .rename_i k i hi;have xn:=cW ix;rw[hi] at xn;obtain⟨xn,_⟩:=xn;simp only[b3O,b3T] at xn;have hx:=cW x;split at hq
    .rename_i u hu;rw[hu] at hx;split at hq
     .rename_i xs lB;have e:=TV.aW lB;subst e;simp only[b3C,b3F] at hq;obtain⟨rfl,rfl,rfl⟩:=hq;obtain⟨h0,h1⟩:=ep;obtain⟨ad,cap,h2,h3,h4,h5⟩:=jZ hx;rcases h5 with h5|⟨b,o',h5,h6,h7⟩
      .subst h5;simp only[b4b] at h1;omega
      .subst h5;have bN:i.toNat<xs.length:=by omega
       obtain⟨cs,m1,m2,m3⟩:=du.at_ (n:=τ.size) _ b o' h7 (by
        intro d hd;obtain⟨y,_,rfl⟩:=b3N.1 hd;exact Ty.cP τ y) i.toNat (τ.aQ (xs.getD i.toNat τ.zero)) (by simp[List.getD,bN])
       refine JS (x := .pointer (some ⟨b,o'+i.toNat * τ.size,none⟩)) ?_ ⟨b,_,cs,rfl, .inl h6,m3,m2⟩;simp only[execOp,bB,h2,xn,b4q,sx hE hT h0 h1,b4g,b4s]
     .cases hq
    .rename_i id hu;rw[hu] at hx;split at hq
     .rename_i e' bj xs hl;split at hq
      .rename_i jx;have jx:=b4u jx;subst jx;simp only[b3C,b3F] at hq;obtain⟨rfl,rfl,rfl⟩:=hq;obtain⟨h0,h1⟩:=ep;obtain⟨h2,_,_⟩:=hx;have oK:=cF _ _ hl;obtain⟨l,m1,_,_⟩:=hI.aN _ _ oK;have bN:i.toNat<xs.length:=by omega
       rcases m1.2 with ⟨_,hn⟩|⟨g,cap,cur,hv,_⟩
       .omega
       .refine JS (x := .pointer (some ⟨g,0+i.toNat * bj.size,none⟩)) ?_ ⟨g,_,cap,e',bj,xs,hv,oK,bN,by simp⟩;simp only[execOp,bB,h2,hv,xn,b4q,sx hE hT h0 h1,b4g,b4s]
      .cases hq
     .cases hq
    .cases hq
   .cases hq
  .cases hq
 case h_24=>cases hq
 all_goals
  rename_i bB
  rw[bB] at a0W
  cases a0W
theorem Yl{c:Ctx}{G:Gh}{s:ah}{a:Act}{w:World}(hE:bH c.P c.E)(h:Inv c G s a w){o:Oper}{vc:Vc}{v:AV}(hq:rop c.E s o=some (vc,v))(ep:vc.ok) :
  ∃ x,(execOp a.eval o).run c.P w = .ok (.value x) w/\VR c G s.af w v x:=by
 unfold rop at hq;split at hq
 .rename_i hr;split at hq
  .rename_i vc' v' YZ;simp only[b3C,b3F] at hq;obtain⟨rfl,rfl⟩:=hq;exact a4r hE h (λ _ _ h=>h) (bx h) YZ ep hr
  .cases hq
 .cases hq
theorem TI:∀ {v u:List AV},Wc v u->v=u
 | [],[],_=>rfl
 | a::Z9,b::bs,h=>by rw[TH h.1,TI h.2]
 | [],_::_,h=>h.elim
 | _::_,[],h=>h.elim
theorem a3n{v u:AV}(h:a0E v u):v=u:=by
 unfold a0E at h;split at h
 .rw[TI h]
 .exact TH h
structure nP(D:List Nat)(a b:Act):Prop where
 size:a.tmps.size=b.tmps.size
 da:a.defers=[]
 db:b.defers=[]
 at':∀ t,t∉D->a.tmps.getD t undef=b.tmps.getD t undef
theorem nP.put{D D':List Nat}{a b:Act}(h:nP D a b){d:Option Nat}{x:Value}(hD:∀ t,t∈D->t∉D'->d=some t):nP D' (a.put d x) (b.put d x) where
 size:=by cases d<;>simp[Act.put,h.size]
 da:=by cases d<;>exact h.da
 db:=by cases d<;>exact h.db
 at' t ht:=by
  rw[ei,ei,h.size];by_cases hd:d=some t
  .by_cases hl:t<b.tmps.size
   .rw[b4n ⟨hd,hl⟩,b4n ⟨hd,hl⟩]
   .rw[b3R (λ q=>hl q.2),b3R (λ q=>hl q.2)];have h1:a.tmps.getD t undef=undef:=by rw[b4z,b5d (by rw[h.size];omega)];rfl
    have h2:b.tmps.getD t undef=undef:=by rw[b4z,b5d (by omega)];rfl
    rw[h1,h2]
  .rw[b3R (λ q=>hd q.1),b3R (λ q=>hd q.1)];refine h.at' t λ hm=>hd (hD t hm ht)
theorem nP.exec{D:List Nat}{a b:Act}(h:nP D a b){o:Oper}(hu:fW D o=true):execOp a.eval o=execOp b.eval o:=by
 unfold fW at hu;split at hu
 .rename_i l hl;rw[b4C] at hu;refine execOp_congr hl λ x hx=>?_;have:=hu x hx;cases x with
  | tmp t=>exact h.at' t (by simpa using this)
  | _=>rfl
 .cases hu
theorem nM{D D':List Nat}{o:Oper}(h:fW D o=true)(hs:∀ t∈D',t∈D):fW D' o=true:=by
 unfold fW at h ⊢;split at h
 .rename_i l hl;rw[b4C] at h ⊢;intro x hx;have:=h x hx;cases x with
  | tmp t =>
   simp only[b3S,List.contains_eq_mem,b3D] at this ⊢;exact λ q=>this (hs t q)
  | _=>rfl
 .cases h
section
variable {c:Ctx} {G:Gh} {s:ah} {a:Act} {w w':World}
theorem a6A{P:Program}{o:Oper}{b:Act}{N N':Act->World->Prop}{Q:Exit->Act->World->Prop}(he:execOp a.eval o=execOp b.eval o)(hN:∀ x w',N (b.put o.dst x) w'->N' (a.put o.dst x) w')
  (hd:∀ b' w',N b' w'->b'.defers=[]) (h:o.wp P b w N (λ _ _ _=>False)):o.wp P a w N' Q:=by
 unfold Oper.wp at *
 rw[he];generalize (execOp b.eval o).run P w=r at *
 cases r with
 | ok n w' =>
  cases n<;>simp only[Oper.upon] at h ⊢;case value v=>exact hN _ _ h
  case skip=>exact hN _ _ h
  case defer d =>
   have:=hd _ _ h;cases hh:o.dst<;>simp[Act.put,hh] at this
  case enter f args=>exact Calls.mono h (λ e w'' q=>by cases e<;>first|exact hN _ _ q|exact q.elim λ _ q=>q.elim λ _ q=>q.elim|exact q.elim)
  case row r args=>exact Rows.mono h (λ _ _ q=>hN _ _ q)
 | halt x w'=>cases x<;>simp only[Oper.upon] at h ⊢
theorem exists_least{p:Nat->Prop}:∀ n,p n->∃ k,p k/\∀ j,j<k->¬ p j:=by
 intro n;induction n using Nat.strongRecOn with
 | _ n ih =>
  intro h;by_cases hq:∃ j,j<n/\p j
  .obtain⟨j,h1,h2⟩:=hq;exact ih j h1 h2
  .exact⟨n,h,λ j hj hp=>hq ⟨j,hj,hp⟩⟩
theorem nP.eq{a b:Act}(h:nP [] a b):a=b:=by
 obtain⟨ta,da⟩:=a;obtain⟨tb,db⟩:=b;obtain⟨h1,h2,h3,h4⟩:=h;simp only at h1 h2 h3 h4;subst h2 h3;congr 1;apply Array.ext h1;intro i hi hj;have:=h4 i (by simp);simpa [Array.getD_eq_getD_getElem?,Array.getElem?_eq_getElem hi,Array.getElem?_eq_getElem hj] using this
theorem gH{R:List (Nat×Oper)}{t:Nat}:t∈dstsOf R↔∃ r∈R,r.2.dst=some t:=by
 simp[dstsOf,b5I]
theorem a6o(h:Inv c G s a w){d:Nat}{x:Value}(hv:VR c G s.af w (s.aB.getD d .any) x):Inv c G s (a.put (some d) x) w:=by
 have:=bw.put (d:=some d) h hv;unfold Inv;have e:j9 s.aB.length s.sl (some d) (s.aB.getD d .any)=s.sl:=by
  funext i;unfold j9;split
  .rename_i hi;obtain⟨h1,_⟩:=hi;simp only[b3C] at h1;subst h1;rfl
  .rfl
 rwa [e] at this
theorem lg{E:Env}{K:Prop}:∀ {R:List (Nat×Oper)},gY E R s K->(∀ r∈R,∃ d vc,r.2.dst=some d/\rop E s r.2=some (vc,s.aB.getD d .any)/\Vc.ok vc)/\K
 | [],h=>⟨by simp,h⟩
 | r::rs,h=>by
  simp only[gY] at h;split at h
  .rename_i d vc v hd hr;have h1:=Vc.kc h;obtain⟨k1,k2⟩:=lg h1.2.2;refine⟨λ q hq=>?_,k2⟩;rcases b3Z.1 hq with rfl|hq
   .exact⟨d,vc,hd,by rw[hr,a3n h1.2.1],h1.1⟩
   .exact k1 q hq
  .exact h.elim
theorem T8(hE:bH c.P c.E){K:ah->Prop}:∀ {R:List (Nat×Oper)} {s:ah} {a:Act},Inv c G s a w->OZ c.E R K s->∃ t b,Inv c G t b w/\nP (dstsOf R) a b/\K t
 | [],s,a,hI,h=>⟨s,a,hI,⟨rfl,hI.defers,hI.defers,λ _ _=>rfl⟩,h⟩
 | r::rs,s,a,hI,h=>by
  simp only[OZ] at h;split at h
  .rename_i d vc v hd hr;have h1:=Vc.kc h;obtain⟨x,_,hx⟩:=Yl hE hI hr h1.1;obtain⟨t,b,k1,k2,k3⟩:=T8 hE (Inv.put (d:=some d) hI hx) (Kj hx h1.2);refine⟨t,b,k1,⟨by rw[<-k2.size];simp[Act.put],hI.defers,k2.db,λ i hi=>?_⟩,k3⟩;have eZ:d≠i:=λ e=>hi (gH.2 ⟨r,by simp,by rw[hd,e]⟩);rw[<-k2.at' i λ hm=>hi (by
    obtain⟨q,hq,hqd⟩:=gH.1 hm;exact gH.2 ⟨q,by simp[hq],hqd⟩),ei,if_neg (λ q=>eZ (by simpa using q.1))]
  .exact h.elim
theorem a1p{E:Env}{o:Oper}{K:ah->Prop}{T:TypeId}{d:Nat}{τ:Ty}{r:Nat×Nat}(bB:o.op = .alloc T)(hd:o.dst=some d)(hT:af E.ty T=some (τ,r)) :
  lO E o K s↔(d<400000/\K (s.lay (some d) (.ptr d 0) (some (.box (zeroCells τ))))):=by
 have h1:lp E s o=[]:=by
  unfold lp;rw[bB];split<;>rfl
 have h2:bop E s o=none:=by
  unfold bop;rw[hd,bB];simp only;split<;>rfl
 have h3:eop E s o=none:=by unfold eop;rw[bB]
 have h4:oop E s o=none:=by unfold oop;rw[bB]
 obtain⟨r1,r2⟩:=r;have h5:On E s.af s.eval o=some (.none, .ptr d 0,some (.box (zeroCells τ))):=by
  unfold On;rw[bB];simp only[hd,hT]
 unfold lO;have h6:sop E s o=none:=by unfold sop;rw[hd,bB]
 have h7:nop E s o=none:=by unfold nop;rw[bB]
 simp only[h1,b7p,h6,h2,h3,h4,h7,h5,Vc.and,bB,YB,hd,wK];cases hb:Nat.blt d 400000 with
 | true=>simp only[b7c] at hb;simp[hb]
 | false=>simp only[Bool.eq_false_iff,ne_eq,b7c] at hb;simp[hb]
structure PE where
 i:Nat
 d:Nat
 x:Value
 b:Nat
 cs:List AV
noncomputable instance:DecidableEq PE:=λ _ _=>Classical.propDecidable _
structure Fq(c:Ctx)(G:Gh)(lk:Nat->Option aD)(X:List (Nat×Oper))(a:Act)(w:World)(p:PE):Prop where
 ex:∃ o T τ r,(p.i,o)∈X/\o.op = .alloc T/\o.dst=some p.d/\af c.E.ty T=some (τ,r)/\p.cs=zeroCells τ
 val:a.tmps.getD p.d undef=if p.d<a.tmps.size then p.x else undef
 ptr:p.x = .pointer (some ⟨p.b,0,none⟩)
 lt:p.d<400000
 new:∃ l t,w.heap[p.b]?=some (.cells l.toArray t (0,0))/\∀ (c:Ctx) (G:Gh) (lk:Nat->Option aD) (w:World),aV (C1 c G lk w) p.cs l
 fr:yR c G lk w p.b
theorem Fq.put{lk:Nat->Option aD}{X:List (Nat×Oper)}{p:PE}(h:Fq c G lk X a w p){d:Option Nat}{x:Value}(hd:d≠some p.d):Fq c G lk X (a.put d x) w p :=
 ⟨h.ex,by rw[ei,b3R (λ q=>hd q.1),gN];exact h.val,h.ptr,h.lt,h.new,h.fr⟩
theorem a3f(h:Inv c G s a w){p:PE}{X:List (Nat×Oper)}{a2:Act}(hp:Fq c G s.af X a2 w p) :
  Inv c ⟨G.S,λ i=>if i=p.d then p.x else G.η i,G.φ⟩ (s.lay (some p.d) (.ptr p.d 0) (some (.box p.cs))) (a.put (some p.d) p.x) w:=by
 obtain⟨l,t,h1,h2⟩:=hp.new;refine Inv.a5e h hp.lt ⟨p.b,l,t,hp.ptr,h1,h2 _ _ _ _⟩ ⟨_,rfl,rfl⟩ λ b hb=>?_;rw[hp.ptr] at hb;simp only[ew,b3C] at hb;subst hb;obtain⟨q1,q2,q3,q4,q5⟩:=hp.fr;exact⟨q1,q2,q3,λ i o' _ ho=>q4 i o' ho,q5⟩
theorem a3e{p:PE}{X:List (Nat×Oper)}{a2:Act}(hp:Fq c G s.af X a2 w p){b:Nat}(hb:yR c G s.af w b)(eZ:b≠p.b) :
  yR c ⟨G.S,λ i=>if i=p.d then p.x else G.η i,G.φ⟩ (s.lay (some p.d) (.ptr p.d 0) (some (.box p.cs))).af w b:=by
 have cF:(s.lay (some p.d) (.ptr p.d 0) (some (.box p.cs))).af=λ i=>if i=p.d then some ((aD.box p.cs).kill p.d) else (if i=p.d then none else (s.cp p.d).af i):=by
  funext i;show af ((p.d,(aD.box p.cs).kill p.d)::bS p.d (s.cp p.d).aN) i=_;rw[dB,eC];rfl
 obtain⟨q1,q2,q3,q4,q5⟩:=hb;rw[cF];refine⟨q1,q2,q3,λ i o ho e=>?_,λ j τ xs hj oa=>?_⟩
 .by_cases hi:i=p.d
  .simp only[b4n hi] at e;rw[hp.ptr] at e;simp only[ew,b3C] at e;exact eZ e.symm
  .simp only[b3R hi] at e ho;rw[ef] at ho;simp only[b4D] at ho;obtain⟨o',cN,_⟩:=ho;exact q4 i o' cN e
 .by_cases hi:j=p.d
  .simp only[b4n hi] at hj;cases hj
  .simp only[b3R hi] at hj;rw[ef] at hj;exact q5 j τ xs (jE hj) oa
theorem a0K(hE:bH c.P c.E)(h:Inv c G s a w){a2:Act}{o:Oper}{T:TypeId}{d i:Nat}{τ:Ty}{r:Nat×Nat}(bB:o.op = .alloc T)(hd:o.dst=some d)(hT:af c.E.ty T=some (τ,r))(Nz:d<400000){X:List (Nat×Oper)}(hX:(i,o)∈X) :
  ∃ w' p,p.i=i/\p.d=d/\p.b=w.heap.size/\(execOp a2.eval o).run c.P w = .ok (.value p.x) w'/\Inv c G s a w'/\Fq c G s.af X (a2.put (some d) p.x) w' p/\bE (λ _=>False) w w':=by
 obtain⟨r1,r2⟩:=r;obtain⟨inf,z,h1,h2,h3,h4⟩:=(hE.info hT).ex;refine⟨w.alloc (.cells z.cells T),⟨i,d, .pointer (some ⟨w.heap.size,0,none⟩),w.heap.size,zeroCells τ⟩,rfl,rfl,rfl,?_,h.alloc _,?_,gB w _⟩
 .simp[execOp,bB,Instr.alloc,zeroValue,typeInfo,h1,h3,newVar,newRow]
 .refine⟨⟨o,T,τ,_,hX,bB,hd,hT,rfl⟩,?_,rfl,Nz,⟨z.cells.toList,T,by simpa using heap_alloc_new w _,λ _ _ _ _=>lh h4⟩,?_⟩
  .simp only[ei,gN,b4E];split
   .rfl
   .rename_i bN;first|rfl|(rw[b4z,b5d (by omega)];rfl)
  .refine⟨.inl h.aR.size,λ q=>by have:=h.dH _ q;simp only at this;omega,by simp,λ j o' hj hb=>by have:=(h.place j o' _ hj hb).2.2;simp only at this;omega,λ j τ xs hj hb=>by have:=(h.aP.pl j τ xs _ hj hb).2.2.1;simp only at this;omega⟩
theorem Ze{E:Env}{o:Oper}(h:Q6 E o=true):reads o.op=true:=by
 unfold Q6 at h;rw[Bool.and_eq_true] at h;exact h.1
theorem Hp{E:Env}{o:Oper}(h:reads o.op=true):dv E o=false:=by
 unfold dv;generalize JU E o=q;generalize o.op=op at *
 cases op<;>first|rfl|cases h
theorem Ma(cm:List Nat)(x:Nat×Oper):∀ l,(Qg cm x l).Perm (x::l)
 | [] => .refl _
 | y::ys=>by
  unfold Qg;split
  .exact .refl _
  .exact ((Ma cm x ys).cons y).trans (.swap x y ys)
theorem jX(E:Env)(cm:List Nat):∀ l,(NS E cm l).Perm l
 | [] => .refl _
 | x::xs=>by
  unfold NS;split
  .exact (Ma cm x _).trans ((jX E cm xs).cons x)
  .exact (jX E cm xs).cons x
structure XE where
 i:Nat
 d:Nat
 x:Value
 o:Oper
noncomputable instance:DecidableEq XE:=λ _ _=>Classical.propDecidable _
structure XOk(E:Env)(P:Program)(X:List (Nat×Oper))(a:Act)(e:XE):Prop where
 mem:(e.i,e.o)∈X
 dst:e.o.dst=some e.d
 val:a.tmps.getD e.d undef=if e.d<a.tmps.size then e.x else undef
 run:(kv e.o.op=true/\∀ w,(execOp a.eval e.o).run P w = .ok (.value e.x) w)\/((y9 e.o.op=true/\JU E e.o=true)/\∃ p,e.x = .slice p 0 0)
theorem XOk.lz{E:Env}{P:Program}{X:List (Nat×Oper)}{a:Act}{e:XE}(h:XOk E P X a e):dv E e.o=true:=by
 rcases h.run with ⟨q,_⟩|⟨⟨q,q'⟩,_⟩
 .simp[dv,q]
 .simp[dv,q,q']
theorem QD{op:Op}(h:y9 op=true):∃ T,op = .buildSlice T 0 #[]:=by
 unfold y9 at h;split at h
 .rename_i T len ps;simp only[b3J] at h;have h1:=b3G h.1;have h2:ps = #[]:=b5Y (b3G h.2);exact⟨T,by rw[h1,h2]⟩
 .cases h
theorem a4B{o:Oper}(h:y9 o.op=true)(D:List Nat):fW D o=true:=by
 obtain⟨T,h⟩:=QD h;simp[fW,a1n,h]
theorem XOk.put{E:Env}{P:Program}{X:List (Nat×Oper)}{e:XE}(h:XOk E P X a e)(hda:a.defers=[]){d:Option Nat}{x:Value}(hd:d≠some e.d)(hu:∀ t,d=some t->fW [t] e.o=true):XOk E P X (a.put d x) e :=
 ⟨h.mem,h.dst,by rw[ei,b3R (λ q=>hd q.1),gN];exact h.val,h.run.imp (λ hr=>⟨hr.1,λ w=>by
  cases d with
  | none=>exact hr.2 w
  | some t =>
   have hA:nP [t] (a.put (some t) x) a:=⟨gN a _ x,by rw[jT];exact hda,hda,λ u hu=>by rw[ei,if_neg (λ q=>hu (by simpa using q.1.symm))]⟩;rw[hA.exec (hu t rfl)];exact hr.2 w⟩) id⟩
theorem a0M(h:Inv c G s a w){o:Oper}{t:Operand}{i:Nat}(bB:o.op = .extract t i)(hc:Cg s o.op=true):∃ x,∀ w',(execOp a.eval o).run c.P w' = .ok (.value x) w':=by
 rw[bB] at hc;simp only[Cg] at hc;split at hc
 .rename_i vs hv;have hx:=bx h t;rw[hv] at hx;obtain⟨l,h1,h2⟩:=hx;have bN:i<l.length:=by rw[<-h2.length];exact b4w hc
  refine⟨l[i],λ w'=>?_⟩;have h3:l[i]?=some l[i]:=b4j bN;simp[execOp,bB,Instr.extract,h1,h3]
 .cases hc
theorem Ym{E:Env}{o:Oper}{K:ah->Prop}{t:Operand}{i d:Nat}(bB:o.op = .extract t i)(hd:o.dst=some d)(hr:lO E o K s) :
  ∃ vs v,s.eval t = .iR vs/\vs[i]?=some v/\known v (K (s.put (some d) v)):=by
 have h1:lp E s o=[]:=by
  unfold lp;rw[bB];split<;>rfl
 have h2:bop E s o=none:=by
  unfold bop;rw[hd,bB];simp only;split<;>rfl
 have h3:eop E s o=none:=by unfold eop;rw[bB]
 have h4:oop E s o=none:=by unfold oop;rw[bB]
 have h6:sop E s o=none:=by unfold sop;rw[hd,bB]
 have h7:nop E s o=none:=by unfold nop;rw[bB]
 unfold lO at hr;split at hr
 .exact hr.elim
 simp only[h1,b7p,h6,h2,h3,h4,h7] at hr;split at hr
 .rename_i vc v ob hq;unfold On at hq;rw[bB] at hq;simp only at hq;split at hq
  .rename_i vs hv;split at hq
   .rename_i u hu;simp only[Option.some.injEq,Prod.mk.injEq] at hq;obtain⟨rfl,rfl,rfl⟩:=hq;refine⟨vs,u,hv,hu,?_⟩;simpa [Vc.and,bB,YB,hd,ah.lay] using hr
   .cases hq
  .cases hq
 .exact hr.elim
theorem a0N(h:Inv c G s a w){o:Oper}{t:Operand}{i:Nat}(bB:o.op = .extract t i){vs:List AV}{v:AV}(h1:s.eval t = .iR vs)(h2:vs[i]?=some v){x:Value}(hx:(execOp a.eval o).run c.P w = .ok (.value x) w):VR c G s.af w v x:=by
 have hv:=bx h t;rw[h1] at hv;obtain⟨l,k1,k2⟩:=hv;obtain⟨y,k3,k4⟩:=k2.at_ i v h2;have:(execOp a.eval o).run c.P w = .ok (.value y) w:=by simp[execOp,bB,Instr.extract,k1,k3]
 rw[this] at hx;simp only[Result.ok.injEq,Next.value.injEq,b3T] at hx;subst hx;cases v<;>first|exact k4|exact k4.elim|trivial
theorem a2U{E:Env}{o:Oper}{K:ah->Prop}{d:Nat}(hn:y9 o.op=true/\JU E o=true)(ha:qK E o=true)(hd:o.dst=some d)(hr:lO E o K s) :
  ∃ τ,K (s.put (some d) (.aI ⟨.slice τ,[]⟩)):=by
 obtain⟨hn,pF⟩:=hn;obtain⟨T,bB⟩:=QD hn;unfold qK at ha;simp only[bB,hd,pF] at ha;split at ha
 .rename_i d' τ r HK hT;simp only[b3C] at HK;subst HK;have ha:Nat.blt d 400000=true/\E.ro.contains d=true/\E.own.contains d=false:=by
   have ha:(Nat.blt d 400000&&(E.ro.contains d && !E.own.contains d))=true:=ha;simp only[b3J,b3S] at ha;exact⟨ha.1,ha.2.1,ha.2.2⟩
  obtain⟨h4,hro,oM⟩:=ha;have h1:lp E s o=[]:=by
   unfold lp;simp only[hd,oM,bB];simp
  have h2:bop E s o=none:=by
   unfold bop;simp only[hd,oM]
  have h3:eop E s o=none:=by unfold eop;rw[bB]
  have h4':oop E s o=none:=by unfold oop;rw[bB]
  have h6:sop E s o=none:=by unfold sop;rw[hd,bB]
  have h7:nop E s o=none:=by unfold nop;rw[bB]
  obtain⟨r1,r2⟩:=r;have h8:On E s.af s.eval o=some (.none, .aI ⟨.slice τ,[]⟩,none):=by
   unfold On;rw[bB];simp only[hd,hT,hro];rfl
  unfold lO at hr;simp only[h1,List.foldl_nil,h6,h2,h3,h4',h7,h8,Vc.and,bB,YB,hd,wK,h4] at hr;exact⟨τ,hr⟩
 .simp at ha
theorem a1Y(hE:bH c.P c.E)(h:Inv c G s a w){a2:Act}{o:Oper}{d:Nat}(hn:y9 o.op=true/\JU c.E o=true)(ha:qK c.E o=true)(hd:o.dst=some d) :
  ∃ w' x,(execOp a2.eval o).run c.P w = .ok (.value x) w'/\Inv c G s a w'/\(∃ p,x = .slice p 0 0)/\bE (λ _=>False) w w':=by
 obtain⟨hn,pF⟩:=hn;obtain⟨T,bB⟩:=QD hn;unfold qK at ha;simp only[bB,hd,pF] at ha;split at ha
 .rename_i d' τ r HK hT;obtain⟨r1,r2⟩:=r;obtain⟨k1,_,inf,z,k2,k3,k4,k5,k6⟩:=hE.slice hT;refine⟨w.alloc (.cells #[] r2), .slice (some ⟨w.heap.size,0,none⟩) 0 0,?_,h.alloc _,⟨_,rfl⟩,gB w _⟩;have hz:(Array.range 0).map (λ _=>(default:Value)) = #[]:=by apply b5Y;simp
  simp[execOp,bB,Instr.buildSlice,b4F k1,sizeOf,typeInfo,k2,Instr.fill,newRow,hz]
 .simp at ha
theorem mO(E:Env){X:List (Nat×Oper)}{x:Nat×Oper}{t:Nat}(hx:x∈X)(ha:dv E x.2=true)(hd:x.2.dst=some t):t∈uP E X :=
 b5I.2 ⟨x,hx,by simp[ha,hd]⟩
theorem Z8{E:Env}{cm:List Nat}{n:Nat}{R:List (Nat×Oper)}{K:ah->Prop}{s:ah}:iy E cm n R [] K s=K s:=by cases n<;>rfl
theorem N1{E:Env}{cm:List Nat}{n:Nat}{R:List (Nat×Oper)}{x:Nat×Oper}{xs:List (Nat×Oper)}{K:ah->Prop}{s:ah}(h:iy E cm n R (x::xs) K s) :
  ∃ m,a1e E cm (x::xs) s=true/\(((fW (dstsOf (R.filter λ r => !Nat.testBit (cm.getD x.1 0) r.1)++uP E xs) x.2&&xs.all λ y=>dv E y.2||Nat.testBit (cm.getD y.1 0) x.1)=true /\
    lO E x.2 (λ s'=>gY E (R.filter λ r => !Nat.testBit (cm.getD x.1 0) r.1) s' (iy E cm m (R.filter λ r => !Nat.testBit (cm.getD x.1 0) r.1) xs K s')) s) \/
   (dv E x.2=false/\Ev (Wm E cm (x::xs)) (λ y=>match fW (dstsOf (R.filter λ r => !Nat.testBit (cm.getD y.1 0) r.1)++uP E ((x::xs).filter λ z => !Nat.beq z.1 y.1)) y.2 with
      | true=>lO E y.2 (λ s'=>gY E (R.filter λ r => !Nat.testBit (cm.getD y.1 0) r.1) s' (iy E cm m (R.filter λ r => !Nat.testBit (cm.getD y.1 0) r.1) ((x::xs).filter λ z => !Nat.beq z.1 y.1) K s')) s
      | false=>False) (x::xs))):=by
 cases n with
 | zero=>exact h.elim
 | succ n =>
  simp only[iy] at h;refine⟨n,?_⟩;split at h
  .rename_i h1;refine⟨h1,?_⟩;split at h
   .rename_i h2;exact .inl ⟨h2,h⟩
   .split at h
    .exact h.elim
    .rename_i h3;exact .inr ⟨h3,h⟩
  .exact h.elim
theorem XO{E:Env}{cm:List Nat}{n:Nat}{R:List (Nat×Oper)}{x:Nat×Oper}{xs:List (Nat×Oper)}{K:ah->Prop}{s:ah}(hz:dv E x.2=true)(h:iy E cm n R (x::xs) K s) :
  ∃ m,lO E x.2 (λ s'=>gY E (R.filter λ r => !Nat.testBit (cm.getD x.1 0) r.1) s' (iy E cm m (R.filter λ r => !Nat.testBit (cm.getD x.1 0) r.1) xs K s')) s:=by
 obtain⟨m,_,h|h⟩:=N1 h
 .exact⟨m,h.2⟩
 .rw[hz] at h;cases h.1
theorem FK{p:Nat×Oper->Bool}{f:Nat×Oper->Prop}:∀ {l:List (Nat×Oper)},Ev p f l->∀ y∈l,p y=true->f y
 | [],_,y,hy,_=>by cases hy
 | x::l,h,y,hy,hp=>by
  unfold Ev at h;split at h
  .rcases b3Z.1 hy with rfl|hy
   .exact h.1
   .exact FK h.2 y hy hp
  .rename_i h0;rcases b3Z.1 hy with rfl|hy
   .rw[hp] at h0;cases h0
   .exact FK h y hy hp
theorem a5h{a b:Nat}:Nat.beq a b=false↔a≠b:=by
 constructor
 .intro h e;subst e;rw[Nat.beq_refl] at h;cases h
 .intro h;cases hb:Nat.beq a b
  .rfl
  .exact absurd (b3G hb) h
theorem WG{x:Nat×Oper}{xs:List (Nat×Oper)}(h:x.1∉xs.map (·.1)):((x::xs).filter λ z => !Nat.beq z.1 x.1)=xs:=by
 rw[b7i,b3R (by simp)];refine List.filter_eq_self.2 λ z hz=>?_;have:z.1≠x.1:=λ e=>h (b3N.2 ⟨z,hz,e⟩);rw[a5h.2 this];rfl
theorem ZL{i:Nat}{o:Oper}:∀ {X:List (Nat×Oper)},(i,o)∈X->(X.map (·.1)).Nodup->(X.filter λ z => !Nat.beq z.1 i).length+1=X.length
 | [],h,_=>by cases h
 | x::xs,h,hn=>by
  simp only[b4A,b4x] at hn;rcases b3Z.1 h with e|h
  .subst e;rw[WG (x:=(i,o)) hn.1];rfl
  .have eZ:x.1≠i:=λ e=>hn.1 (b3N.2 ⟨_,h,e.symm⟩);rw[b7i,b4n (by rw[a5h.2 eZ];rfl),b3P,b3P,ZL h hn.2]
theorem a3Z{E:Env}{cm:List Nat}{n:Nat}{R X:List (Nat×Oper)}{y:Nat×Oper}{K:ah->Prop}{s:ah}(h:iy E cm n R X K s)(hy:y∈X)(cU:(X.map (·.1)).Nodup)(hc:Wm E cm X y=true)
  (hh:∀ x xs,X=x::xs->dv E x.2=true->Nat.testBit (cm.getD y.1 0) x.1=false) :
  ∃ m,fW (dstsOf (R.filter λ r => !Nat.testBit (cm.getD y.1 0) r.1)++uP E (X.filter λ z => !Nat.beq z.1 y.1)) y.2=true /\
   lO E y.2 (λ s'=>gY E (R.filter λ r => !Nat.testBit (cm.getD y.1 0) r.1) s' (iy E cm m (R.filter λ r => !Nat.testBit (cm.getD y.1 0) r.1) (X.filter λ z => !Nat.beq z.1 y.1) K s')) s:=by
 match X,hy,cU,hc,hh,h with
 | x::xs,hy,cU,hc,hh,h =>
  obtain⟨m,_,h|h⟩:=N1 h
  .obtain⟨h1,h2⟩:=h;simp only[b3J,b4C,b5s] at h1;have e:y=x:=by
    rcases b3Z.1 hy with e|hy
    .exact e
    .simp only[Wm,b3J,b3S,b4C,b5s] at hc;rcases h1.2 y hy with q|q
     .rw[hc.1] at q;cases q
     .rcases hc.2 x (by simp) with k|k
      .rw[hh x xs rfl k] at q;cases q
      .rw[k] at q;cases q
   subst e;simp only[b4A,b4x] at cU;rw[WG cU.1];exact⟨m,h1.1,h2⟩
  .have:=FK h.2 y hy hc;split at this
   .rename_i hu;exact⟨m,hu,this⟩
   .exact this.elim
theorem a2y(
          hE:bH c.P c.E) {ops:Array Oper} {hi:Nat} {Seg:List (Nat×Oper)} (dM:backward ops.toList=true) (hhi:hi<=ops.size)
  (ri:∀ j o,hi<=j->ops.toList[j]?=some o->∀ k,k<hi->Nat.testBit ((bV ops.toList []).getD j 0) k=true)
  (a8W:∀ x∈Seg,x.2.guard=none) (VH:∀ x∈Seg,qK c.E x.2=true) (a7v:∀ x∈Seg,kv x.2.op=true->fW (dstsOf (Seg.filter λ y => !Nat.testBit ((bV ops.toList []).getD x.1 0) y.1)++uP c.E Seg) x.2=true) (a7s:∀ x∈Seg,∀ y∈Seg,∀ t,x.2.dst=some t->y.2.dst=some t->x.1=y.1) {K:ah->Prop} {Q':Exit->Act->World->Prop}
  (L6:∀ (fuel:Nat) (G:Gh) (s:ah) (a:Act) (w:World) (listed:Array Bool),ops.size=hi+fuel->listed.size=ops.size->(∀ k,k<ops.size->(listed.getD k false=true↔k<hi))->Inv c G s a w->K s->wpAny c.P .any ops Q' fuel listed a w) :
  ∀ (N fuel:Nat) (Rc X:List (Nat×Oper)) (R:List Nat) (PL:List PE) (SL:List XE) (G:Gh) (t:ah) (a b:Act) (w:World) (listed:Array Bool),fuel+X.length<=N->fuel+PL.length+SL.length=R.length+X.length+(ops.size - hi)->listed.size=ops.size ->
   (∀ i∈R,i<hi/\∃ o,ops.toList[i]?=some o/\(i,o)∈Rc/\(i,o)∈Seg/\nJ c.E (bV ops.toList []) Seg (i,o)=true/\fW (dstsOf (Seg.filter λ y => !Nat.testBit ((bV ops.toList []).getD i 0) y.1)) o=true)->(∀ x∈X,x.1<hi/\ops.toList[x.1]?=some x.2/\x∈Seg)->R.Nodup->(X.map (·.1)).Nodup->(∀ i∈R,∀ x∈X,i≠x.1) ->
   (PL.map PE.i++SL.map XE.i).Nodup->(PL.map PE.b).Nodup->(∀ p∈PL,Fq c G t.af X a w p)->(∀ e∈SL,XOk c.E c.P X a e) ->
   (∀ k,k<ops.size->(listed.getD k false=true↔k<hi/\k∉R/\((∀ x∈X,x.1≠k)\/k∈PL.map PE.i++SL.map XE.i)))->(∀ k,k<ops.size->listed.getD k false=true->∀ o,ops.toList[k]?=some o->∀ e∈o.after.toList,Region.binds .any e=true->listed.getD e.on false=true) ->
   Inv c G t b w->nP (R.filterMap (cD ops.toList)++(PL.map PE.d++SL.map XE.d)) a b->(∀ i∈R,∀ o,ops.toList[i]?=some o->∃ d vc,o.dst=some d/\rop c.E t o=some (vc,t.aB.getD d .any)/\Vc.ok vc) ->
   ∀ n,iy c.E (bV ops.toList []) n Rc X K t->wpAny c.P .any ops Q' fuel listed a w:=by
 intro N;induction N with
 | zero =>
  intro fuel Rc X R PL SL G t a b w listed hN hf cM hR hX IZ PZ PW Uv hPb nx n9 hl F6 hI hA hs nn hK;have h2:X=[]:=b4L (by omega);subst h2;have h3:PL=[]:=by
   cases PL with
   | nil=>rfl
   | cons p PL=>obtain⟨o,T,τ,r,hm,_⟩:=(nx p (by simp)).ex;cases hm
  subst h3;have h4:SL=[]:=by
   cases SL with
   | nil=>rfl
   | cons p SL=>have hm:=(n9 p (by simp)).mem;cases hm
  subst h4;have h1:R=[]:=List.eq_nil_of_length_eq_zero (by simp at hf;omega);subst h1;have ny:a=b:=nP.eq (by simpa using hA);subst ny;exact L6 fuel G t a w listed (by simp at hf;omega) cM (λ k hk=>by rw[hl k hk];simp) hI (by rw[Z8] at hK;exact hK)
 | succ N ih =>
  intro fuel Rc X R PL SL G t a b w listed hN hf cM hR hX IZ PZ PW Uv hPb nx n9 hl F6 hI hA hs nn hK;by_cases NA:R=[]/\X=[]
  .obtain⟨rfl,rfl⟩:=NA;have h3:PL=[]:=by
    cases PL with
    | nil=>rfl
    | cons p PL=>obtain⟨o,T,τ,r,hm,_⟩:=(nx p (by simp)).ex;cases hm
   subst h3;have h4:SL=[]:=by
    cases SL with
    | nil=>rfl
    | cons p SL=>have hm:=(n9 p (by simp)).mem;cases hm
   subst h4;have ny:a=b:=nP.eq (by simpa using hA);subst ny;exact L6 fuel G t a w listed (by simp at hf;omega) cM (λ k hk=>by rw[hl k hk];simp) hI (by rw[Z8] at hK;exact hK)
  have a3K:∀ i o,i<ops.size->ops.toList[i]?=some o->listed.getD i false=true->∀ k,Nat.testBit ((bV ops.toList []).getD i 0) k=true->listed.getD k false=true/\k<ops.size:=λ i o hi ho hli k hk =>
   Ik (l:=ops.toList) (D:=λ k=>listed.getD k false=true/\k<ops.size) (λ k hk o' cN e he hb=>⟨F6 k hk.2 hk.1 o' cN e he hb,by
    have:=cg dM k o' cN e he hb;have:=hk.2;omega⟩) i o ho (λ e he hb=>⟨F6 i hi hli o ho e he hb,by
    have:=cg dM i o ho e he hb;omega⟩) k hk
  by_cases VG:∃ x0 xs p,X=x0::xs/\p∈PL/\p.i=x0.1
  .obtain⟨x0,xs,p,rfl,hp,hpi⟩:=VG;obtain⟨o,T,τ,r,hm,bB,NH,hT,kr⟩:=(nx p hp).ex;have hx0:x0=(p.i,o):=by
    have h1:=(hX x0 (by simp)).2.1;have h2:=(hX _ hm).2.1;rw[<-hpi,h2] at h1;simp only[b3C] at h1;rw[h1,hpi]
   subst hx0;obtain⟨mm,hK⟩:=XO (by simp[dv,oN,bB]) hK;rw[a1p bB NH hT,<-kr] at hK;obtain⟨k1,k2⟩:=lg hK.2;have WS:=hX _ hm;have hlp:listed.getD p.i false=true:=(hl p.i (by have:=WS.1;simp only at this;omega)).2 ⟨WS.1,λ q=>PW _ q _ hm rfl, .inr (b3H.2 (.inl (b3N.2 ⟨p,hp,rfl⟩)))⟩;have eY:∀ j∈R,∃ o',ops.toList[j]?=some o'/\(j,o')∈Rc.filter λ r => !Nat.testBit ((bV ops.toList []).getD p.i 0) r.1:=λ j hj=>by
    obtain⟨q1,o',q2,q3,_,_⟩:=hR j hj;refine⟨o',q2,b5b.2 ⟨q3,?_⟩⟩;simp only[b3S];cases hb:Nat.testBit ((bV ops.toList []).getD p.i 0) j with
    | false=>rfl
    | true=>exact absurd hj ((hl j (by omega)).1 (a3K p.i o (by have:=WS.1;simp only at this;omega) WS.2.1 hlp j hb).1).2.1
   have a7A:∀ q∈PL.erase p,q∈PL/\q.i≠p.i/\q.b≠p.b:=λ q hq=>by
    have a5a:=b5l hq;have R3:=b7u hp;have n1:=(R3.map PE.i).nodup_iff.1 (b4h.1 Uv).1;have n2:=(R3.map PE.b).nodup_iff.1 hPb;simp only[b4A,b4x] at n1 n2;exact⟨a5a,λ e=>n1.1 (b3N.2 ⟨q,hq,e⟩),λ e=>n2.1 (b3N.2 ⟨q,hq,e⟩)⟩
   have b0S:(PL.erase p).length+1=PL.length:=by
    have:=b5M hp;have:=b5R hp;omega
   simp only[b4A,b4x] at PZ;refine ih fuel _ xs R (PL.erase p) SL _ _ a (b.put (some p.d) p.x) w listed (by simp at hN;omega) (by simp at hf;omega) cM (λ j hj=>?_) (λ y hy=>hX y (by simp[hy])) IZ PZ.2 (λ j hj y hy=>PW j hj y (by simp[hy])) ?_ ?_ (λ q hq=>?_) (λ e he=>?_) (λ k hk=>?_) F6 (a3f hI (nx p hp)) ?_ (λ j hj o' cN=>?_) _ k2
   .obtain⟨q1,o',q2,q3,q4,q7⟩:=hR j hj;obtain⟨o2,q5,q6⟩:=eY j hj;have e:o'=o2:=by rw[q2] at q5;simpa using q5
    subst e;exact⟨q1,o',q2,q6,q4,q7⟩
   .exact Uv.sublist ((b6l _ b6Q).append (List.Sublist.refl _))
   .exact hPb.sublist (b6l _ b6Q)
   .obtain⟨Le,I5,hq3⟩:=a7A q hq;obtain⟨o2,T2,lj,r2,m1,m2,m3,m4,m5⟩:=(nx q Le).ex;refine⟨⟨o2,T2,lj,r2,?_,m2,m3,m4,m5⟩,(nx q Le).val,(nx q Le).ptr,(nx q Le).lt,(nx q Le).new,a3e (nx p hp) (nx q Le).fr hq3⟩;rcases b3Z.1 m1 with e|m1
    .simp only[b3F] at e;exact absurd e.1 I5
    .exact m1
   .have h3:=n9 e he;refine⟨?_,h3.dst,h3.val,h3.run⟩;rcases b3Z.1 h3.mem with q|q
    .simp only[b3F] at q;rcases h3.run with ⟨q',_⟩|⟨⟨q',_⟩,_⟩<;>(rw[q.2,bB] at q';cases q')
    .exact q
   .rw[hl k hk];constructor
    .rintro⟨q1,q2,q3⟩;refine⟨q1,q2,?_⟩;by_cases Dr:k=p.i
     .subst Dr;exact .inl λ y hy e=>PZ.1 (b3N.2 ⟨y,hy,e⟩)
     .rcases q3 with q3|q3
      .exact .inl λ y hy=>q3 y (by simp[hy])
      .rcases b3H.1 q3 with q3|q3
       .obtain⟨q,hq,rfl⟩:=b3N.1 q3;exact .inr (b3H.2 (.inl (b3N.2 ⟨q,(b5T (λ e=>Dr (by rw[e]))).2 hq,rfl⟩)))
       .exact .inr (b3H.2 (.inr q3))
    .rintro⟨q1,q2,q3⟩;refine⟨q1,q2,?_⟩;by_cases Dr:k=p.i
     .subst Dr;exact .inr (b3H.2 (.inl (b3N.2 ⟨p,hp,rfl⟩)))
     .rcases q3 with q3|q3
      .refine .inl λ y hy=>?_;rcases b3Z.1 hy with rfl|hy
       .exact λ e=>Dr e.symm
       .exact q3 y hy
      .rcases b3H.1 q3 with q3|q3
       .obtain⟨q,hq,rfl⟩:=b3N.1 q3;exact .inr (b3H.2 (.inl (b3N.2 ⟨q,b5l hq,rfl⟩)))
       .exact .inr (b3H.2 (.inr q3))
   .refine⟨by rw[gN];exact hA.size,hA.da,by rw[jT];exact hA.db,λ u hu=>?_⟩;by_cases hud:u=p.d
    .subst hud;rw[(nx p hp).val,ei,<-hA.size];by_cases bN:p.d<a.tmps.size
     .rw[b4n bN,b4n ⟨rfl,bN⟩]
     .rw[b3R bN,b3R (λ q=>bN q.2),b4z,b5d (by rw[<-hA.size];omega)];rfl
    .rw[ei,if_neg (λ q=>hud (by simpa using q.1.symm))];refine hA.at' u λ hm=>hu ?_;rcases List.mem_append.1 hm with hm|hm
     .exact b3H.2 (.inl hm)
     .rcases b3H.1 hm with hm|hm
      .obtain⟨q,hq,rfl⟩:=b3N.1 hm;exact b3H.2 (.inr (b3H.2 (.inl (b3N.2 ⟨q,(b5T (λ e=>hud (by rw[e]))).2 hq,rfl⟩))))
      .exact b3H.2 (.inr (b3H.2 (.inr hm)))
   .obtain⟨o2,q5,q6⟩:=eY j hj;rw[q5] at cN;simp only[b3C] at cN;subst cN;exact k1 (j,o2) q6
  by_cases P0:∃ x0 xs e,X=x0::xs/\e∈SL/\e.i=x0.1
  .obtain⟨x0,xs,e,rfl,he,hei⟩:=P0;have hE3:=n9 e he;have hx0:x0=(e.i,e.o):=by
    have h1:=(hX x0 (by simp)).2.1;have h2:=(hX _ hE3.mem).2.1;rw[<-hei,h2] at h1;simp only[b3C] at h1;rw[h1,hei]
   subst hx0;obtain⟨mm,hK⟩:=XO hE3.lz hK;have WS:=hX _ hE3.mem;have hlp:listed.getD e.i false=true:=(hl e.i (by have:=WS.1;simp only at this;omega)).2 ⟨WS.1,λ q=>PW _ q _ hE3.mem rfl, .inr (b3H.2 (.inr (b3N.2 ⟨e,he,rfl⟩)))⟩;have a7p:=a3K e.i e.o (by have:=WS.1;simp only at this;omega) WS.2.1 hlp;have eY:∀ j∈R,∃ o',ops.toList[j]?=some o'/\(j,o')∈Rc.filter λ r => !Nat.testBit ((bV ops.toList []).getD e.i 0) r.1:=λ j hj=>by
    obtain⟨q1,o',q2,q3,_,_⟩:=hR j hj;refine⟨o',q2,b5b.2 ⟨q3,?_⟩⟩;simp only[b3S];cases hb:Nat.testBit ((bV ops.toList []).getD e.i 0) j with
    | false=>rfl
    | true=>exact absurd hj ((hl j (by omega)).1 (a7p j hb).1).2.1
   have hDu:∀ u,u∈R.filterMap (cD ops.toList)++(PL.map PE.d++SL.map XE.d)->u∈dstsOf (Seg.filter λ y => !Nat.testBit ((bV ops.toList []).getD e.i 0) y.1)++uP c.E Seg:=λ u hu=>by
    rcases b3H.1 hu with hu|hu
    .obtain⟨j,hj,HL⟩:=List.mem_filterMap.1 hu;obtain⟨q1,o',q2,_,q3,_⟩:=hR j hj;refine List.mem_append.2 (.inl (gH.2 ⟨(j,o'),List.mem_filter.2 ⟨q3,?_⟩,by simpa [cD,q2] using HL⟩));simp only[Bool.not_eq_true'];cases hb:Nat.testBit ((bV ops.toList []).getD e.i 0) j with
     | false=>rfl
     | true=>exact absurd hj ((hl j (by omega)).1 (a7p j hb).1).2.1
    .rcases b3H.1 hu with hu|hu
     .obtain⟨p,hp,rfl⟩:=b3N.1 hu;obtain⟨o2,T,τ,r,hm,W7,NH,_⟩:=(nx p hp).ex;exact b3H.2 (.inr (mO c.E (hX _ hm).2.2 (by simp[dv,oN,W7]) NH))
     .obtain⟨q,hq,rfl⟩:=b3N.1 hu;exact b3H.2 (.inr (mO c.E (hX _ (n9 q hq).mem).2.2 (n9 q hq).lz (n9 q hq).dst))
   obtain⟨v,UE,hK⟩:∃ v,VR c G t.af w v e.x/\gY c.E (Rc.filter λ r => !Nat.testBit ((bV ops.toList []).getD e.i 0) r.1) (t.put (some e.d) v) (iy c.E (bV ops.toList []) mm (Rc.filter λ r => !Nat.testBit ((bV ops.toList []).getD e.i 0) r.1) xs K (t.put (some e.d) v)):=by
    rcases hE3.run with ⟨hx,hr⟩|⟨hx,p,hp⟩
    .obtain⟨tt,ix,bB⟩:∃ tt ix,e.o.op = .extract tt ix:=by
      have:=hx;unfold kv at this;split at this
      .exact⟨_,_,by assumption⟩
      .cases this
     obtain⟨vs,v,hv1,hv2,hK⟩:=Ym bB hE3.dst hK;have cH:=hr w;rw[hA.exec (nM (a7v _ WS.2.2 hx) hDu)] at cH;have UE:=a0N hI bB hv1 hv2 cH;exact⟨v,UE,Kj UE hK⟩
    .obtain⟨τ,hK⟩:=a2U hx (VH _ WS.2.2) hE3.dst hK;refine⟨_,?_,hK⟩;rw[hp];exact⟨p,0,rfl,b4r _,by simp[maxLen],by simp, .inl rfl⟩
   obtain⟨k1,k2⟩:=lg hK;have a7A:∀ q∈SL.erase e,q∈SL/\q.i≠e.i:=λ q hq=>by
    have a5a:=b5l hq;have R3:=b7u he;have n1:=(R3.map XE.i).nodup_iff.1 (b4h.1 Uv).2.1;simp only[b4A,b4x] at n1;exact⟨a5a,λ q'=>n1.1 (b3N.2 ⟨q,hq,q'⟩)⟩
   have b0S:(SL.erase e).length+1=SL.length:=by
    have:=b5M he;have:=b5R he;omega
   simp only[b4A,b4x] at PZ;refine ih fuel _ xs R PL (SL.erase e) _ _ a (b.put (some e.d) e.x) w listed (by simp at hN;omega) (by simp at hf;omega) cM (λ j hj=>?_) (λ y hy=>hX y (by simp[hy])) IZ PZ.2 (λ j hj y hy=>PW j hj y (by simp[hy])) ?_ hPb (λ q hq=>?_) (λ q hq=>?_) (λ k hk=>?_) F6 (Inv.put (d:=some e.d) hI UE) ?_ (λ j hj o' cN=>?_) _ k2
   .obtain⟨q1,o',q2,q3,q4,q7⟩:=hR j hj;obtain⟨o2,q5,q6⟩:=eY j hj;have e:o'=o2:=by rw[q2] at q5;simpa using q5
    subst e;exact⟨q1,o',q2,q6,q4,q7⟩
   .exact Uv.sublist ((List.Sublist.refl _).append (b6l _ b6Q))
   .obtain⟨o2,T2,lj,r2,m1,m2,m3,m4,m5⟩:=(nx q hq).ex;refine⟨⟨o2,T2,lj,r2,?_,m2,m3,m4,m5⟩,(nx q hq).val,(nx q hq).ptr,(nx q hq).lt,(nx q hq).new,(nx q hq).fr⟩;rcases b3Z.1 m1 with e'|m1
    .simp only[b3F] at e';rcases hE3.run with ⟨q',_⟩|⟨⟨q',_⟩,_⟩<;>(rw[<-e'.2,m2] at q';cases q')
    .exact m1
   .obtain⟨Le,I5⟩:=a7A q hq;have h3:=n9 q Le;refine⟨?_,h3.dst,h3.val,h3.run⟩;rcases b3Z.1 h3.mem with e'|e'
    .simp only[b3F] at e';exact absurd e'.1 I5
    .exact e'
   .rw[hl k hk];constructor
    .rintro⟨q1,q2,q3⟩;refine⟨q1,q2,?_⟩;by_cases Dr:k=e.i
     .subst Dr;exact .inl λ y hy e=>PZ.1 (b3N.2 ⟨y,hy,e⟩)
     .rcases q3 with q3|q3
      .exact .inl λ y hy=>q3 y (by simp[hy])
      .rcases b3H.1 q3 with q3|q3
       .exact .inr (b3H.2 (.inl q3))
       .obtain⟨q,hq,rfl⟩:=b3N.1 q3;exact .inr (b3H.2 (.inr (b3N.2 ⟨q,(b5T (λ e=>Dr (by rw[e]))).2 hq,rfl⟩)))
    .rintro⟨q1,q2,q3⟩;refine⟨q1,q2,?_⟩;by_cases Dr:k=e.i
     .subst Dr;exact .inr (b3H.2 (.inr (b3N.2 ⟨e,he,rfl⟩)))
     .rcases q3 with q3|q3
      .refine .inl λ y hy=>?_;rcases b3Z.1 hy with rfl|hy
       .exact λ e=>Dr e.symm
       .exact q3 y hy
      .rcases b3H.1 q3 with q3|q3
       .exact .inr (b3H.2 (.inl q3))
       .obtain⟨q,hq,rfl⟩:=b3N.1 q3;exact .inr (b3H.2 (.inr (b3N.2 ⟨q,b5l hq,rfl⟩)))
   .refine⟨by rw[gN];exact hA.size,hA.da,by rw[jT];exact hA.db,λ u hu=>?_⟩;by_cases hud:u=e.d
    .subst hud;rw[hE3.val,ei,<-hA.size];by_cases bN:e.d<a.tmps.size
     .rw[b4n bN,b4n ⟨rfl,bN⟩]
     .rw[b3R bN,b3R (λ q=>bN q.2),b4z,b5d (by rw[<-hA.size];omega)];rfl
    .rw[ei,if_neg (λ q=>hud (by simpa using q.1.symm))];refine hA.at' u λ hm=>hu ?_;rcases List.mem_append.1 hm with hm|hm
     .exact b3H.2 (.inl hm)
     .rcases b3H.1 hm with hm|hm
      .exact b3H.2 (.inr (b3H.2 (.inl hm)))
      .obtain⟨q,hq,rfl⟩:=b3N.1 hm;exact b3H.2 (.inr (b3H.2 (.inr (b3N.2 ⟨q,(b5T (λ e=>hud (by rw[e]))).2 hq,rfl⟩))))
   .obtain⟨o2,q5,q6⟩:=eY j hj;rw[q5] at cN;simp only[b3C] at cN;subst cN;exact k1 (j,o2) q6
  have a7o:∀ p∈PL,∃ x∈X,x.1=p.i:=λ p hp=>by
   obtain⟨o,T,τ,r,hm,_⟩:=(nx p hp).ex;exact⟨_,hm,rfl⟩
  have a2g:∀ p∈SL,∃ x∈X,x.1=p.i:=λ p hp=>⟨_,(n9 p hp).mem,rfl⟩;have hun:∃ k,k<hi/\¬ (listed.getD k false=true):=by
   rcases R with _|⟨i,R⟩
   .rcases X with _|⟨x,X⟩
    .exact absurd ⟨rfl,rfl⟩ NA
    .have:=(hX x (by simp)).1;refine⟨x.1,this,λ hh=>((hl x.1 (by omega)).1 hh).2.2.elim (λ q=>q x (by simp) rfl) λ q=>?_⟩;rcases b3H.1 q with q|q
     .obtain⟨p,hp,e⟩:=b3N.1 q;exact VG ⟨x,X,p,rfl,hp,e⟩
     .obtain⟨p,hp,e⟩:=b3N.1 q;exact P0 ⟨x,X,p,rfl,hp,e⟩
   .have:=(hR i (by simp)).1;exact⟨i,this,λ hh=>((hl i (by omega)).1 hh).2.1 (by simp)⟩
  have Qc:PL.length+SL.length<R.length+X.length:=by
   rcases R with _|⟨i,R⟩
   .rcases X with _|⟨x,X⟩
    .exact absurd ⟨rfl,rfl⟩ NA
    .have vS:(PL.map PE.i++SL.map XE.i) ⊆ X.map (·.1):=λ k hk=>by
      rcases b3H.1 hk with hk|hk
      .obtain⟨p,hp,rfl⟩:=b3N.1 hk;obtain⟨y,hy,e⟩:=a7o p hp;rcases b3Z.1 hy with rfl|hy
       .exact absurd ⟨_,_,p,rfl,hp,e.symm⟩ VG
       .exact b3N.2 ⟨y,hy,e⟩
      .obtain⟨p,hp,rfl⟩:=b3N.1 hk;obtain⟨y,hy,e⟩:=a2g p hp;rcases b3Z.1 hy with rfl|hy
       .exact absurd ⟨_,_,p,rfl,hp,e.symm⟩ P0
       .exact b3N.2 ⟨y,hy,e⟩
     have:=b6a Uv vS;simp at this ⊢;omega
   .have vS:(PL.map PE.i++SL.map XE.i) ⊆ X.map (·.1):=λ k hk=>by
     rcases b3H.1 hk with hk|hk
     .obtain⟨p,hp,rfl⟩:=b3N.1 hk;obtain⟨y,hy,e⟩:=a7o p hp;exact b3N.2 ⟨y,hy,e⟩
     .obtain⟨p,hp,rfl⟩:=b3N.1 hk;obtain⟨y,hy,e⟩:=a2g p hp;exact b3N.2 ⟨y,hy,e⟩
    have:=b6a Uv vS;simp at this ⊢;omega
  obtain⟨fuel,rfl⟩:∃ f,fuel=f+1:=⟨fuel - 1,by omega⟩;obtain⟨k1,R2⟩:=hun;obtain⟨k0,⟨a4Y,vQ⟩,a2p⟩:=exists_least (p:=λ k=>k<hi/\¬ (listed.getD k false=true)) k1 R2;have a2m:ops[k0]?=some (ops[k0]'(by omega)):=b4R (by omega);constructor
  .intro vR;have:k0∈Region.ready .any ops listed:=(mem_ready cM).2 ⟨_,a2m,by
    cases hb:listed.getD k0 false with
    | false=>rfl
    | true=>exact absurd hb vQ,λ e he hb=>by
    have bN:=cg dM k0 ops[k0] (by simp) e he hb;exact b6t λ hh=>a2p e.on bN ⟨by omega,hh⟩⟩
   rw[vR] at this;cases this
  .intro i oe;obtain⟨o,cE,h1,h2⟩:=(mem_ready cM).1 oe;have L8:=(Array.getElem?_eq_some_iff.1 cE).1;have eA:ops.toList[i]?=some o:=by simpa using cE
   have Hc:=Ik (l:=ops.toList) (D:=λ k=>listed.getD k false=true/\k<ops.size) (λ k hk o' cN e he hb=>⟨F6 k hk.2 hk.1 o' cN e he hb,by
    have:=cg dM k o' cN e he hb;have:=hk.2;omega⟩) i o eA (λ e he hb=>⟨h2 e he hb,by
    have:=cg dM i o eA e he hb;omega⟩)
   have vP:i<hi:=by
    rcases b4J i hi with h|h
    .exact h
    .exact absurd (Hc k0 (ri i o h eA k0 a4Y)).1 vQ
   have AE:∀ k,(listed.setIfInBounds i true).getD k false=true↔listed.getD k false=true\/k=i:=λ k=>wm (by omega);have a2i:∀ k,k<ops.size->(listed.setIfInBounds i true).getD k false=true->∀ o,ops.toList[k]?=some o->∀ e∈o.after.toList,Region.binds .any e=true->(listed.setIfInBounds i true).getD e.on false=true:=by
    intro k hk P9 o' cN e he hb;rw[AE] at P9 ⊢;rcases P9 with P9|rfl
    .exact .inl (F6 k hk P9 o' cN e he hb)
    .rw[eA] at cN;simp only[b3C] at cN;subst cN;exact .inl (h2 e he hb)
   have a7D:¬ (listed.getD i false=true):=by rw[h1];simp
   have a5b:=a7D;rw[hl i L8] at a5b;have hXi:i∉R->∃ x∈X,x.1=i:=λ NF=>b6t λ hh=>a5b ⟨vP,NF, .inl λ x hx e=>hh ⟨x,hx,e⟩⟩;have ZU:∀ p∈PL,p.i≠i:=λ p hp e=>by
    obtain⟨x,hx,hxe⟩:=a7o p hp;exact a5b ⟨vP,λ q=>PW i q x hx (by rw[hxe,e]), .inr (b3H.2 (.inl (b3N.2 ⟨p,hp,e⟩)))⟩
   have ZV:∀ p∈SL,p.i≠i:=λ p hp e=>by
    obtain⟨x,hx,hxe⟩:=a2g p hp;exact a5b ⟨vP,λ q=>PW i q x hx (by rw[hxe,e]), .inr (b3H.2 (.inr (b3N.2 ⟨p,hp,e⟩)))⟩
   have PX:(i,o)∈Seg:=by
    by_cases NF:i∈R
    .obtain⟨_,o',cN,_,hm,_⟩:=hR i NF;rw[eA] at cN;simp only[b3C] at cN;subst cN;exact hm
    .obtain⟨x,hx,hxi⟩:=hXi NF;have:=(hX x hx).2.1;rw[hxi,eA] at this;simp only[b3C] at this;have e:x=(i,o):=by rw[<-hxi,this]
     rw[<-e];exact (hX x hx).2.2
   have hg:o.guard=none:=a8W _ PX;have hPd:∀ p∈PL,o.dst≠some p.d:=λ p hp e=>by
    obtain⟨o2,T,τ,r,hm,bB,NH,_⟩:=(nx p hp).ex;have hsg:=(hX _ hm).2.2;exact ZU p hp (a7s _ hsg _ PX p.d NH e)
   have hSd:∀ p∈SL,o.dst≠some p.d:=λ p hp e=>ZV p hp (a7s _ (hX _ (n9 p hp).mem).2.2 _ PX p.d (n9 p hp).dst e);have hSu:∀ p∈SL,∀ t,o.dst=some t->fW [t] p.o=true:=λ p hp t ht=>by
    have hm:=hX _ (n9 p hp).mem;have hlp:listed.getD p.i false=true:=(hl p.i (by have:=hm.1;simp only at this;omega)).2 ⟨hm.1,λ q=>PW _ q _ (n9 p hp).mem rfl, .inr (b3H.2 (.inr (b3N.2 ⟨p,hp,rfl⟩)))⟩;rcases (n9 p hp).run with ⟨hex,_⟩|⟨F8,_⟩;rotate_left
    .exact a4B F8.1 _
    refine nM (a7v _ hm.2.2 hex) λ u hu=>?_;simp only[b4m] at hu;subst hu;refine b3H.2 (.inl (gH.2 ⟨_,b5b.2 ⟨PX,?_⟩,ht⟩));simp only[b3S];cases hb:Nat.testBit ((bV ops.toList []).getD p.i 0) i with
    | false=>rfl
    | true=>exact absurd (a3K p.i p.o (by have:=hm.1;simp only at this;omega) hm.2.1 hlp i hb).1 a7D
   have hw:Region.wanted o (yielded ops a.tmps)=true:=by simp[Region.wanted,hg]
   unfold wpOp;simp only[cE];rw[if_pos hw];refine .inl ?_;by_cases NF:i∈R
   ·
    obtain⟨_,o',cN,a5a,_,pF,hu⟩:=hR i NF;rw[eA] at cN;simp only[b3C] at cN;subst cN;obtain⟨d,vc,hd,hr,ep⟩:=hs i NF o eA;obtain⟨x,hx,hvx⟩:=Yl hE hI hr ep;have hu:fW (R.filterMap (cD ops.toList)++(PL.map PE.d++SL.map XE.d)) o=true:=nM hu λ t ht=>by
     rcases b3H.1 ht with ht|ht
     .obtain⟨j,hj,HL⟩:=List.mem_filterMap.1 ht;obtain⟨q1,o',q2,_,q3,_⟩:=hR j hj;refine gH.2 ⟨(j,o'),List.mem_filter.2 ⟨q3,?_⟩,by simpa [cD,q2] using HL⟩;simp only[Bool.not_eq_true'];cases hb:Nat.testBit ((bV ops.toList []).getD i 0) j with
      | false=>rfl
      | true=>exact absurd hj ((hl j (by omega)).1 (Hc j hb).1).2.1
     .obtain⟨zi,zo,hm,hlz,NH⟩:∃ zi zo,(zi,zo)∈X/\dv c.E zo=true/\zo.dst=some t:=by
       rcases b3H.1 ht with ht|ht
       .obtain⟨p,hp,rfl⟩:=b3N.1 ht;obtain⟨o2,T,τ,r,hm,bB,NH,_⟩:=(nx p hp).ex;exact⟨_,o2,hm,by simp[dv,oN,bB],NH⟩
       .obtain⟨p,hp,rfl⟩:=b3N.1 ht;exact⟨_,p.o,(n9 p hp).mem,(n9 p hp).lz,(n9 p hp).dst⟩
      have hsg:=(hX _ hm).2.2;by_cases hb:Nat.testBit ((bV ops.toList []).getD i 0) zi=true
      .simp only[nJ,b3J,b4C,b5s,b3S] at pF;rcases pF.2 _ hsg with q|q
       .rw[Hp (Ze q)] at hlz;cases hlz
       .rw[hb] at q;cases q
      .exact gH.2 ⟨_,List.mem_filter.2 ⟨hsg,by simpa using hb⟩,NH⟩
    unfold Oper.wp;rw[hA.exec hu,hx];show wpAny c.P .any ops Q' fuel _ (a.put o.dst x) w;have hfl:(R.erase i).length+1=R.length:=by
     have:=b5M NF;have:=b5R NF;omega
    have vS:∀ t,t∈(R.erase i).filterMap (cD ops.toList)->t∈R.filterMap (cD ops.toList):=λ t ht=>by
     obtain⟨q,hq,hqd⟩:=b5I.1 ht;exact b5I.2 ⟨q,b5l hq,hqd⟩
    refine ih fuel Rc X (R.erase i) PL SL G t (a.put o.dst x) (b.put o.dst x) w _ (by omega) (by omega) (by rw[b5f];exact cM) (λ j hj=>?_) hX (IZ.erase i) PZ (λ j hj=>PW j (b5l hj)) Uv hPb (λ p hp=>(nx p hp).put (hPd p hp)) (λ e he=>(n9 e he).put hA.da (hSd e he) (hSu e he)) (λ k hk=>?_) a2i (by rw[hd];exact a6o hI hvx) (hA.put λ q hq YZ=>?_) (λ j hj=>hs j (b5l hj)) _ hK
    .exact hR j (b5l hj)
    .rw[AE,hl k hk,IZ.mem_erase_iff];constructor
     .rintro (⟨q1,q2,q3⟩|rfl)
      .exact⟨q1,λ q=>q2 q.2,q3⟩
      .exact⟨vP,λ q=>q.1 rfl, .inl λ x hx=>(PW _ NF x hx).symm⟩
     .rintro⟨q1,q2,q3⟩;by_cases Ld:k=i
      .exact .inr Ld
      .exact .inl ⟨q1,λ q=>q2 ⟨Ld,q⟩,q3⟩
    .rcases b3H.1 hq with hq|hq
     .obtain⟨j,hj,HL⟩:=b5I.1 hq;by_cases xo:j=i
      .subst xo;rw[<-HL];simp[cD,eA]
      .exact absurd (b3H.2 (.inl (b5I.2 ⟨j,IZ.mem_erase_iff.2 ⟨xo,hj⟩,HL⟩))) YZ
     .exact absurd (b3H.2 (.inr hq)) YZ
   .obtain⟨x,hx,hxi⟩:=hXi NF;have hxo:x=(i,o):=by
     have:=(hX x hx).2.1;rw[hxi,eA] at this;simp only[b3C] at this;rw[<-hxi,this]
    subst hxo;have hZ:∀ b,(∃ p∈PL,p.b=b)->yR c G t.af w b:=λ b ⟨p,hp,e⟩=>e ▸ (nx p hp).fr;by_cases hal:oN o.op=true
    ·
     have Uw:=VH _ PX;obtain⟨T,bB⟩:∃ T,o.op = .alloc T:=by
      unfold oN at hal;split at hal
      .exact⟨_,by assumption⟩
      .cases hal
     unfold qK at Uw;simp only[bB,Bool.and_eq_true,Option.isSome_iff_exists] at Uw;obtain⟨⟨d,hd⟩,Nz,⟨⟨τ,r⟩,hT⟩⟩:=Uw;simp only[hd,wK,Nat.blt_eq] at Nz;obtain⟨w',p,hpi,hpd,hpb,cH,BO,hpo,Dr⟩:=a0K hE hI (a2:=a) bB hd hT Nz hx;unfold Oper.wp;rw[cH];show wpAny c.P .any ops Q' fuel _ (a.put o.dst p.x) w';rw[hd];refine ih fuel Rc X R (p::PL) SL G t (a.put (some d) p.x) b w' _ (by omega) (by simp;omega) (by rw[Array.size_setIfInBounds];exact cM) hR hX IZ PZ PW ?_ ?_ (λ q hq=>?_) (λ e he=>(n9 e he).put hA.da (by rw[<-hd];exact hSd e he) (by rw[<-hd];exact hSu e he)) (λ k hk=>?_) a2i BO ?_ hs _ hK
     .simp only[b4A,b4U,b4x];refine⟨λ hm=>?_,Uv⟩;rcases b3H.1 hm with hm|hm
      .obtain⟨q,hq,e⟩:=b3N.1 hm;exact ZU q hq (by rw[e,hpi])
      .obtain⟨q,hq,e⟩:=b3N.1 hm;exact ZV q hq (by rw[e,hpi])
     .simp only[b4A,b4x];refine⟨λ hm=>?_,hPb⟩;obtain⟨q,hq,e⟩:=b3N.1 hm;have:=(nx q hq).fr.2.2.1;rw[e,hpb] at this;exact b5X _ this
     .rcases b3Z.1 hq with rfl|hq
      .exact hpo
      .have h3:=(nx q hq).put (d:=some d) (x:=p.x) (by rw[<-hd];exact hPd q hq);have bN:=h3.fr.2.2.1;refine⟨h3.ex,h3.val,h3.ptr,h3.lt,?_,h3.fr.grow Dr.size⟩;obtain⟨l,ty,q1,q2⟩:=h3.new;exact⟨l,ty,by rw[Dr.block q.b bN (λ h=>h)];exact q1,q2⟩
     .rw[AE,hl k hk,b4A,b4U,b3Z,hpi];constructor
      .rintro (⟨q1,q2,q3⟩|rfl)
       .exact⟨q1,q2,q3.imp id .inr⟩
       .exact⟨vP,NF, .inr (.inl rfl)⟩
      .rintro⟨q1,q2,q3⟩;by_cases Ld:k=i
       .exact .inr Ld
       .exact .inl ⟨q1,q2,q3.imp id λ q=>q.resolve_left Ld⟩
     .refine⟨by rw[gN];exact hA.size,by rw[jT];exact hA.da,hA.db,λ u hu=>?_⟩;simp only[List.map_cons,List.cons_append,List.mem_append,List.mem_cons,hpd] at hu;rw[ei,if_neg (λ q=>hu (.inr (.inl (by simpa using q.1.symm))))];exact hA.at' u λ hm=>hu ((List.mem_append.1 hm).imp id λ q => .inr (List.mem_append.1 q))
    by_cases hex:kv o.op=true
    ·
     obtain⟨tt,ix,bB⟩:∃ tt ix,o.op = .extract tt ix:=by
      have:=hex;unfold kv at this;split at this
      .exact⟨_,_,by assumption⟩
      .cases this
     have b2h:Cg t o.op=true:=by
      obtain⟨x0,xs,rfl⟩:∃ x0 xs,X=x0::xs:=by
       cases X with
       | nil=>cases hx
       | cons x0 xs=>exact⟨x0,xs,rfl⟩
      obtain⟨_,h3,_⟩:=N1 hK;unfold a1e at h3;rw[List.all_eq_true] at h3;have h4:=h3 _ hx;rw[Bool.or_eq_true] at h4;rcases h4 with h4|h4
      .exact h4
      .rw[List.any_eq_true] at h4;obtain⟨y,hy,h4⟩:=h4;rw[b3J,b3S] at h4;have h5:=(Hc y.1 h4.2).1;have h6:=(hX y hy).1;rcases ((hl y.1 (by omega)).1 h5).2.2 with h7|h7
       .exact absurd rfl (h7 y hy)
       .have hyl:dv c.E y.2=true:=by
         have e0:=(hX y hy).2.1;rcases b3H.1 h7 with h7|h7
         .obtain⟨p,hp,e⟩:=b3N.1 h7;obtain⟨o2,T,τ,r,hm,W7,NH,_⟩:=(nx p hp).ex;have e1:=(hX _ hm).2.1;simp only at e1;rw[e,e0] at e1;simp only[b3C] at e1;rw[e1];simp[dv,oN,W7]
         .obtain⟨p,hp,e⟩:=b3N.1 h7;have e1:=(hX _ (n9 p hp).mem).2.1;simp only at e1;rw[e,e0] at e1;simp only[b3C] at e1;rw[e1];simp[(n9 p hp).lz]
        rw[hyl] at h4;exact absurd h4.1 (by simp)
     obtain⟨x,cH⟩:=a0M hI bB b2h;have Uw:=a7v _ PX hex;obtain⟨d,hd⟩:∃ d,o.dst=some d:=by
      have:=VH _ PX;simp only[qK,bB,Option.isSome_iff_exists] at this;exact this
     have hDu:∀ u,u∈R.filterMap (cD ops.toList)++(PL.map PE.d++SL.map XE.d)->u∈dstsOf (Seg.filter λ y => !Nat.testBit ((bV ops.toList []).getD i 0) y.1)++uP c.E Seg:=λ u hu=>by
      rcases b3H.1 hu with hu|hu
      .obtain⟨j,hj,HL⟩:=List.mem_filterMap.1 hu;obtain⟨q1,o',q2,_,q3,_⟩:=hR j hj;refine List.mem_append.2 (.inl (gH.2 ⟨(j,o'),List.mem_filter.2 ⟨q3,?_⟩,by simpa [cD,q2] using HL⟩));simp only[Bool.not_eq_true'];cases hb:Nat.testBit ((bV ops.toList []).getD i 0) j with
       | false=>rfl
       | true=>exact absurd hj ((hl j (by omega)).1 (Hc j hb).1).2.1
      .rcases b3H.1 hu with hu|hu
       .obtain⟨p,hp,rfl⟩:=b3N.1 hu;obtain⟨o2,T,τ,r,hm,W7,NH,_⟩:=(nx p hp).ex;exact b3H.2 (.inr (mO c.E (hX _ hm).2.2 (by simp[dv,oN,W7]) NH))
       .obtain⟨q,hq,rfl⟩:=b3N.1 hu;exact b3H.2 (.inr (mO c.E (hX _ (n9 q hq).mem).2.2 (n9 q hq).lz (n9 q hq).dst))
     have a7F:∀ w',(execOp a.eval o).run c.P w' = .ok (.value x) w':=λ w'=>by
      rw[hA.exec (nM Uw hDu)];exact cH w'
     have b0T:fW [d] o=true:=nM Uw λ u hu=>by
      simp only[b4m] at hu;subst hu;exact b3H.2 (.inr (mO c.E PX (by simp[dv,hex]) hd))
     unfold Oper.wp;rw[a7F w];show wpAny c.P .any ops Q' fuel _ (a.put o.dst x) w;rw[hd];refine ih fuel Rc X R PL (⟨i,d,x,o⟩::SL) G t (a.put (some d) x) b w _ (by omega) (by simp;omega) (by rw[Array.size_setIfInBounds];exact cM) hR hX IZ PZ PW ?_ hPb (λ q hq=>(nx q hq).put (by rw[<-hd];exact hPd q hq)) (λ e he=>?_) (λ k hk=>?_) a2i hI ?_ hs _ hK
     .rw[b4A];refine (List.perm_middle.nodup_iff).2 (b4x.2 ⟨λ hm=>?_,Uv⟩);rcases b3H.1 hm with hm|hm
      .obtain⟨q,hq,e⟩:=b3N.1 hm;exact ZU q hq e
      .obtain⟨q,hq,e⟩:=b3N.1 hm;exact ZV q hq e
     .rcases b3Z.1 he with rfl|he
      .refine⟨hx,hd,?_, .inl ⟨hex,λ w'=>?_⟩⟩
       .simp only[ei,gN,b4E];split
        .rfl
        .rename_i bN;first|rfl|(rw[b4z,b5d (by omega)];rfl)
       .have hA':nP [d] (a.put (some d) x) a:=⟨gN a _ x,by rw[jT];exact hA.da,hA.da,λ u hu=>by rw[ei,if_neg (λ q=>hu (by simpa using q.1.symm))]⟩;show (execOp (a.put (some d) x).eval o).run c.P w'=_;rw[hA'.exec b0T];exact a7F w'
      .exact (n9 e he).put hA.da (by rw[<-hd];exact hSd e he) (by rw[<-hd];exact hSu e he)
     .rw[AE,hl k hk,b4A];constructor
      .rintro (⟨q1,q2,q3⟩|rfl)
       .refine⟨q1,q2,q3.imp (λ q=>q) λ q=>?_⟩;rcases b3H.1 q with q|q
        .exact b3H.2 (.inl q)
        .exact b3H.2 (.inr (b5m _ q))
       .exact⟨vP,NF, .inr (b3H.2 (.inr (b5Z ..)))⟩
      .rintro⟨q1,q2,q3⟩;by_cases Ld:k=i
       .exact .inr Ld
       .refine .inl ⟨q1,q2,q3.imp (λ q=>q) λ q=>?_⟩;rcases b3H.1 q with q|q
        .exact b3H.2 (.inl q)
        .exact b3H.2 (.inr ((b3Z.1 q).resolve_left Ld))
     .refine⟨by rw[gN];exact hA.size,by rw[jT];exact hA.da,hA.db,λ u hu=>?_⟩;simp only[List.map_cons,List.mem_append,List.mem_cons] at hu;rw[ei,if_neg (λ q=>hu (.inr (.inr (.inl (by simpa using q.1.symm)))))];exact hA.at' u λ hm=>hu ((List.mem_append.1 hm).imp (λ q=>q) λ q=>(List.mem_append.1 q).imp (λ q=>q) .inr)
    by_cases F8:y9 o.op=true/\JU c.E o=true
    ·
     have Uw:=VH _ PX;obtain⟨d,hd⟩:∃ d,o.dst=some d:=by
      obtain⟨T,bB⟩:=QD F8.1;unfold qK at Uw;rw[bB,F8.2] at Uw;cases hd:o.dst with
      | some d=>exact⟨d,rfl⟩
      | none=>rw[hd] at Uw;simp at Uw
     obtain⟨w',x,cH,BO,hxv,Dr⟩:=a1Y hE hI (a2:=a) F8 Uw hd;unfold Oper.wp;rw[cH];show wpAny c.P .any ops Q' fuel _ (a.put o.dst x) w';rw[hd];refine ih fuel Rc X R PL (⟨i,d,x,o⟩::SL) G t (a.put (some d) x) b w' _ (by omega) (by simp;omega) (by rw[Array.size_setIfInBounds];exact cM) hR hX IZ PZ PW ?_ hPb (λ q hq=>?_) (λ e he=>?_) (λ k hk=>?_) a2i BO ?_ hs _ hK
     .rw[b4A];refine (List.perm_middle.nodup_iff).2 (b4x.2 ⟨λ hm=>?_,Uv⟩);rcases b3H.1 hm with hm|hm
      .obtain⟨q,hq,e⟩:=b3N.1 hm;exact ZU q hq e
      .obtain⟨q,hq,e⟩:=b3N.1 hm;exact ZV q hq e
     .have h3:=(nx q hq).put (d:=some d) (x:=x) (by rw[<-hd];exact hPd q hq);have bN:=h3.fr.2.2.1;refine⟨h3.ex,h3.val,h3.ptr,h3.lt,?_,h3.fr.grow Dr.size⟩;obtain⟨l,ty,q1,q2⟩:=h3.new;exact⟨l,ty,by rw[Dr.block q.b bN (λ h=>h)];exact q1,q2⟩
     .rcases b3Z.1 he with rfl|he
      .refine⟨hx,hd,?_, .inr ⟨F8,hxv⟩⟩;simp only[ei,gN,b4E];split
       .rfl
       .rename_i bN;first|rfl|(rw[b4z,b5d (by omega)];rfl)
      .exact (n9 e he).put hA.da (by rw[<-hd];exact hSd e he) (by rw[<-hd];exact hSu e he)
     .rw[AE,hl k hk,b4A];constructor
      .rintro (⟨q1,q2,q3⟩|rfl)
       .refine⟨q1,q2,q3.imp (λ q=>q) λ q=>?_⟩;rcases b3H.1 q with q|q
        .exact b3H.2 (.inl q)
        .exact b3H.2 (.inr (b5m _ q))
       .exact⟨vP,NF, .inr (b3H.2 (.inr (b5Z ..)))⟩
      .rintro⟨q1,q2,q3⟩;by_cases Ld:k=i
       .exact .inr Ld
       .refine .inl ⟨q1,q2,q3.imp (λ q=>q) λ q=>?_⟩;rcases b3H.1 q with q|q
        .exact b3H.2 (.inl q)
        .exact b3H.2 (.inr ((b3Z.1 q).resolve_left Ld))
     .refine⟨by rw[gN];exact hA.size,by rw[jT];exact hA.da,hA.db,λ u hu=>?_⟩;simp only[List.map_cons,List.mem_append,List.mem_cons] at hu;rw[ei,if_neg (λ q=>hu (.inr (.inr (.inl (by simpa using q.1.symm)))))];exact hA.at' u λ hm=>hu ((List.mem_append.1 hm).imp (λ q=>q) λ q=>(List.mem_append.1 q).imp (λ q=>q) .inr)
    ·
     have b2u:dv c.E o=false:=by
      simp only[dv,Bool.or_eq_false_iff];exact⟨by simpa using hal,by simpa using hex,by
       cases q1:y9 o.op
       .rfl
       .cases q2:JU c.E o
        .rfl
        .exact absurd ⟨q1,q2⟩ F8⟩
     have hlz:∀ z∈X,Nat.testBit ((bV ops.toList []).getD i 0) z.1=true->dv c.E z.2=true/\z.1∈PL.map PE.i++SL.map XE.i:=λ z hz hb=>by
      have h3:=(Hc z.1 hb).1;have h4:=(hX z hz).1;rcases ((hl z.1 (by omega)).1 h3).2.2 with h5|h5
      .exact absurd rfl (h5 z hz)
      .refine⟨?_,h5⟩;have e0:=(hX z hz).2.1;rcases b3H.1 h5 with h7|h7
       .obtain⟨p,hp,e⟩:=b3N.1 h7;obtain⟨o2,T,τ,r,hm,W7,NH,_⟩:=(nx p hp).ex;have e1:=(hX _ hm).2.1;simp only at e1;rw[e,e0] at e1;simp only[b3C] at e1;rw[e1];simp[dv,oN,W7]
       .obtain⟨p,hp,e⟩:=b3N.1 h7;have e1:=(hX _ (n9 p hp).mem).2.1;simp only at e1;rw[e,e0] at e1;simp only[b3C] at e1;rw[e1];exact (n9 p hp).lz
     obtain⟨mm,hu0,hK⟩:=a3Z (y:=(i,o)) hK hx PZ (by
      simp only[Wm,b2u,b3I,b4T,b4C,b5s,b3S];intro z hz;cases hb:Nat.testBit ((bV ops.toList []).getD i 0) z.1 with
      | false=>exact .inr rfl
      | true=>exact .inl (hlz z hz hb).1) (λ x0 xs e hz=>by
      cases hb:Nat.testBit ((bV ops.toList []).getD i 0) x0.1 with
      | false=>rfl
      | true =>
       rcases b3H.1 (hlz x0 (by rw[e];simp) hb).2 with h5|h5
       .obtain⟨p,hp,e'⟩:=b3N.1 h5;exact absurd ⟨x0,xs,p,e,hp,e'⟩ VG
       .obtain⟨p,hp,e'⟩:=b3N.1 h5;exact absurd ⟨x0,xs,p,e,hp,e'⟩ P0)
     have hxm:∀ z,z∈X->z.1≠i->z∈X.filter λ z => !Nat.beq z.1 i:=λ z hz eZ=>List.mem_filter.2 ⟨hz,by rw[a5h.2 eZ];rfl⟩;have a5c:∀ z,z∈(X.filter λ z => !Nat.beq z.1 i)->z∈X/\z.1≠i:=λ z hz=>⟨(List.mem_filter.1 hz).1,a5h.1 (by simpa using (List.mem_filter.1 hz).2)⟩;have xp:(X.filter λ z => !Nat.beq z.1 i).length+1=X.length:=ZL hx PZ;generalize lB:(X.filter λ z => !Nat.beq z.1 i)=xs at *
     have hxn:(xs.map (·.1)).Nodup:=by rw[<-lB];exact PZ.sublist (b6l _ b7B)
     .simp only at hu0 hK;have eY:∀ j∈R,∃ o',ops.toList[j]?=some o'/\(j,o')∈Rc.filter λ r => !Nat.testBit ((bV ops.toList []).getD i 0) r.1:=λ j hj=>by
       obtain⟨q1,o',q2,q3,_,_⟩:=hR j hj;refine⟨o',q2,b5b.2 ⟨q3,?_⟩⟩;simp only[b3S];cases hb:Nat.testBit ((bV ops.toList []).getD i 0) j with
       | false=>rfl
       | true=>exact absurd hj ((hl j (by omega)).1 (Hc j hb).1).2.1
      have hu:fW (R.filterMap (cD ops.toList)++(PL.map PE.d++SL.map XE.d)) o=true:=nM hu0 λ t ht=>by
       rcases b3H.1 ht with ht|ht
       .obtain⟨j,hj,HL⟩:=List.mem_filterMap.1 ht;obtain⟨o',q2,q3⟩:=eY j hj;exact List.mem_append.2 (.inl (gH.2 ⟨(j,o'),q3,by simpa [cD,q2] using HL⟩))
       .rcases b3H.1 ht with ht|ht
        .obtain⟨p,hp,rfl⟩:=b3N.1 ht;obtain⟨o2,T,τ,r,hm,bB,NH,_⟩:=(nx p hp).ex;exact b3H.2 (.inr (mO c.E (hxm _ hm (ZU p hp)) (by simp[dv,oN,bB]) NH))
        .obtain⟨p,hp,rfl⟩:=b3N.1 ht;exact b3H.2 (.inr (mO c.E (hxm _ (n9 p hp).mem (ZV p hp)) ((n9 p hp).lz) (n9 p hp).dst))
      have hIz:=hI.fz hZ;refine a6A (hA.exec hu) ?_ ?_ (Q9 (c:=c.fz w G.S λ b=>∃ p∈PL,p.b=b) hE hIz hK (Q:=λ _ _ _=>False))
      .rintro x w' ⟨G',s',b1Z,hsr⟩;obtain⟨BO,fY⟩:=hI.b2Y hZ b1Z;obtain⟨k1,k2⟩:=lg hsr;refine ih fuel _ xs R PL SL G' s' (a.put o.dst x) (b.put o.dst x) w' _ (by omega) (by omega) (by rw[b5f];exact cM) (λ j hj=>?_) (λ y hy=>hX y (a5c y hy).1) IZ hxn (λ j hj y hy=>PW j hj y (a5c y hy).1) Uv hPb (λ p hp=>?_) (λ e he=>?_) (λ k hk=>?_) a2i BO (hA.put λ q hq YZ=>absurd hq YZ) (λ j hj o' cN=>?_) _ k2
       .obtain⟨q1,o',q2,q3,q4,q7⟩:=hR j hj;obtain⟨o2,q5,q6⟩:=eY j hj;have e:o'=o2:=by rw[q2] at q5;simpa using q5
        subst e;exact⟨q1,o',q2,q6,q4,q7⟩
       .have h3:=(nx p hp).put (d:=o.dst) (x:=x) (hPd p hp);obtain⟨e1,e2⟩:=fY p.b ⟨p,hp,rfl⟩;refine⟨?_,h3.val,h3.ptr,h3.lt,?_,e2⟩
        .obtain⟨o2,T,τ,r,hm,m2,m3,m4,m5⟩:=h3.ex;exact⟨o2,T,τ,r,hxm _ hm (ZU p hp),m2,m3,m4,m5⟩
        .obtain⟨l,ty,q1,q2⟩:=h3.new;exact⟨l,ty,by rw[e1];exact q1,q2⟩
       .have h3:=(n9 e he).put (x:=x) hA.da (hSd e he) (hSu e he);exact⟨hxm _ h3.mem (ZV e he),h3.dst,h3.val,h3.run⟩
       .rw[AE,hl k hk];constructor
        .rintro (⟨q1,q2,q3⟩|rfl)
         .exact⟨q1,q2,q3.imp (λ q y hy=>q y (a5c y hy).1) λ q=>q⟩
         .exact⟨vP,NF, .inl λ y hy e=>(a5c y hy).2 e⟩
        .rintro⟨q1,q2,q3⟩;by_cases Ld:k=i
         .exact .inr Ld
         .refine .inl ⟨q1,q2,q3.imp (λ q y hy=>?_) λ q=>q⟩;by_cases e:y.1=i
          .rw[e];exact Ne.symm Ld
          .exact q y (hxm y hy e)
       .obtain⟨o2,q5,q6⟩:=eY j hj;rw[q5] at cN;simp only[b3C] at cN;subst cN;exact k1 (j,o2) q6
      .rintro b' w' ⟨G',s',BO,_⟩;exact BO.defers
end
theorem Ct{cm:List Nat}{p:Nat}(h:Xj cm p=true){j k:Nat}(hj:p<=j)(hl:j<cm.length)(hk:k<p):Nat.testBit (cm.getD j 0) k=true:=by
 unfold Xj at h;rw[List.all_eq_true] at h;have hm:cm[j]∈cm.drop p:=by
  rw[List.mem_iff_getElem?];refine⟨j - p,?_⟩;rw[b5w,show p+(j - p)=j by omega,b4j hl]
 have h1:=Nat.eq_of_beq_eq_true (h _ hm);rw[List.getD_eq_getElem?_getD,List.getElem?_eq_getElem hl,Option.getD_some];have h2:Nat.testBit (cm[j] % 2 ^ p) k=true:=by rw[h1,Nat.testBit_two_pow_sub_one];simpa using hk
 rw[Nat.testBit_mod_two_pow] at h2;simp only[b3J] at h2;exact h2.2
theorem a0q{l:List Oper}{es:List Rv}{lo m bits:Nat}{s0:ah}{π π':List Nat}(rj:∀ j k t,lo<=j->j<m->lo<=k->k<m->cD l j=some t->cD l k=some t->j=k)
  (hπ:∀ k∈π,lo<=k/\k<m) (Xh:∀ k∈π',lo<=k/\k<m) (hn:π.Nodup) (Ds:π'.Nodup) (ha:∀ k,lo<=k->k<m->Nat.testBit bits k=true->k∈π/\k∈π') (t:Nat) (hh:hidden l m bits t=false) :
  (dR l es s0 π).sl t=(dR l es s0 π').sl t/\(dR l es s0 π).af t=(dR l es s0 π').af t:=by
 by_cases hex:∃ k,lo<=k/\k<m/\cD l k=some t
 .obtain⟨k,cF,hk,hd⟩:=hex;have hb:Nat.testBit bits k=true:=by
   have:=hh;unfold hidden at this;rw[List.any_eq_false] at this;have:=this k (by simpa using hk);simp only[hd] at this;simp only[Nat.beq_refl] at this;simpa using this
  obtain⟨h1,h2⟩:=ha k cF hk hb;obtain⟨e1,e2⟩:=Br l es t k hd π s0 h1 hn (λ j hj eZ HL=>eZ (rj j k t (hπ j hj).1 (hπ j hj).2 cF hk HL hd));obtain⟨e3,e4⟩:=Br l es t k hd π' s0 h2 Ds (λ j hj eZ HL=>eZ (rj j k t (Xh j hj).1 (Xh j hj).2 cF hk HL hd));exact⟨e1.trans e3.symm,e2.trans e4.symm⟩
 .have ie:∀ k,lo<=k->k<m->cD l k≠some t:=λ k hl hk hd=>hex ⟨k,hl,hk,hd⟩;obtain⟨e1,e2⟩:=gI l es t π s0 (λ k hk=>ie k (hπ k hk).1 (hπ k hk).2);obtain⟨e3,e4⟩:=gI l es t π' s0 (λ k hk=>ie k (Xh k hk).1 (Xh k hk).2);exact⟨e1.trans e3.symm,e2.trans e4.symm⟩
def fB(lo i:Nat):List Nat:=List.range' lo (i - lo)
theorem Fi{lo i k:Nat}:k∈fB lo i↔lo<=k/\k<i:=by
 unfold fB;rw[List.mem_range'_1];omega
theorem Ou(lo i:Nat):(fB lo i).Nodup:=List.nodup_range'
theorem a6q{lo i:Nat}(h:lo<=i):fB lo (i+1)=fB lo i++[i]:=by
 unfold fB;rw[show i+1 - lo=(i - lo)+1 by omega,List.range'_1_concat,show lo+(i - lo)=i by omega]
theorem YE{E:Env}{l:List Oper}{m lo:Nat}{cm:List Nat}{s0:ah}:∀ (r:List Oper) (i:Nat) (es Di:List Rv) (s s':ah),Trace E l m cm i r es s s'->(∀ j o,r[j]?=some o->l[i+j]?=some o)->Di.length=i->lo<=i ->
  s=dR l (Di++es) s0 (fB lo i) ->
  (∀ j o,r[j]?=some o->VV E l m (cm.getD (i+j) 0) (dR l (Di++es) s0 (fB lo (i+j))) o ((Di++es).getD (i+j) ⟨false, .any,none⟩))/\s'=dR l (Di++es) s0 (fB lo (i+r.length))
 | [],i,[],Di,s,s',h,_,_,_,hs=>by
  have h:s=s':=h;subst h;exact⟨by simp,by simpa using hs⟩
 | o::r,i,e::es,Di,s,s',h,hl,h0,hlo,hs=>by
  obtain⟨h1,h2⟩:=h;have ho:l[i]?=some o:=hl 0 o rfl;have a2l:(Di++e::es).getD i ⟨false, .any,none⟩=e:=by simp[b3V,<-h0]
  have cv:s.jC o.dst e.v e.ob=dR l ((Di++[e])++es) s0 (fB lo (i+1)):=by
   rw[b4H,a6q hlo,zr,b6e,a2l,<-hs];simp[cD,ho]
  have ih:=YE r (i+1) es (Di++[e]) _ s' h2 (λ j p hj=>by
   have:=hl (j+1) p (by simpa using hj);rwa [show i+(j+1)=i+1+j by omega] at this) (by simp[h0]) (by omega) cv
  rw[b4H,b6e] at ih;refine⟨λ j p hj=>?_,by rw[ih.2];congr 2;simp;omega⟩;cases j with
  | zero =>
   simp at hj;subst hj;rw[b5D,a2l,<-hs];exact h1
  | succ j =>
   have:=ih.1 j p (by simpa using hj);rwa [show i+1+j=i+(j+1) by omega] at this
 | [],_,_::_,_,_,_,h,_,_,_,_=>h.elim
 | _::_,_,[],_,_,_,h,_,_,_,_=>h.elim
theorem X2:∀ (l π:List Nat),l.Nodup->(∀ k∈l,k∈π)->l.length<=π.length
 | [],_,_,_=>by simp
 | x::l,π,hn,h=>by
  have Ds:=b4x.1 hn;have hx:=h x (by simp);have h1:=X2 l (π.erase x) Ds.2 (λ k hk=>by
   have eZ:k≠x:=λ e=>by subst e;exact Ds.1 hk
   exact (b5T eZ).2 (h k (by simp[hk])))
  have h3:=b5M hx;have:0<π.length:=b5R hx;simp only[b3P];omega
theorem X1{lo m:Nat}(π:List Nat)(hn:π.Nodup)(h:∀ k∈π,lo<=k/\k<m):π.length<=m - lo:=by
 have h1:(List.range lo++π).Nodup:=by
  rw[b4h];refine⟨b6C,hn,λ x hx y hy e=>?_⟩;simp at hx;have:=(h y hy).1;omega
 have h2:=zq (max lo m) (List.range lo++π) h1 (λ k hk=>by
  rcases b3H.1 hk with hk|hk
  .simp at hk;omega
  .have:=(h k hk).2;omega)
 rw[b3U,List.length_range] at h2;cases π with
 | nil=>simp
 | cons k r =>
  have:=h k (by simp);omega
section
variable {c:Ctx} {G:Gh} {s:ah} {a:Act} {w w':World}
theorem a8b(hE:bH c.P c.E){ops:Array Oper}{j:Nat}(dM:backward ops.toList=true)(hj:j<ops.size)(hcut:∀ i,j<i->i<ops.size->Nat.testBit ((bV ops.toList []).getD i 0) j=true)
  {P:ah->Prop} {Q':Exit->Act->World->Prop} {fuel:Nat} {kn:List (Nat×Bool)} {listed:Array Bool} (cM:listed.size=ops.size) (hl:∀ k,k<ops.size->(listed.getD k false=true↔k<j))
  (hI:Inv c G s a w) (hr:fv c.E ops [ops[j]] kn P s)
  (AB:∀ G s a w (listed:Array Bool),listed.size=ops.size->(∀ k,k<ops.size->(listed.getD k false=true↔k<j+1))->Inv c G s a w->P s->wpAny c.P .any ops Q' fuel listed a w):wpAny c.P .any ops Q' (fuel+1) listed a w:=by
 have ho:ops[j]?=some ops[j]:=b4R hj;constructor
 .intro vR;have:j∈Region.ready .any ops listed:=(mem_ready cM).2 ⟨_,ho,by
   cases hb:listed.getD j false with
   | false=>rfl
   | true=>have:=(hl j hj).1 hb;omega,λ e he hb=>by
   have:=cg dM j ops[j] (by simp) e he hb;exact (hl e.on (by omega)).2 this⟩
  rw[vR] at this;cases this
 .intro i hi;obtain⟨o,cE,h1,h2⟩:=(mem_ready cM).1 hi;have L8:=(b4P.1 cE).1;have hge:j<=i:=by
   rcases b4J i j with h|h
   .have:=(hl i L8).2 h;rw[h1] at this;cases this
   .exact h
  have EM:i=j:=by
   rcases b4J j i with h|h
   .have eY:=Ik (l:=ops.toList) (D:=λ k=>k<j) (λ k hk o' cN e he hb=>by
     have:=cg dM k o' cN e he hb;omega) i o (by simpa using cE) (λ e he hb=>by
      have bN:=cg dM i o (by simpa using cE) e he hb;exact (hl e.on (by omega)).1 (h2 e he hb)) j (hcut i h L8)
    omega
   .omega
  subst EM;have AE:∀ k,k<ops.size->((listed.setIfInBounds i true).getD k false=true↔k<i+1):=λ k hk=>by
   rw[wm (by omega),hl k hk];omega
  unfold wpOp;simp only[ho];have lA:=Fz hE hI hr;split at lA
  .rename_i hw;rw[b4n hw];exact .inl (b5j (λ a' w' ⟨G',s',pL,h1,h2⟩=>AB G' s' a' w' _ (by rw[b5f];exact cM) AE h1 h2) (lA Q'))
  .rename_i hw;rw[b3R hw];obtain⟨G',s',pL,h1,h2⟩:=lA;exact AB G' s' _ w _ (by rw[b5f];exact cM) AE h1 h2
theorem a6N(hE:bH c.P c.E){ops:Array Oper}{lo m:Nat}{es:List Rv}{s0:ah}(dM:backward ops.toList=true)(hm:m<=ops.size)
  (ri:∀ j o,m<=j->ops.toList[j]?=some o->∀ k,k<m->Nat.testBit ((bV ops.toList []).getD j 0) k=true)
  (b2s:∀ j o,lo<=j->ops.toList[j]?=some o->∀ k,k<lo->Nat.testBit ((bV ops.toList []).getD j 0) k=true)
  (rj:∀ j k t,lo<=j->j<m->k<m->cD ops.toList j=some t->cD ops.toList k=some t->j=k)
  (a7u:∀ i o,lo<=i->i<m->ops.toList[i]?=some o->VV c.E ops.toList m ((bV ops.toList []).getD i 0) (dR ops.toList es s0 (fB lo i)) o (es.getD i ⟨false, .any,none⟩))
  (Nz:∀ i o,lo<=i->i<m->ops.toList[i]?=some o->wK o.dst=true) (tu:∀ i o t,lo<=i->i<m->ops.toList[i]?=some o->zS o.op=true->o.dst=some t->s0.af t=none)
  {Q':Exit->Act->World->Prop}
  (L6:∀ (fuel:Nat) (G:Gh) (a:Act) (w:World) (listed:Array Bool),ops.size=m+fuel->listed.size=ops.size->(∀ k,k<ops.size->(listed.getD k false=true↔k<m))->Inv c G (dR ops.toList es s0 (fB lo m)) a w->wpAny c.P .any ops Q' fuel listed a w) :
  ∀ (fuel:Nat) (π:List Nat) (G:Gh) (a:Act) (w:World) (listed:Array Bool),ops.size=lo+π.length+fuel->π.Nodup->(∀ k∈π,lo<=k/\k<m)->listed.size=ops.size->(∀ k,k<ops.size->(listed.getD k false=true↔k<lo\/k∈π)) ->
   (∀ k∈π,∀ o,ops.toList[k]?=some o->∀ e∈o.after.toList,Region.binds .any e=true->e.on<lo\/e.on∈π)->lo<=m->Inv c G (dR ops.toList es s0 π) a w->wpAny c.P .any ops Q' fuel listed a w:=by
 have a7t:∀ j k t,lo<=j->j<m->lo<=k->k<m->cD ops.toList j=some t->cD ops.toList k=some t->j=k:=λ j k t h1 h2 _ h4=>rj j k t h1 h2 h4;have fin:∀ (fuel:Nat) (π:List Nat) (G:Gh) (a:Act) (w:World) (listed:Array Bool),ops.size=lo+π.length+fuel->π.Nodup->(∀ k∈π,lo<=k/\k<m)->listed.size=ops.size->(∀ k,k<ops.size->(listed.getD k false=true↔k<lo\/k∈π)) ->
   lo<=m->(∀ k,lo<=k->k<m->k∈π)->Inv c G (dR ops.toList es s0 π) a w->wpAny c.P .any ops Q' fuel listed a w:=by
  intro fuel π G a w listed hf hn bN cM hl hlm kX hI;have hlen:=X1 π hn bN;have hge:m - lo<=π.length:=by
   have h2:(fB lo m).length<=π.length:=X2 (fB lo m) π (Ou lo m) λ k hk=>kX k (Fi.1 hk).1 (Fi.1 hk).2;simpa [fB] using h2
  have heq:∀ t,(dR ops.toList es s0 π).sl t=(dR ops.toList es s0 (fB lo m)).sl t/\(dR ops.toList es s0 π).af t=(dR ops.toList es s0 (fB lo m)).af t:=λ t =>
   a0q (bits:=2 ^ m - 1) a7t bN (λ k hk=>Fi.1 hk) hn (Ou lo m) (λ k cF hk _=>⟨kX k cF hk,Fi.2 ⟨cF,hk⟩⟩) t (by
    unfold hidden;rw[List.any_eq_false];intro k hk;simp only[List.mem_range] at hk;split
    .split
     .simp[b6g,hk]
     .simp
    .simp)
  refine L6 fuel G a w listed (by omega) cM (λ k hk=>?_) ?_
  .rw[hl k hk];constructor
   .rintro (h|h)
    .omega
    .exact (bN k h).2
   .intro h;rcases b4J k lo with h'|h'
    .exact .inl h'
    .exact .inr (kX k h' h)
  .unfold Inv at hI ⊢;rw[Qr] at hI ⊢;rw[<-funext λ t=>(heq t).1,<-funext λ t=>(heq t).2];exact hI
 intro fuel;induction fuel with
 | zero =>
  intro π G a w listed hf hn bN cM hl AA hlm hI;refine fin 0 π G a w listed hf hn bN cM hl hlm (λ k cF hk=>?_) hI;cases hb:decide (k∈π) with
  | true=>exact b4u hb
  | false =>
   have:=X1 (lo:=lo) (m:=m) (k::π) (b4x.2 ⟨b5x hb,hn⟩) (λ j hj=>by
    rcases b3Z.1 hj with rfl|hj
    .exact⟨cF,hk⟩
    .exact bN j hj)
   simp at this;omega
 | succ fuel ih =>
  intro π G a w listed hf hn bN cM hl AA hlm hI;by_cases kX:∀ k,lo<=k->k<m->k∈π
  .exact fin (fuel+1) π G a w listed hf hn bN cM hl hlm kX hI
  ·
   have hex:∃ k,lo<=k/\k<m/\k∉π/\∀ j,lo<=j->j<k->j∈π:=by
    have:∀ n,(∃ k,k<n/\lo<=k/\k<m/\k∉π)->∃ k,lo<=k/\k<m/\k∉π/\∀ j,lo<=j->j<k->j∈π:=by
     intro n;induction n with
     | zero=>rintro⟨k,hk,_⟩;omega
     | succ n ihn =>
      rintro⟨k,hk,P9,hkm,Dr⟩;by_cases hs:∃ k,k<n/\lo<=k/\k<m/\k∉π
      .exact ihn hs
      .refine⟨k,P9,hkm,Dr,λ j YW hj=>?_⟩;cases hb:decide (j∈π) with
       | true=>exact b4u hb
       | false=>exact absurd ⟨j,by omega,YW,by omega,b5x hb⟩ hs
    refine this m ?_;obtain⟨k,hk⟩:=b7s.1 kX;have h2:=b7a.1 hk;have h3:=b7a.1 h2.2;exact⟨k,h3.1,h2.1,h3.1,h3.2⟩
   obtain⟨k0,b3z,a4Y,vQ,a2p⟩:=hex;have a2m:ops[k0]?=some (ops[k0]'(by omega)):=b4R (by omega);constructor
   .intro vR;have:k0∈Region.ready .any ops listed:=(mem_ready cM).2 ⟨_,a2m,by
     cases hb:listed.getD k0 false with
     | false=>rfl
     | true =>
      rcases (hl k0 (by omega)).1 hb with h|h
      .omega
      .exact absurd h vQ,λ e he hb=>by
     have a2o:=cg dM k0 ops[k0] (by simp) e he hb;refine (hl e.on (by omega)).2 ?_;rcases b4J e.on lo with h|h
     .exact .inl h
     .exact .inr (a2p e.on h a2o)⟩
    rw[vR] at this;cases this
   .intro i hi;obtain⟨o,cE,h1,h2⟩:=(mem_ready cM).1 hi;have L8:=(Array.getElem?_eq_some_iff.1 cE).1;have eA:ops.toList[i]?=some o:=by simpa using cE
    have F8:¬ (i<lo\/i∈π):=λ hh=>by
     have:=(hl i L8).2 hh;rw[h1] at this;cases this
    have y8:i∉π:=λ h=>F8 (.inr h);have hil:lo<=i:=by
     rcases b4J i lo with h|h
     .exact absurd (.inl h) F8
     .exact h
    have WY:∀ e∈o.after.toList,Region.binds .any e=true->e.on<lo\/e.on∈π:=λ e he hb=>by
     have a2o:=cg dM i o eA e he hb;exact (hl e.on (by omega)).1 (h2 e he hb)
    have Hc:=Ik (l:=ops.toList) (D:=λ k=>k<lo\/k∈π) (λ k hk o' cN e he hb=>by
     rcases hk with hk|hk
     .have:=cg dM k o' cN e he hb;exact .inl (by omega)
     .exact AA k hk o' cN e he hb) i o eA WY
    have vP:i<m:=by
     rcases b4J i m with h|h
     .exact h
     .rcases Hc k0 (ri i o h eA k0 a4Y) with h|h
      .omega
      .exact absurd h vQ
    have P1:=Ik (l:=ops.toList) (D:=λ k=>k<i) (λ k hk o' cN e he hb=>by
     have:=cg dM k o' cN e he hb;omega) i o eA (λ e he hb=>cg dM i o eA e he hb)
    have NJ:=λ t hh=>a0q (l:=ops.toList) (es:=es) (s0:=s0) (lo:=lo) (m:=m) (bits:=(bV ops.toList []).getD i 0) (π:=π) (π':=fB lo i) a7t bN (λ k hk=>by have:=Fi.1 hk;omega) hn (Ou lo i)
     (λ k cF hk hb=>⟨by
      rcases Hc k hb with h|h
      .omega
      .exact h,Fi.2 ⟨cF,P1 k hb⟩⟩) t hh
    obtain⟨hg,cH,a3Q⟩:=a7u i o hil vP eA;have cW:YO ops.toList m ((bV ops.toList []).getD i 0) (dR ops.toList es s0 (fB lo i))=YO ops.toList m ((bV ops.toList []).getD i 0) (dR ops.toList es s0 π):=by
     funext x;cases x with
     | tmp t =>
      simp only[YO];split
      .rfl
      .rename_i hh;exact ((NJ t hh).1).symm
     | _=>rfl
    have cF:U7 ops.toList m ((bV ops.toList []).getD i 0) (dR ops.toList es s0 (fB lo i))=U7 ops.toList m ((bV ops.toList []).getD i 0) (dR ops.toList es s0 π):=by
     funext t;simp only[U7];split
     .rfl
     .rename_i hh;exact ((NJ t hh).2).symm
    have hg':gj ops.toList ((bV ops.toList []).getD i 0) (dR ops.toList es s0 π) o (es.getD i ⟨false, .any,none⟩).LJ:=by
     unfold gj at hg ⊢;split
     .rename_i Ds;simpa [Ds] using hg
     .rename_i g want Ds;simp only[Ds] at hg;obtain⟨t,b,q1,q2,q3,q4⟩:=hg;refine⟨t,b,q1,q2,?_,q4⟩;have hgm:g<m:=Nat.lt_trans (P1 g q2) vP;have hh:hidden ops.toList m ((bV ops.toList []).getD i 0) t=false:=by
       unfold hidden;rw[List.any_eq_false];intro k hk;simp only[List.mem_range] at hk;split
       .rename_i d hd;split
        .rename_i I1;have I1:=b3G I1;subst I1;rcases b4J k lo with P9|P9
         .rw[b2s i o hil eA k P9];simp
         .have:=rj k g d P9 hk hgm hd q1;subst this;rw[q2];simp
        .simp
       .simp
      exact ((NJ t hh).1).trans q3
    have hw:=L4 (ops:=ops) rfl hI hg';have AB:∀ (G':Gh) (a':Act) (w':World),Inv c G' (dR ops.toList es s0 (π++[i])) a' w'->wpAny c.P .any ops Q' fuel (listed.setIfInBounds i true) a' w':=by
     intro G' a' w' BO;refine ih (π++[i]) G' a' w' _ (by simp;omega) ?_ ?_ (by rw[b5f];exact cM) ?_ ?_ hlm BO
     .rw[b4h];exact⟨hn,by simp,λ x hx y hy=>by simp at hy;subst hy;exact λ e=>y8 (e ▸ hx)⟩
     .intro k hk;rcases b3H.1 hk with hk|hk
      .exact bN k hk
      .simp at hk;omega
     .intro k hk;rw[wm (by omega),hl k hk];simp[or_assoc]
     .intro k hk o' cN e he hb;rcases b3H.1 hk with hk|hk
      .exact (AA k hk o' cN e he hb).imp id (b5N _)
      .simp at hk;subst hk;rw[eA] at cN;simp only[b3C] at cN;subst cN;exact (WY e he hb).imp id (b5N _)
    have R1:cD ops.toList i=o.dst:=by simp[cD,eA]
    unfold wpOp;simp only[cE];cases Qd:(es.getD i ⟨false, .any,none⟩).LJ with
    | true =>
     rw[Qd] at hw;rw[b4n hw];obtain⟨vc,hq,ep⟩:=cH Qd;rw[cW,cF] at hq;refine .inl (b5j ?_ (Oo hE hI (lk':=U7 ops.toList m ((bV ops.toList []).getD i 0) (dR ops.toList es s0 π)) ?_ ?_ hq ep))
     .intro a' w' hd;obtain⟨G',oK⟩:=T3 hI (Nz i o hil vP eA) (λ t ob I1 UB=>by
       rw[UB] at hq;have hcr:=Q4 hq;have h0:=tu i o t hil vP eA hcr I1;have EN:=(gI ops.toList es t π s0 (λ k hk hkd=>by
        have:=rj k i t (bN k hk).1 (bN k hk).2 vP hkd (by rw[R1];exact I1);subst this;exact y8 hk)).2
       rw[EN,h0]) hd
      refine AB G' a' w' ?_;rw[zr,R1];exact oK
     .intro id ob aX;unfold U7 at aX;split at aX
      .cases aX
      .exact aX
     .intro x;cases x with
      | tmp t =>
       simp only[YO];split
       .trivial
       .exact bx hI (.tmp t)
      | const v=>exact bx hI (.const v)
      | global g=>exact bx hI (.global g)
      | func f=>exact bx hI (.func f)
    | false =>
     rw[Qd] at hw;rw[hw];obtain⟨hv,UB⟩:=a3Q Qd;refine AB G _ w ?_;rw[zr,R1,hv,UB,Sx];exact Inv.put (v := .eh) hI rfl
theorem J1{α:Type}{l:List α}{lo hi j:Nat}{o:α}(h:((l.take hi).drop lo)[j]?=some o):l[lo+j]?=some o/\lo+j<hi:=by
 rw[b5w,b5i] at h;split at h
 .rename_i bN;exact⟨h,bN⟩
 .cases h
theorem ju{α:Type}{l:List α}{lo hi i:Nat}{o:α}(h:l[i]?=some o)(h1:lo<=i)(h2:i<hi):((l.take hi).drop lo)[i - lo]?=some o:=by
 rw[b5w,b5i,show lo+(i - lo)=i by omega,b4n h2,h]
theorem wJ:∀ {l:List (Option Nat)},zV l=true->∀ (i j t:Nat),l[i]?=some (some t)->l[j]?=some (some t)->i=j
 | [],_,i,j,t,h,_=>by simp at h
 | none::r,h,i,j,t,hi,hj=>by
  cases i with
  | zero=>simp at hi
  | succ i =>
   cases j with
   | zero=>simp at hj
   | succ j=>rw[wJ (l:=r) h i j t (by simpa using hi) (by simpa using hj)]
 | some d::r,h,i,j,t,hi,hj=>by
  simp only[zV] at h;split at h
  .cases h
  .rename_i a2h;rw[b6Z] at a2h;have no:∀ k:Nat,r[k]?=some (some d)->False:=λ k hk=>by
    have:=a2h _ (b5h hk);simp at this
   cases i with
   | zero =>
    simp at hi;subst hi;cases j with
    | zero=>rfl
    | succ j=>exact (no j (by simpa using hj)).elim
   | succ i =>
    cases j with
    | zero =>
     simp at hj;subst hj;exact (no i (by simpa using hi)).elim
    | succ j=>rw[wJ (l:=r) h i j t (by simpa using hi) (by simpa using hj)]
theorem L3{l:List Oper}{lo hi:Nat}(h:IT l lo hi=true):∀ j k t,lo<=j->j<hi->k<hi->cD l j=some t->cD l k=some t->j=k:=by
 unfold IT at h;rw[Bool.and_eq_true,Bool.and_eq_true] at h;obtain⟨⟨_,h1⟩,h2⟩:=h;have hd:=wJ h1;have get:∀ j t,cD l j=some t->∃ o,l[j]?=some o/\o.dst=some t:=by
  intro j t h;unfold cD at h;simp only[Option.bind_eq_some_iff] at h;exact h
 intro j k t hj hjh hkh P8 hkt;obtain⟨o,ho,hot⟩:=get j t P8;obtain⟨o',cN,b0d⟩:=get k t hkt;have g1:=ju ho hj hjh;rcases b4J k lo with hk|hk
 .rw[b4C] at h2;have hm:o'∈l.take lo:=b5h (by rw[b5i,b4n hk];exact cN);have:=h2 o' hm;rw[b0d] at this;simp only[b3S] at this;rw[b6Z] at this;have:=this o (b5h g1);rw[hot] at this;simp at this
 .have g2:=ju cN hk hkh;have:=hd (j - lo) (k - lo) t (by rw[b5z,g1];simp[hot]) (by rw[b5z,g2];simp[b0d]);omega
theorem a2e{l:List Oper}{lo hi:Nat}(h:IT l lo hi=true){i:Nat}{o:Oper}(h1:lo<=i)(h2:i<hi)(ho:l[i]?=some o):wK o.dst=true:=by
 unfold IT at h;rw[Bool.and_eq_true,Bool.and_eq_true] at h;exact List.all_eq_true.1 h.1.1 o (List.mem_of_getElem? (ju ho h1 h2))
theorem Jv{i:Nat}{o:Oper}:∀ {l:List Oper} {lo:Nat},(i,o)∈l7 lo l↔∃ j,i=lo+j/\l[j]?=some o
 | [],lo=>by simp[l7]
 | x::l,lo=>by
  simp only[l7,b3Z,b3F,Jv (l:=l)];constructor
  .rintro (⟨rfl,rfl⟩|⟨j,rfl,h⟩)
   .exact⟨0,rfl,rfl⟩
   .exact⟨j+1,by omega,by simpa using h⟩
  .rintro⟨j,rfl,h⟩;cases j with
   | zero=>simp at h;exact .inl ⟨rfl,h.symm⟩
   | succ j=>exact .inr ⟨j,by omega,by simpa using h⟩
theorem Mk:∀ (l:List Oper) (lo:Nat),((l7 lo l).map (·.1)).Nodup
 | [],lo=>b4Q
 | x::l,lo=>by
  simp only[l7,b4A,b4x];refine⟨λ h=>?_,Mk l (lo+1)⟩;obtain⟨⟨i,o⟩,h1,h2⟩:=b3N.1 h;obtain⟨j,h3,_⟩:=Jv.1 h1;simp only at h2;omega
theorem nP.mono{D D':List Nat}{a b:Act}(h:nP D a b)(hs:∀ t∈D,t∈D'):nP D' a b:=⟨h.size,h.da,h.db,λ t ht=>h.at' t λ q=>ht (hs t q)⟩
theorem Uc:∀ (l:List Oper) (lo:Nat),(l7 lo l).length=l.length
 | [],lo=>rfl
 | x::l,lo=>by simp[l7,Uc l]
theorem PB{α:Type}(p:α->Bool):∀ l:List α,(l.filter p).length+(l.filter λ x => !p x).length=l.length
 | []=>rfl
 | x::l=>by
  have:=PB p l;cases h:p x<;>simp[b7i,h]<;>omega
theorem a2W(hE:bH c.P c.E){ops:Array Oper}(dM:backward ops.toList=true){Q:ah->Prop}{Q':Exit->Act->World->Prop}(hQ:∀ G s a w,Inv c G s a w->Q s->Q' .normal a w) :
  ∀ (a4P:List Nat) (lo:Nat) (kn:List (Nat×Bool)) (fuel:Nat) (G:Gh) (s:ah) (a:Act) (w:World) (listed:Array Bool),ops.size=lo+fuel->listed.size=ops.size->(∀ k,k<ops.size->(listed.getD k false=true↔k<lo))->Inv c G s a w ->
   zK c.E ops ops.toList (bV ops.toList []) a4P lo kn Q s->wpAny c.P .any ops Q' fuel listed a w:=by
 obtain⟨r,ha1,ha2,_⟩:=BW ops.toList [];have WV:(bV ops.toList []).length=ops.size:=by rw[ha1];simpa using ha2
 intro a4P;induction a4P with
 | nil =>
  intro lo kn fuel G s a w listed hf cM hl hI hr;simp only[zK] at hr;split at hr
  .rename_i hb;have hb:=Nat.eq_of_beq_eq_true hb;have hlo:lo=ops.size:=by simpa using hb
   have h0:fuel=0:=by omega
   subst h0;refine⟨?_,hQ _ _ _ _ hI hr⟩;apply b6b.2;intro i hi;obtain⟨o,ho,h1,_⟩:=(mem_ready cM).1 hi;have bN:=(b4P.1 ho).1;have:=(hl i bN).2 (by omega);rw[h1] at this;cases this
  .exact hr.elim
 | cons hi a4P ih =>
  intro lo kn fuel G s a w listed hf cM hl hI hr;simp only[zK] at hr;split at hr;case h_2=>exact hr.elim
  case h_1 hc =>
  simp only[b3J,b7c,Nat.ble_eq,b4K] at hc;obtain⟨R0,hc0,hc2,hc3⟩:=hc;split at hr
  .rename_i hb;have hb:=b3G hb;subst hb;have bN:lo<ops.size:=by omega
   obtain⟨fuel,rfl⟩:∃ f,fuel=f+1:=⟨fuel - 1,by omega⟩;have I4:(ops.toList.take (lo+1)).drop lo=[ops[lo]]:=by
    rw[List.drop_take,show lo+1 - lo=1 by omega,List.drop_eq_getElem_cons (by simpa using bN)];simp
   rw[I4] at hr;refine a8b hE dM bN (λ i h1 h2=>Ct R0 (by omega) (by omega) (by omega)) cM hl hI hr ?_;intro G s a w listed cM hl hI hp;exact ih (lo+1) kn fuel G s a w listed (by omega) cM hl hI hp
  .split at hr;case h_3=>exact hr.elim
   case h_1 Lc hal =>
    unfold a4J at hr;split at hr;case h_2=>exact hr.elim
    case h_1 ic =>
    have Cq:∀ i o,(i,o)∈l7 lo ((ops.toList.take hi).drop lo)↔lo<=i/\i<hi/\ops.toList[i]?=some o:=λ i o=>by
     rw[Jv];constructor
     .rintro⟨j,rfl,h⟩;obtain⟨h1,h2⟩:=J1 h;exact⟨by omega,h2,h1⟩
     .rintro⟨h1,h2,h3⟩;exact⟨i - lo,by omega,ju h3 h1 h2⟩
    have cU:=Mk ((ops.toList.take hi).drop lo) lo;have Lf:(l7 lo ((ops.toList.take hi).drop lo)).length=hi - lo:=by rw[Uc];simp;omega
    have Co:∀ x∈l7 lo ((ops.toList.take hi).drop lo),∀ y∈l7 lo ((ops.toList.take hi).drop lo),∀ t,x.2.dst=some t->y.2.dst=some t->x.1=y.1:=λ x hx y hy t hxt hyt=>by
     have h1:=(Cq x.1 x.2).1 hx;have h2:=(Cq y.1 y.2).1 hy;exact L3 Lc x.1 y.1 t h1.1 h1.2.1 h2.2.1 (by simp[cD,h1.2.2,hxt]) (by simp[cD,h2.2.2,hyt])
    generalize l7 lo ((ops.toList.take hi).drop lo)=fB at *
    simp only[a7V,b3J,b4C] at ic;obtain⟨t,b,q1,q2,q3⟩:=T8 hE hI hr;obtain⟨q4,q5⟩:=lg q3;have a7G:∀ p:Nat×Oper->Bool,((fB.filter p).map (·.1)).Nodup:=λ p=>cU.sublist (b6l _ b7B);have b0U:∀ x∈fB,∀ y∈fB,x.1=y.1->x=y:=λ x hx y hy e=>by
     obtain⟨x1,x2⟩:=x;obtain⟨y1,y2⟩:=y;simp only at e;subst e;have h1:=((Cq _ _).1 hx).2.2;rw[((Cq _ _).1 hy).2.2] at h1;simp only[b3C] at h1;rw[h1]
    refine a2y hE (hi:=hi) (Seg:=fB) dM hc3 ?_ (λ x hx=>by simpa using (ic.1 x hx).1) (λ x hx=>(ic.1 x hx).2) ?_ Co (λ fuel G s a w listed hf cM hl hI hp=>ih hi kn fuel G s a w listed (by omega) cM hl hI hp) (fuel+(NS c.E (bV ops.toList []) (fB.filter λ r => !nJ c.E (bV ops.toList []) fB r)).length) fuel (fB.filter (nJ c.E (bV ops.toList []) fB)) (NS c.E (bV ops.toList []) (fB.filter λ r => !nJ c.E (bV ops.toList []) fB r))
     ((fB.filter (nJ c.E (bV ops.toList []) fB)).map (·.1)) [] [] G t a b w listed (b4r _) ?_ cM ?_ ?_ (a7G _) ((((jX _ _ _).map (·.1)).nodup_iff).2 (a7G _)) ?_ b4Q b4Q (λ p hp=>by cases hp) (λ p hp=>by cases hp) ?_ ?_ ?_ ?_ ?_ fB.length ?_
    .intro j o hj ho k hk;have:=(List.getElem?_eq_some_iff.1 ho).1;exact Ct R0 hj (by rw[WV];simpa using this) hk
    .intro x hx he;have:=ic.2 x hx;simpa [he] using this
    .rw[b3Y,(jX _ _ _).length_eq,PB,Lf,b4b,b4b];omega
    .intro i oe;obtain⟨⟨i',o⟩,h1,rfl⟩:=b3N.1 oe;obtain⟨h2,h3⟩:=b5b.1 h1;have h4:=(Cq _ _).1 h2;refine⟨h4.2.1,o,h4.2.2,h1,h2,?_⟩;have:=ic.2 _ h2;rw[h3] at this;have eZ:kv o.op=false:=by
      have:=Hp (E:=c.E) (o:=o) (by simp only[nJ,Q6,b3J] at h3;exact h3.1.1);simp only[dv,Bool.or_eq_false_iff] at this;exact this.2.1
     exact⟨h3,by simpa [eZ] using this⟩
    .intro x hx;have hx:=(jX _ _ _).mem_iff.1 hx;have h2:=(b5b.1 hx).1;have h4:=(Cq _ _).1 h2;exact⟨h4.2.1,h4.2.2,h2⟩
    .intro i oe x hx e;have hx:=(jX _ _ _).mem_iff.1 hx;obtain⟨y,h1,rfl⟩:=b3N.1 oe;obtain⟨h2,h3⟩:=b5b.1 h1;obtain⟨h4,h5⟩:=b5b.1 hx;have:=b0U _ h2 _ h4 e;subst this;rw[h3] at h5;cases h5
    .intro k hk;rw[hl k hk];constructor
     .intro h;refine⟨by omega,λ hm=>?_, .inl λ x hx e=>?_⟩
      .obtain⟨y,h1,rfl⟩:=b3N.1 hm;have:=((Cq _ _).1 (b5b.1 h1).1).1;omega
      .have:=((Cq _ _).1 (b5b.1 ((jX _ _ _).mem_iff.1 hx)).1).1;omega
     .rintro⟨h1,h2,h3⟩;have h3:=h3.resolve_right (by simp);rcases b4J k lo with h|h
      .exact h
      .have hm:(k,ops[k])∈fB:=(Cq _ _).2 ⟨h,h1,by simp⟩;cases hr:nJ c.E (bV ops.toList []) fB (k,ops[k]) with
       | true=>exact absurd (b3N.2 ⟨_,b5b.2 ⟨hm,hr⟩,rfl⟩) h2
       | false=>exact absurd rfl (h3 _ ((jX _ _ _).mem_iff.2 (b5b.2 ⟨hm,by simp[hr]⟩)))
    .intro k hk P9 o ho e he hb;have h1:=cg dM k o ho e he hb;have h2:=(hl k hk).1 P9;exact (hl e.on (by omega)).2 (by omega)
    .exact q1
    .refine q2.mono λ d hd=>?_;obtain⟨r,h1,h2⟩:=gH.1 hd;have h4:=(Cq _ _).1 (b5b.1 h1).1;exact b3H.2 (.inl (b5I.2 ⟨r.1,b3N.2 ⟨r,h1,rfl⟩,by simp[cD,h4.2.2,h2]⟩))
    .intro i oe o ho;obtain⟨⟨i',o'⟩,h1,rfl⟩:=b3N.1 oe;have h4:=((Cq _ _).1 (b5b.1 h1).1).2.2;simp only at ho;rw[h4] at ho;simp only[b3C] at ho;subst ho;exact q4 _ h1
    .exact q5
   case h_2 Lc hal =>
   have rj:=L3 Lc;obtain⟨es,pL,s',HO,hq⟩:=uK hr;have hlen:((ops.toList.take hi).drop lo).length=hi - lo:=by simp;omega
   obtain⟨ht1,ht2⟩:=YE (lo:=lo) (s0:=((ops.toList.take hi).drop lo).foldl ah.fresh s) ((ops.toList.take hi).drop lo) lo es (List.replicate lo ⟨false, .any,none⟩) _ s' HO (λ j o ho=>(J1 ho).1) (by simp) (Nat.le_refl _) (by simp[fB,dR]);rw[hlen,show lo+(hi - lo)=hi by omega] at ht2;subst ht2;have hI0:Inv c G (((ops.toList.take hi).drop lo).foldl ah.fresh s) a w:=FY _ hI;refine a6N hE (lo:=lo) (m:=hi) (es:=List.replicate lo ⟨false, .any,none⟩++es) (s0:=((ops.toList.take hi).drop lo).foldl ah.fresh s) dM hc3 ?_ ?_ rj ?_ (λ i o h1 h2 ho=>a2e Lc h1 h2 ho) ?_ ?_ fuel [] G a w listed (by simp;omega) (by simp) (by simp) cM (by simpa using hl) (by simp) (by omega) hI0
   .intro j o hj ho k hk;have:=(List.getElem?_eq_some_iff.1 ho).1;exact Ct R0 hj (by rw[WV];simpa using this) hk
   .intro j o hj ho k hk;have:=(List.getElem?_eq_some_iff.1 ho).1;exact Ct hc0 hj (by rw[WV];simpa using this) hk
   .intro i o h1 h2 ho;have:=ht1 (i - lo) o (ju ho h1 h2);rwa [show lo+(i - lo)=i by omega] at this
   .intro i o t h1 h2 ho hcr I1;exact (Dq ((ops.toList.take hi).drop lo) s t).2 o (b5h (ju ho h1 h2)) hcr I1
   .intro fuel G a w listed hf cM hl hI;exact ih hi pL fuel G _ a w listed (by omega) cM hl hI (Xo hI hq)
theorem Uq(hE:bH c.P c.E)(ic:c.P.follows .mixedOrders=true){id:Nat}{ops:Array Oper}{Q:ah->Prop}{Q':Exit->Act->World->Prop}(hQ:∀ G s a w,Inv c G s a w->Q s->Q' .normal a w)
  (h:Inv c G s a w) (hd:RA c.E ops Q s):(Code.region id ops true).wp c.P Q' a w:=by
 unfold RA at hd;simp only at hd;split at hd
 .exact Wf hE ic hQ h hd
 .split at hd;case h_2=>exact hd.elim
  case h_1 dM =>
  refine wp_region_any ic ?_;exact a2W hE dM hQ _ 0 [] ops.size G s a _ _ (by simp) (by simp) (by intro k hk;simp[hk]) (bw.drew h) hd
end
def Wd{c:Ctx}{G:Gh}{s:ah}{a:Act}{w:World}(hE:bH c.P c.E)(ic:c.P.follows .mixedOrders=true){id:Nat}{ops:Array Oper}{Q:ah->Prop}{Q':Exit->Act->World->Prop}(hQ:∀ G s a w,Inv c G s a w->Q s->Q' .normal a w)
  (h:Inv c G s a w) (hd:a1I c.E ops Q s):(Code.region id ops true).wp c.P Q' a w:=Uq hE ic hQ h hd
theorem kV{u v:TV}(h:BA u v):u=v:=by
 unfold BA at h;split at h
 .rename_i x hx;have:=TV.aW hx;rw[this,h]
 .exact h.elim
theorem Gx:∀ {l:List Nat},nodupB l=true->l.Nodup
 | [],_=>b4Q
 | a::r,h=>by
  simp only[nodupB] at h;split at h
  .cases h
  .rename_i hc;exact List.nodup_cons.2 ⟨by simpa using hc,Gx h⟩
theorem Du{α:Type}(f:α->Nat):∀ {l:List α},(l.map f).Nodup->∀ x∈l,∀ y∈l,f x=f y->x=y
 | [],_,x,hx,_,_,_=>by simp at hx
 | a::r,h,x,hx,y,hy,he=>by
  simp only[b4A,b4x] at h;rcases b3Z.1 hx with hx1|hx1
  .rcases b3Z.1 hy with Y0|Y0
   .rw[hx1,Y0]
   .exact absurd (b3N.2 ⟨y,Y0,by rw[<-he,hx1]⟩) h.1
  .rcases b3Z.1 hy with Y0|Y0
   .exact absurd (b3N.2 ⟨x,hx1,by rw[he,Y0]⟩) h.1
   .exact Du f h.2 x hx1 y Y0 he
section
variable {c:Ctx} {G:Gh} {s t:ah} {a:Act} {w w':World}
def gE(G:Gh)(s t:ah)(ρ:List (Nat×Nat))(id:Nat):Value:=match s.af (dr ρ id) with
 | some _=>G.η (dr ρ id)
 | none=>match cx (t.af id) with
  | true => .tuple [.slice none 0 0].toArray
  | false => .slice none 0 0
def uE(G:Gh)(s:ah)(ρ:List (Nat×Nat))(id:Nat):List Nat:=match s.af (dr ρ id) with
 | some _=>G.φ (dr ρ id)
 | none=>[]
theorem o4{ρ:List (Nat×Nat)}{x:Value}{u v:AV}(h:AV.yI ρ s t u v)(hu:C1 c G s.af w u x):C1 c ⟨G.S,gE G s t ρ,uE G s ρ⟩ t.af w v x:=by
 unfold AV.yI at h;split at h
 .trivial
 .split at h
  .have:=kV h;subst this;exact hu
  .split at h
   .subst h;exact⟨rfl,VB (c:=c) (G:=G) (lk:=s.af) (τ := .slice _) (v := .nil) rfl (show C1 c G s.af w .nil x from hu)⟩
   .exact h.elim
  .exact h.elim
 .split at h
  .exact hu
  .exact h.elim
 .split at h
  .have:=kV h;subst this;exact hu
  .exact h.elim
 .split at h
  .split at h
   .rename_i hb;simp only[b3J] at hb;have h1:=b3G hb.1.1;have h2:=b3G hb.1.2;subst h1 h2;obtain⟨b,k1,k2,k3⟩:=hu;refine⟨b,?_,k2,hb.2⟩;simp only[gE];match hl:s.af (dr ρ _),k3 with
    | some o,_=>exact k1
   .exact h.elim
  .exact h.elim
 .split at h
  .split at h
   .rename_i hb;simp only[b3J] at hb;have h1:=b3G hb.1;subst h1;obtain⟨k1,k2,k3⟩:=hu;refine⟨?_,hb.2,k3⟩;simp only[gE];match hl:s.af (dr ρ _),k2 with
    | some o,_=>exact k1
   .exact h.elim
  .split at h
   .rename_i hr hn;refine⟨?_,hr,none,0,0,hu⟩;simp only[gE,hn,uY hr];exact hu
   .exact h.elim
  .exact h.elim
 .split at h
  .split at h
   .rename_i hb;simp only[b3J] at hb;have h1:=b3G hb.1;subst h1;obtain⟨k1,l,k2,k3⟩:=hu;refine⟨hb.2,l,?_,k3⟩;simp only[gE];match hl:s.af (dr ρ _),k1 with
    | some o,_=>exact k2
   .exact h.elim
  .split at h
   .rename_i hr hn;have hu:x = .slice none 0 0:=hu;refine⟨hr,[],?_,none,0,0,hu⟩;simp only[gE,hn,hr];rw[hu]
   .exact h.elim
  .exact h.elim
 .split at h
  .split at h
   .rename_i hb;have h1:=b3G hb;subst h1;exact hu
   .exact h.elim
  .exact h.elim
 .split at h
  .split at h
   .rename_i hb;simp only[b3J] at hb;have h1:=b3G hb.1;subst h1;obtain⟨k1,k2,k3⟩:=hu;refine⟨?_,hb.2,k3⟩;simp only[gE];match hl:s.af (dr ρ _),k2 with
    | some o,_=>exact k1
   .exact h.elim
  .exact h.elim
 .exact h.elim
theorem IP{ρ:List (Nat×Nat)}:∀ {us vs:List AV} {l:List Value},L2 ρ s t us vs->aV (C1 c G s.af w) us l->aV (C1 c ⟨G.S,gE G s t ρ,uE G s ρ⟩ t.af w) vs l
 | [],[],[],_,_=>trivial
 | u::us,v::vs,x::l,h,hu=>by
  simp only[L2] at h;split at h
  .exact⟨U,IP h hu.2⟩
  .exact⟨o4 h.1 hu.1,IP h.2 hu.2⟩
 | [],_::_,_,h,_=>h.elim
 | _::_,[],_,h,_=>h.elim
 | [],[],_::_,_,h=>h.elim
 | _::_,_::_,[],_,h=>h.elim
theorem a7l{ρ:List (Nat×Nat)}{x:Value}{u v:AV}(h:AV.a9N ρ s t u v)(hu:CR c G s.af w u x):CR c ⟨G.S,gE G s t ρ,uE G s ρ⟩ t.af w v x:=by
 rcases hu.inv with ⟨z,rfl,h1⟩|⟨cs,l,rfl,rfl,h1⟩|h1
 .cases v with
  | any=>trivial
  | aI z' =>
   have:=kV (show BA z z' from h);subst this;exact hu
  | _=>exact (show False from h).elim
 .cases v with
  | any=>trivial
  | agg vs=>exact⟨l,rfl,IP (show L2 ρ s t cs vs from h) h1⟩
  | _=>exact (show False from h).elim
 .cases u with
  | agg cs=>exact (show False from h1).elim
  | _=>exact (o4 (show AV.yI ρ s t _ v by cases v<;>exact h) h1).a3b
theorem WI{ρ:List (Nat×Nat)}:∀ {us vs:List AV} {l:List Value},a2b ρ s t us vs->aV (CR c G s.af w) us l->aV (CR c ⟨G.S,gE G s t ρ,uE G s ρ⟩ t.af w) vs l
 | [],[],[],_,_=>trivial
 | u::us,v::vs,x::l,h,hu=>by
  simp only[a2b] at h;split at h
  .exact⟨U,WI h hu.2⟩
  .exact⟨a7l h.1 hu.1,WI h.2 hu.2⟩
 | [],_::_,_,h,_=>h.elim
 | _::_,[],_,h,_=>h.elim
 | [],[],_::_,_,h=>h.elim
 | _::_,_::_,[],_,h=>h.elim
theorem a3E{u v:FV}(h:a4U u v):u=v:=by
 unfold a4U at h;split at h
 .rename_i F hF;have:=FV.aW hF;rw[this,h]
 .exact h.elim
theorem a8R{ρ:List (Nat×Nat)}{x:Value}{u v:AV}(h:AV.fit ρ s t u v)(hu:VR c G s.af w u x):VR c ⟨G.S,gE G s t ρ,uE G s ρ⟩ t.af w v x:=by
 cases u with
 | agg us =>
  obtain⟨l,h1,h2⟩:=hu;cases v with
  | any=>trivial
  | agg vs=>exact⟨l,h1,IP (show L2 ρ s t us vs from h) h2⟩
  | aI z =>
   obtain⟨τ,q⟩:=z;simp only[AV.fit] at h;split at h
   .rename_i y hy;have hr:eK w G.S ⟨τ,y⟩ x:=OW (c:=c) (G:=G) (lk:=s.af) (w:=w) (x:=x) hy ⟨l,h1,h2⟩;have h':y=q:=h;show eK w G.S ⟨τ,q⟩ x;rw[<-h'];exact hr
   .exact h.elim
  | _=>exact (show False from h).elim
 | iR us =>
  cases v with
  | any=>trivial
  | _=>exact (show False from h).elim
 | aI z =>
  cases v with
  | any=>trivial
  | aI z' =>
   have:=kV (show BA z z' from h);subst this;exact hu
  | _=>exact (show False from h).elim
 | di f us =>
  obtain⟨l,h1,h2⟩:=hu;cases v with
  | any=>trivial
  | di g vs =>
   simp only[AV.fit] at h;split at h
   .rename_i hb;have hb:=b3G hb;subst hb;exact⟨l,h1,WI h h2⟩
   .exact h.elim
  | _=>exact (show False from h).elim
 | iC z =>
  cases v with
  | any=>trivial
  | iC z' =>
   have:=a3E (show a4U z z' from h);subst this;exact hu
  | _=>exact (show False from h).elim
 | any=>cases v<;>first|trivial|exact (show False from h).elim
 | eh=>cases v<;>first|trivial|exact (show False from h).elim
 | nil=>exact (o4 (u := .nil) (show AV.yI ρ s t .nil v by cases v<;>exact h) (show C1 c G s.af w .nil x from hu)).gu
 | dc z=>exact (o4 (u := .dc z) (show AV.yI ρ s t (.dc z) v by cases v<;>exact h) (show C1 c G s.af w (.dc z) x from hu)).gu
 | ptr i o=>exact (o4 (u := .ptr i o) (show AV.yI ρ s t (.ptr i o) v by cases v<;>exact h) (show C1 c G s.af w (.ptr i o) x from hu)).gu
 | row i=>exact (o4 (u := .row i) (show AV.yI ρ s t (.row i) v by cases v<;>exact h) (show C1 c G s.af w (.row i) x from hu)).gu
 | eB i k o=>exact (o4 (u := .eB i k o) (show AV.yI ρ s t (.eB i k o) v by cases v<;>exact h) (show C1 c G s.af w (.eB i k o) x from hu)).gu
 | fn f=>exact (o4 (u := .fn f) (show AV.yI ρ s t (.fn f) v by cases v<;>exact h) (show C1 c G s.af w (.fn f) x from hu)).gu
 | mp i=>exact (o4 (u := .mp i) (show AV.yI ρ s t (.mp i) v by cases v<;>exact h) (show C1 c G s.af w (.mp i) x from hu)).gu
 | aw i=>exact (o4 (u := .aw i) (show AV.yI ρ s t (.aw i) v by cases v<;>exact h) (show C1 c G s.af w (.aw i) x from hu)).gu
 | sub i k o z=>exact (o4 (u := .sub i k o z) (show AV.yI ρ s t (.sub i k o z) v by cases v<;>exact h) (show C1 c G s.af w (.sub i k o z) x from hu)).gu
 | eU i k o z=>exact (o4 (u := .eU i k o z) (show AV.yI ρ s t (.eU i k o z) v by cases v<;>exact h) (show C1 c G s.af w (.eU i k o z) x from hu)).gu
theorem FX{ρ:List (Nat×Nat)}:∀ {us vs:List AV},EA ρ s t us vs->us.length=vs.length/\∀ i,vs.getD i .any = .any\/AV.fit ρ s t (us.getD i .any) (vs.getD i .any)
 | [],[],_=>⟨rfl,λ i => .inl (by simp)⟩
 | u::us,v::vs,h=>by
  simp only[EA] at h;split at h
  .obtain⟨h1,h2⟩:=FX h;refine⟨by simp[h1],λ i=>?_⟩;cases i with
   | zero=>exact .inl rfl
   | succ i=>simpa using h2 i
  .obtain⟨h1,h2⟩:=FX h.2;refine⟨by simp[h1],λ i=>?_⟩;cases i with
   | zero=>exact .inr h.1
   | succ i=>simpa using h2 i
 | [],_::_,h=>h.elim
 | _::_,[],h=>h.elim
def a6H(bj:Ty)(ys:List bj.den)(τ:Ty)(xs:List τ.den):Prop:=∀ (w:World) (η:Value) (fp:List Nat),il w η bj ys fp->il w η τ xs fp
theorem a1x{bj:Ty}{ys:List bj.den}{τ:Ty}{xs:List τ.den}(h:a1w bj ys τ xs):a6H bj ys τ xs:=by
 unfold a1w at h;split at h
 .rename_i h1 h2;have h1:=b4u h1;have h2:=b4u h2;subst h1 h2;have h:=kV h;rw[TV.a3l] at h;cases h;intro w η fp hT;obtain⟨v,l,a,cap,q1,q2,q3,q4,q5,q6⟩:=hT;have e1:(List.map toO ys).length=ys.length:=b3Y _;have e2:((show List J from ys).map toO).map (Ty.aQ (.st .oExpr))=ys.map (Ty.aQ (.st .expr)):=by
   rw[List.map_map];refine b7A λ x _=>?_;show aS.aQ .oExpr (toO x)=aS.aQ .expr x;rw[aS.cA,aS.cA];rfl
  refine⟨v,l,a,cap,q1,by rw[q2];exact congrArg (Value.slice a · cap) e1.symm,by exact e1 ▸ q3,q4,by exact e1 ▸ q5,?_⟩;rcases q6 with ⟨rfl,q7,q8⟩|⟨b,f,t,q7,q8,q9,q10,q11⟩
  .exact .inl ⟨rfl,q7,q8⟩
  .exact .inr ⟨b,f,t,q7,q8,q9,q10,e2 ▸ q11⟩
 .have h:=kV h;cases h;exact λ _ _ _ h=>h
def a8H(ρ:List (Nat×Nat))(s t:ah)(id:Nat):aD->Prop
 | .box bs=>∃ Z9,s.af (dr ρ id)=some (.box Z9)/\L2 ρ s t Z9 bs
 | .row e τ xs=>s.af (dr ρ id)=some (.row e τ xs)\/(s.af (dr ρ id)=none/\xs=[])
 | .aw τ xs=>(∃ bj ys,s.af (dr ρ id)=some (.aw bj ys)/\a6H bj ys τ xs)\/(s.af (dr ρ id)=none/\xs=[])
 | .map m=>s.af (dr ρ id)=some (.map m)
theorem a2x{a b:MV}(h:a3Y a b):a=b:=by
 unfold a3Y at h;split at h
 .rename_i f n hf;rw[MV.aW hf];simp only;rw[h.1,h.2]
 .exact h.elim
theorem mw{ρ:List (Nat×Nat)}:∀ {l:List (Nat×aD)},kW ρ s t l->∀ id o,(id,o)∈l->a8H ρ s t id o
 | [],_,id,o,h=>by simp at h
 | (k, .box bs)::r,h,id,o,hm=>by
  simp only[kW] at h;split at h
  .rename_i Z9 ha;rcases b3Z.1 hm with e|hm
   .simp only[b3F] at e;obtain⟨rfl,rfl⟩:=e;exact⟨Z9,ha,h.1⟩
   .exact mw h.2 id o hm
  .exact h.elim
 | (k, .row e τ xs)::r,h,id,o,hm=>by
  simp only[kW] at h;split at h
  .rename_i e' bj ys ha;split at h
   .rename_i he;have he:=b3G he;subst he;rcases b3Z.1 hm with e1|hm
    .simp only[b3F] at e1;obtain⟨rfl,rfl⟩:=e1;have:=kV h.1;cases this;exact .inl ha
    .exact mw h.2 id o hm
   .exact h.elim
  .rename_i ha;rcases b3Z.1 hm with e1|hm
   .simp only[b3F] at e1;obtain⟨rfl,rfl⟩:=e1;exact .inr ⟨ha,h.1⟩
   .exact mw h.2 id o hm
  .exact h.elim
 | (k, .aw τ xs)::r,h,id,o,hm=>by
  simp only[kW] at h;split at h
  .rename_i bj ys ha;rcases b3Z.1 hm with e1|hm
   .simp only[b3F] at e1;obtain⟨rfl,rfl⟩:=e1;exact .inl ⟨bj,ys,ha,a1x h.1⟩
   .exact mw h.2 id o hm
  .rename_i ha;rcases b3Z.1 hm with e1|hm
   .simp only[b3F] at e1;obtain⟨rfl,rfl⟩:=e1;exact .inr ⟨ha,h.1⟩
   .exact mw h.2 id o hm
  .exact h.elim
 | (k, .map m)::r,h,id,o,hm=>by
  simp only[kW] at h;split at h
  .rename_i m' ha;rcases b3Z.1 hm with e1|hm
   .simp only[b3F] at e1;obtain⟨rfl,rfl⟩:=e1;rw[a2x h.1] at ha;exact ha
   .exact mw h.2 id o hm
  .exact h.elim
theorem IQ{ρ:List (Nat×Nat)}(h:Inv c G s a w)(hf:Fits ρ s t):∃ G',Inv c G' t a w:=by
 unfold Fits at hf;split at hf;case h_2=>exact hf.elim
 case h_1 hb =>
  rw[b3J] at hb;obtain⟨hb,hb4⟩:=hb;rw[b3J] at hb;obtain⟨hb,WX⟩:=hb;simp only[b3J] at hb;obtain⟨hs,ho⟩:=hf;obtain⟨hlen,Xd⟩:=FX hs;have l5:=mw ho;have eH:∀ id b,ew (gE G s t ρ id)=some b->∃ o,s.af (dr ρ id)=some o/\ew (G.η (dr ρ id))=some b:=by
   intro id b hb;unfold gE at hb;split at hb
   .rename_i o ho;exact⟨o,ho,hb⟩
   .split at hb<;>cases hb
  refine⟨⟨G.S,gE G s t ρ,uE G s ρ⟩,?_⟩;exact {
   defers:=h.defers
   size:=h.size.trans hlen
   aR:=h.aR,jP:=h.jP,eu:=h.eu,sX:=h.sX,dH:=h.dH
   aB:=λ i=>by
    rcases Xd i with e|e
    .rw[show t.sl i = .any from e];trivial
    .exact a8R e (h.aB i)
   aN:=λ id o aX=>by
    have hof:=l5 id o (fE aX);cases o with
    | box bs =>
     obtain⟨Z9,h1,h2⟩:=hof;obtain⟨b,l,ty,k1,k2,k3⟩:=h.aN _ _ h1;refine⟨b,l,ty,?_,k2,IP h2 k3⟩;simp only[gE,h1];exact k1
    | row e τ xs =>
     rcases hof with h1|⟨h1,rfl⟩
     .obtain⟨l,k1,k2,k3⟩:=h.aN _ _ h1;refine⟨l,?_,k2,k3⟩;simp only[gE,h1];exact k1
     .refine⟨[],?_,rfl,by simp⟩;simp only[gE,h1,uY (show isRow (t.af id)=true by rw[aX];rfl)];exact World.ownsRow_nil w 0 e τ.size
    | aw τ xs=>trivial
    | map m =>
     have h1:s.af (dr ρ id)=some (.map m):=hof;obtain⟨b,es,clock,k1,k2⟩:=h.aN _ _ h1;refine⟨b,es,clock,?_,k2⟩;simp only[gE,h1];exact k1
   place:=λ id o b aX iD=>by
    obtain⟨o',h1,h2⟩:=eH id b iD;exact h.place _ _ b h1 h2
   apart:=λ id dx o o' b aX I2 iD b2e=>by
    obtain⟨p,h1,h2⟩:=eH id b iD;obtain⟨p',h3,h4⟩:=eH dx b b2e;have:=h.apart _ _ _ _ b h1 h3 h2 h4;have P7:=Du (λ p:Nat×aD=>dr ρ p.1) (Gx hb.2) (id,o) (fE aX) (dx,o') (fE I2) this;exact congrArg Prod.fst P7
   aP:=by
    have R6:∀ id b,b∈uE G s ρ id->(∃ o,s.af (dr ρ id)=some o)/\b∈G.φ (dr ρ id):=λ id b cz=>by
     unfold uE at cz;split at cz
     .rename_i o ho;exact⟨⟨o,ho⟩,cz⟩
     .simp at cz
    have HO:∀ id τ xs,t.af id=some (.aw τ xs)->(∃ bj ys,s.af (dr ρ id)=some (.aw bj ys)/\a6H bj ys τ xs)\/(s.af (dr ρ id)=none/\xs=[]):=λ id τ xs aX=>l5 id _ (fE aX);have eY:∀ id τ xs b,t.af id=some (.aw τ xs)->b∈uE G s ρ id->∃ bj ys,s.af (dr ρ id)=some (.aw bj ys)/\b∈G.φ (dr ρ id):=λ id τ xs b aX cz=>by
     obtain⟨⟨o,ho⟩,h2⟩:=R6 id b cz;rcases HO id τ xs aX with ⟨bj,ys,h1,_⟩|⟨h1,_⟩
     .exact⟨bj,ys,h1,h2⟩
     .rw[h1] at ho;cases ho
    exact {
     tr:=λ id τ xs aX=>by
      rcases HO id τ xs aX with ⟨bj,ys,h1,hle⟩|⟨h1,rfl⟩
      .simp only[gE,uE,h1];exact hle _ _ _ (h.aP.tr _ _ _ h1)
      .simp only[gE,uE,h1,show cx (t.af id)=true by rw[aX];rfl];exact⟨_,[],none,0,rfl,rfl,by simp,by simp[maxLen],by simp, .inl ⟨rfl,⟨rfl,rfl⟩,rfl⟩⟩
     nd:=λ id τ xs aX=>by
      rcases HO id τ xs aX with ⟨bj,ys,h1,_⟩|⟨h1,_⟩
      .simp only[uE,h1];exact h.aP.nd _ _ _ h1
      .simp only[uE,h1];exact b4Q
     pl:=λ id τ xs b aX cz=>by
      obtain⟨_,_,h1,h2⟩:=eY id τ xs b aX cz;obtain⟨q1,q2,q3,q4⟩:=h.aP.pl _ _ _ b h1 h2;refine⟨q1,q2,q3,λ i o hi rh=>?_⟩;obtain⟨o',k1,k2⟩:=eH i b rh;exact q4 _ o' k1 k2
     ap:=λ id dx τ bj xs cV b aX I2 F3 Nx=>by
      obtain⟨_,_,h1,h2⟩:=eY id τ xs b aX F3;obtain⟨_,_,h3,h4⟩:=eY dx bj cV b I2 Nx;have:=h.aP.ap _ _ _ _ _ _ b h1 h3 h2 h4;have P7:=Du (λ p:Nat×aD=>dr ρ p.1) (Gx hb.2) (id, .aw τ xs) (fE aX) (dx, .aw bj cV) (fE I2) this;exact congrArg Prod.fst P7 }
   root:=λ id v hr ht=>by
    have hrg:=h.iP id v hr;match hl:t.af id,ht with
    | some (.aw τ xs),_ =>
     have hq:=b4C.1 WX _ (fE hl);simp only[b5s,b3J,b7c,Nat.ble_eq] at hq;rcases hq with hq|hq|⟨Le,I5⟩
     .omega
     .omega
     .have Le:=Nat.eq_of_beq_eq_true Le;obtain⟨l,h2⟩:=h.root id v hr I5;refine⟨l,?_⟩;show gE G s t ρ id=_;unfold gE;rw[Le];match hs:s.af id,I5 with
      | some (.aw ..),_=>exact h2
   iP:=h.iP
   dw:=λ id v hr ht=>by
    have hrg:=h.fh id v hr;match hl:t.af id,ht with
    | some (.box cs),_ =>
     have hq:=b4C.1 hb4 _ (fE hl);simp only[fZ,b3K,b7x,b5s,b3J,b7c] at hq;rcases hq with hq|⟨Le,I5⟩
     .omega
     .have Le:=Nat.eq_of_beq_eq_true Le;have h2:=h.dw id v hr I5;show gE G s t ρ id=_;unfold gE;rw[Le];match hs:s.af id,I5 with
      | some (.box ..),_=>exact h2
   fh:=h.fh }
theorem fX(hE:bH c.P c.E)(ic:c.P.follows .mixedOrders=true):∀ (dJ:Code) (Λ:Nat->aE) (cur:Nat) (Q:Exit->ah->Prop) (G:Gh) (s:ah) (a:Act) (w:World),
  Inv c G s a w->vJ c.E dJ Λ cur Q s->dJ.wp c.P (λ e a w=>∃ G s,Inv c G s a w/\Q e s) a w
 | .skip,Λ,cur,Q,G,s,a,w,h,hr=>wp_skip ⟨G,s,h,hr⟩
 | .region id ops draw,Λ,cur,Q,G,s,a,w,h,hr=>by
  cases draw with
  | true=>exact Wd hE ic (Q:=Q .normal) (λ G s a w hI hq=>⟨G,s,hI,hq⟩) h hr
  | false =>
   refine wp_region ?_;have:=Da hE (ops:=ops) (Q:=Q .normal) (Q':=λ e a w=>∃ G s,Inv c G s a w/\Q e s) (λ G s a w hI hq=>⟨G,s,hI,hq⟩) ops.toList 0 [] G s a w (by simp) h hr;rw[List.range_eq_range'];simpa using this
 | .seq x y,Λ,cur,Q,G,s,a,w,h,hr=>by
  simp only[vJ] at hr;split at hr;case h_2 ι P μ fz dead ins aR os a0n ren sub hL =>
   obtain⟨hx,hy⟩:=hr;refine wp_seq (b6N (fX hE ic x Λ cur _ G s a w h hx) ?_);rintro e a' w' ⟨G',s',hI,hq⟩;cases e with
   | normal =>
    obtain⟨j,hPj,hF⟩:=hq;obtain⟨G3,h3⟩:=hI.IS fz;obtain⟨G4,h4⟩:=IQ h3 hF.ex.choose_spec;exact fX hE ic y (sub j) cur Q G4 _ a' w' h4 (hy j hPj)
   | _=>exact⟨G',s',hI,hq⟩
  refine wp_seq (b6N (fX hE ic x Λ cur _ G s a w h hr) ?_);rintro e a' w' ⟨G',s',hI,hq⟩;cases e with
  | normal=>exact fX hE ic y Λ cur Q G' s' a' w' hI hq
  | _=>exact⟨G',s',hI,hq⟩
 | .cond x p q,Λ,cur,Q,G,s,a,w,h,hr=>by
  simp only[vJ] at hr;split at hr
  .rename_i t ht;have hx:=bx h x;rw[ht] at hx;have hx:[a.eval x]=[.bool t]:=hx;simp only[b3O,b3T] at hx;refine wp_cond hx ?_;cases t with
   | true=>exact fX hE ic p Λ cur Q G s a w h (hr.1 rfl)
   | false=>exact fX hE ic q Λ cur Q G s a w h (hr.2 rfl)
  .exact hr.elim
 | .block id x,Λ,cur,Q,G,s,a,w,h,hr=>by
  refine wp_block (b6N (fX hE ic x Λ id _ G s a w h hr) ?_);rintro e a' w' ⟨G',s',hI,hq⟩;cases e with
  | exit i =>
   simp only at hq;simp only[Exit.inBlock];split at hq
   .rename_i hi;rw[b4n (b3G hi)];exact⟨G',s',hI,hq⟩
   .rename_i hi;have:i≠id:=λ e=>by subst e;simp at hi
    rw[b3R this];exact⟨G',s',hI,hq⟩
  | _=>exact⟨G',s',hI,hq⟩
 | .loop x,Λ,cur,Q,G,s,a,w,h,hr=>by
  simp only[vJ] at hr;split at hr
  .exact hr.elim
  .rename_i ι P μ fz dead ins aR os a0n ren sub hL;obtain⟨⟨i0,hP0,hF0⟩,a8Z⟩:=hr;obtain⟨G1,h1⟩:=h.IS fz;obtain⟨G2,h2⟩:=IQ h1 hF0.ex.choose_spec;refine wp_loop_ghost (λ n a w=>∃ i G,P i/\μ i=n/\Inv c G (tp s (dead++Code.Fw x) (ins i) aR (os i)) a w) (μ i0) ⟨i0,G2,hP0,rfl,h2⟩ ?_;rintro n a' w' ⟨i,G',hP,rfl,hI⟩;refine b6N (fX hE ic x (sub i) cur _ G' _ a' w' hI (a8Z i hP)) ?_;rintro e a'' w'' ⟨G'',s'',a9Q,hq⟩;cases e with
   | normal =>
    obtain⟨j,hPj,bN,hF⟩:=hq;obtain⟨G3,h3⟩:=a9Q.IS fz;obtain⟨G4,h4⟩:=IQ h3 hF.ex.choose_spec;exact⟨μ j,bN,j,G4,hPj,rfl,h4⟩
   | _=>exact⟨G'',s'',a9Q,hq⟩
 | .exit id,Λ,cur,Q,G,s,a,w,h,hr=>wp_exit ⟨G,s,h,hr⟩
 | .ret,Λ,cur,Q,G,s,a,w,h,hr=>wp_ret ⟨G,s,h,hr⟩
 | .label l,Λ,cur,Q,G,s,a,w,h,hr=>wp_label ⟨G,s,h,hr⟩
 | .rangeFunc ..,_,_,_,_,_,_,_,_,hr=>hr.elim
 | .scope ..,_,_,_,_,_,_,_,_,hr=>hr.elim
 | .goto ..,_,_,_,_,_,_,_,_,hr=>hr.elim
 | .refuse ..,_,_,_,_,_,_,_,_,hr=>hr.elim
end
theorem aV.replicate{α β:Type}{R:α->β->Prop}{a:α}{b:β}(ny:R a b):∀ n:Nat,aV R (List.replicate n a) (List.replicate n b)
 | 0=>trivial
 | n+1=>⟨ny,aV.replicate ny n⟩
theorem aV.BY{α β:Type}{R:α->β->Prop}{Z9:List α}{bs:List β}(h:aV R Z9 bs){a:α}{b:β}(ny:R a b)(n:Nat):aV R (Z9++List.replicate n a) (bs++List.replicate n b) :=
 h.append (aV.replicate ny n)
theorem aV.getD{α β:Type}{R:α->β->Prop}{d:α}{e:β}(hde:R d e):∀ {Z9:List α} {bs:List β},aV R Z9 bs->∀ i:Nat,R (Z9.getD i d) (bs.getD i e)
 | [],[],_,i=>by simpa using hde
 | a::Z9,b::bs,h,0=>h.1
 | a::Z9,b::bs,h,i+1=>by simpa using aV.getD hde h.2 i
 | [],_::_,h,_=>h.elim
 | _::_,[],h,_=>h.elim
section
variable {P:Program} {E:Env}
def a6C(P:Program)(w:World)(S:Nat->Prop):Arg->Value->Prop
 | .own _,_=>True
 | .box _,_=>True
 | a,x=>BU P w S a x
theorem Ue{w:World}{S X:Nat->Prop}(hS:yU w S)(hX:∀ b,X b->b<w.heap.size/\¬ S b){fn:Func}{args:List Arg}{cI:List Value}(ha:aV (a6C P w S) args cI)(T0:(∀ b,¬ X b)\/∀ a∈args,a.Oy=true) :
  Inv ⟨P,E,w,X,S,λ _=>none,λ _=>False,λ _=>none⟩ ⟨S,λ _=>undef,λ _=>[]⟩ (dP fn args) { tmps:=cI.toArray++Array.replicate (fn.ntmps - cI.toArray.size) undef,defers:=[] } w:=by
 have hlen:=ha.length;have Xd:∀ v x,v∈args->a6C P w S v x->VR ⟨P,E,w,X,S,λ _=>none,λ _=>False,λ _=>none⟩ ⟨S,λ _=>undef,λ _=>[]⟩ (dP fn args).af w (V7 v) x:=by
  intro v x hm h;cases v with
  | val v=>exact h
  | ref v =>
   obtain⟨b,o,cs,h1,h2,h3,h4⟩:=h;exact⟨b,o,cs,h1, .inr ⟨h2,T0.elim (λ q=>⟨q b,λ z=>z⟩) λ q=>absurd (q _ hm) (by simp[Arg.Oy])⟩,h3,h4⟩
  | fn f=>exact h
  | di v =>
   obtain⟨f,gl,l,h1,h2,h3⟩:=h;refine⟨f,gl,l,h1,h2,h3.imp λ u y _ hy=>?_⟩;cases u with
   | val v=>exact hy
   | ref v =>
    obtain⟨b,o,cs,k1,k2,k3,k4⟩:=hy;exact⟨b,o,cs,k1, .inr ⟨k2,T0.elim (λ q=>⟨q b,λ z=>z⟩) λ q=>absurd (q _ hm) (by simp[Arg.Oy])⟩,k3,k4⟩
   | fn f=>exact hy
   | di v=>exact hy.elim
   | own v=>exact hy.elim
   | box k=>exact hy.elim
  | own v=>trivial
  | box k=>trivial
 exact {
  defers:=rfl
  size:=by simp[dP,hlen]
  aR:=bE.refl _ _
  jP:=⟨λ b h=>(hX b h).1,λ g hg=>⟨(hS.2 g hg).1,λ q=>(hX g q).2 (hS.2 g hg).1,hS.1 g (hS.2 g hg).1,(hS.2 g hg).2⟩⟩
  eu:=λ b _ _=>b5G
  sX:=λ b hs=>hs
  dH:=hS.1
  aB:=λ i=>by
   have h1:aV (λ v x=>VR ⟨P,E,w,X,S,λ _=>none,λ _=>False,λ _=>none⟩ ⟨S,λ _=>undef,λ _=>[]⟩ (dP fn args).af w v x) (args.map V7) cI:=aV.ej _ (ha.imp λ v x hm h=>Xd v x hm h);have h2:=aV.getD (d:=AV.any) (e:=undef) (show VR ⟨P,E,w,X,S,λ _=>none,λ _=>False,λ _=>none⟩ ⟨S,λ _=>undef,λ _=>[]⟩ (dP fn args).af w .any undef from trivial) (h1.BY (a:=AV.any) (b:=undef) (show VR ⟨P,E,w,X,S,λ _=>none,λ _=>False,λ _=>none⟩ ⟨S,λ _=>undef,λ _=>[]⟩ (dP fn args).af w .any undef from trivial) (fn.ntmps - args.length)) i;have e1:(dP fn args).sl i=(args.map V7++List.replicate (fn.ntmps - args.length) AV.any).getD i AV.any:=rfl;have e2:(cI.toArray++Array.replicate (fn.ntmps - cI.toArray.size) undef).getD i undef=(cI++List.replicate (fn.ntmps - args.length) undef).getD i undef:=by
    rw[b4z,b3V,<-b7q];simp[hlen]
   rw[e1,e2];exact h2
  aN:=λ id o h=>by cases h
  place:=λ id o b h=>by cases h
  apart:=λ id dx o o' b h=>by cases h
  aP:=⟨(λ id τ xs h=>by cases h),(λ id τ xs h=>by cases h),(λ id τ xs b h=>by cases h),(λ id dx τ bj xs cV b h=>by cases h)⟩
  root:=λ id v h=>by cases h
  iP:=λ id v h=>by cases h
  dw:=λ id v h=>by cases h
  fh:=λ id v h=>by cases h }
theorem a4z{w:World}{S:Nat->Prop}(hS:yU w S){fn:Func}{args:List Arg}{cI:List Value}(ha:aV (BU P w S) args cI) :
  Inv ⟨P,E,w,λ _=>False,S,λ _=>none,λ _=>False,λ _=>none⟩ ⟨S,λ _=>undef,λ _=>[]⟩ (dP fn args) { tmps:=cI.toArray++Array.replicate (fn.ntmps - cI.toArray.size) undef,defers:=[] } w :=
 Ue hS (λ _ h=>h.elim) (ha.imp λ v x _ h=>by
  cases v with
  | own v=>trivial
  | box k=>exact h.elim
  | _=>exact h) (.inl λ _ h=>h)
def nK(tmps:Array Value):ResultVar->Sem Value
 | .tmp t=>pure (tmps.getD t undef)
 | .cell a t=>do loadVar t (<-asAddr (tmps.getD a undef))
theorem wy(fn:Func)(tmps:Array Value):results fn tmps=(do
  let vs <-fn.results.mapM (nK tmps)
  pure (if h:vs.size=1 then vs[0] else .tuple vs)):=by
 unfold results;congr 1
theorem Q7(hE:bH P E){c:Ctx}(hcP:c.P=P)(hcE:c.E=E){G:Gh}{s:ah}{a:Act}{w:World}(h:Inv c G s a w):∀ {rs:List ResultVar} {Ts:List TypeId} {vs:List TV},Tn E s rs Ts=some vs ->
  ∃ xs,(rs.mapM (nK a.tmps)).run P w = .ok xs w/\aV (eK w (SX G s.af)) vs xs
 | [],[],vs,hr=>by
  simp only[Tn,b3C] at hr;subst hr;exact⟨[],by simp,U⟩
 | r::rs,T::Ts,vs,hr=>by
  simp only[Tn] at hr;split at hr
  .rename_i τ q hT;split at hr
   .rename_i x hx;split at hr
    .rename_i l hl;simp only[b3C] at hr;subst hr;obtain⟨xs,h1,h2⟩:=Q7 hE hcP hcE h hl;cases r with
     | tmp t =>
      refine⟨a.tmps.getD t undef::xs,by simp[b6d,nK,h1],Fv h.aP h.aN (Jz λ _ _ h=>h) hx (bx h (.tmp t)),h2⟩
     | cell p t =>
      simp only at hx;split at hx
      .rename_i hb;have hb:=Nat.eq_of_beq_eq_true hb;subst hb;unfold deref at hx;split at hx
       .rename_i u hu;obtain⟨b,o,cs,k1,k2,k3,k4⟩:=rV h.aN (Jz λ _ _ h=>h) hu (bx h (.tmp p));have cH:=mY hE hT k2 k3;have k1':a.tmps.getD p undef = .pointer (some ⟨b,o,none⟩):=k1;refine⟨Lr τ cs::xs,?_,Fv h.aP h.aN (Jz λ _ _ h=>h) hx k4,h2⟩;simp only[Instr.loadAt,Instr.sureAddr,b4q,b4s,b4g] at cH;simp only[b6d,nK,k1',asAddr,b4q,b4s,b4g,cH,h1]
       .cases hx
      .cases hx
    .cases hr
   .cases hr
  .cases hr
 | [],_::_,_,hr=>by cases hr
 | _::_,[],_,hr=>by cases hr
theorem a8g{w:World}{S:Nat->Prop}:∀ {vs:List TV} {xs:List Value},aV (eK w S) vs xs->Ih w S vs (if h:xs.toArray.size=1 then xs.toArray[0] else .tuple xs.toArray)
 | [],[],_=>⟨[],by simp,U⟩
 | [v],[x],h=>by simpa [Ih] using h.1
 | v::u::r,x::y::z,h=>⟨x::y::z,by simp,h⟩
 | [],_::_,h=>h.elim
 | _::_,[],h=>h.elim
 | [_],_::_::_,h=>h.2.elim
 | _::_::_,[_],h=>h.2.elim
theorem ZS(hE:bH P E)(ic:P.follows .mixedOrders=true){f:FuncId}{fn:Func}{dJ:Code}(hf:P.funcs[f]?=some fn)(hb:fn.body=some dJ)(Λ:Nat->aE){args:List Arg}{post:List TV->Prop}
  (h:vJ E dJ Λ 0 (Aq E fn post) (dP fn args)):bd P f args post:=by
 intro w S cI hS ha;refine b7m hf hb ?_;have hinv:=a4z (P:=P) (E:=E) (fn:=fn) hS ha;refine b6N (fX (c:=⟨P,E,w,λ _=>False,S,λ _=>none,λ _=>False,λ _=>none⟩) hE ic dJ Λ 0 _ _ _ _ w hinv h) ?_;have fin:∀ (e:Exit) (a:Act) (w':World),(e = .normal\/e = .ret)->(∃ G s,Inv ⟨P,E,w,λ _=>False,S,λ _=>none,λ _=>False,λ _=>none⟩ G s a w'/\Aq E fn post e s) ->
   a.defers=[]/\∃ v,(results fn a.tmps).run P w' = .ok v w'/\∃ x S' res,Ending.returned v = .returned x/\post res/\bE (λ _=>False) w w'/\(∀ b,b<w.heap.size->(S' b↔S b))/\(∀ b,S' b->b<w'.heap.size)/\Ih w' S' res x:=by
  rintro e a w' he ⟨G,s,hI,hp⟩;have W8:∃ vs,Tn E s fn.results.toList fn.resultTypes.toList=some vs/\post vs:=by
   rcases he with rfl|rfl <;>
   .simp only[Aq] at hp;split at hp
    .rename_i vs Dt;exact⟨vs,Dt,hp⟩
    .exact hp.elim
  obtain⟨vs,Dt,W9⟩:=W8;obtain⟨xs,h1,h2⟩:=Q7 hE (c:=⟨P,E,w,λ _=>False,S,λ _=>none,λ _=>False,λ _=>none⟩) rfl rfl hI Dt;refine⟨hI.defers,(if h:xs.toArray.size=1 then xs.toArray[0] else .tuple xs.toArray),?_,_,SX G s.af,vs,rfl,W9,hI.aR,λ b hb=>?_,λ b hb=>?_,a8g h2⟩
  .rw[wy,b5K];simp only[b4q,b7n,h1];rfl
  .constructor
   .rintro (hs|⟨id,e',τ,ys,aX,iD⟩|⟨id,τ,ys,aX,iD⟩)
    .exact (hI.eu b hb (λ q=>q)).1 hs
    .rcases (hI.place id _ b aX iD).1 with hge|hx
     .have:w.heap.size<=b:=hge;omega
     .exact hx.elim
    .rcases (hI.aP.pl id _ _ b aX iD).1 with hge|hx
     .have:w.heap.size<=b:=hge;omega
     .exact hx.elim
   .exact λ hs => .inl ((hI.eu b hb (λ q=>q)).2 hs)
  .rcases hb with hs|⟨id,e',τ,ys,aX,iD⟩|⟨id,τ,ys,aX,iD⟩
   .exact hI.dH b hs
   .exact (hI.place id _ b aX iD).2.2
   .exact (hI.aP.pl id _ _ b aX iD).2.2.1
 intro e a w' hq;cases e with
 | normal=>exact fin .normal a w' (.inl rfl) hq
 | ret=>exact fin .ret a w' (.inr rfl) hq
 | exit i=>obtain⟨_,_,_,hp⟩:=hq;exact hp.elim
 | goto l=>obtain⟨_,_,_,hp⟩:=hq;exact hp.elim
 | panic ch=>obtain⟨_,_,_,hp⟩:=hq;exact hp.elim
 | outgrown=>obtain⟨_,_,_,hp⟩:=hq;exact hp.elim
end
def wB(E:Env)(s:ah):List ResultVar->List TypeId->Option (List TV×List Nat)
 | [],[]=>some ([],[])
 | r::rs,T::Ts=>match af E.ty T with
  | some (
      τ,_)=>match (match r with
    | .tmp t=>sA s.af τ (s.eval (.tmp t))
    | .cell p t=>match Nat.beq t T with
     | true=>match uQ s.af τ (s.eval (.tmp p)) with
      | some u=>sA s.af τ u
      | none=>none
     | false=>none) with
   | some (x,i)=>match wB E s rs Ts with
    | some (l,j)=>some (⟨τ,x⟩::l,i++j)
    | none=>none
   | none=>none
  | none=>none
 | _,_=>none
def JQ(E:Env)(fn:Func)(post:List TV->Prop)(e:Exit)(s:ah):Prop :=
 match e with
 | .ret | .normal=>match wB E s fn.results.toList fn.resultTypes.toList with
  | some (vs,ids)=>match nodupB ids with
   | true=>post vs
   | false=>False
  | none=>False
 | _=>False
section
variable {P:Program} {E:Env}
theorem GJ{c:Ctx}(hE:bH c.P c.E)(hcP:c.P=P)(hcE:c.E=E){G:Gh}{s:ah}{a:Act}{w:World}(h:Inv c G s a w):∀ {rs:List ResultVar} {Ts:List TypeId} {vs:List TV} {ids:List Nat},wB E s rs Ts=some (vs,ids)->ids.Nodup ->
  ∃ xs fp,(rs.mapM (nK a.tmps)).run P w = .ok xs w/\OM w vs xs fp/\fp.Nodup/\∀ b∈fp,yS G s.af ids b
 | [],[],vs,ids,hr,_=>by
  simp only[wB,b3C,b3F] at hr;obtain⟨rfl,rfl⟩:=hr;exact⟨[],[],by simp,rfl,b4Q,by simp⟩
 | r::rs,T::Ts,vs,ids,hr,cU=>by
  simp only[wB] at hr;split at hr;case h_2=>cases hr
  case h_1 τ q hT =>
  split at hr;case h_2=>cases hr
  case h_1 x i hx =>
  split at hr;case h_2=>cases hr
  case h_1 l j hl =>
  simp only[b3C,b3F] at hr;obtain⟨rfl,rfl⟩:=hr;rw[b4h] at cU;obtain⟨n1,n2,n3⟩:=cU;obtain⟨xs,fp,h1,h2,h3,h4⟩:=GJ hE hcP hcE h hl n2;cases r with
  | cell p t =>
   simp only at hx;split at hx;case h_2=>cases hx
   case h_1 hb =>
   have hb:=b3G hb;subst hb;split at hx;case h_2=>cases hx
   case h_1 u hu =>
   obtain⟨b,o,cs,q1,q2,q3,q4⟩:=rV h.aN (λ _ _ h=>h) hu (bx h (.tmp p));subst hcP hcE;have cH:=mY hE hT q2 q3;have q1':a.tmps.getD p undef = .pointer (some ⟨b,o,none⟩):=q1;obtain⟨f1,k1,k2,k3⟩:=mZ h hx q4 n1;refine⟨Lr τ cs::xs,f1++fp,?_,⟨f1,fp,rfl,k1,h2⟩,eb k2 h3 λ b hb cz=>h.iX (k3 b hb) (h4 b cz) (λ x hx y hy=>n3 x hx y hy),λ b hb=>?_⟩
   .simp only[Instr.loadAt,Instr.sureAddr,b4q,b4s,b4g] at cH;simp only[b6d,nK,q1',asAddr,b4q,b4s,b4g,cH,h1]
   .rcases b3H.1 hb with hb|hb
    .exact (k3 b hb).mono λ k hk=>by simp[hk]
    .exact (h4 b hb).mono λ k hk=>by simp[hk]
  | tmp t =>
   obtain⟨f1,k1,k2,k3⟩:=mZ h hx (bx h (.tmp t)) n1;refine⟨a.tmps.getD t undef::xs,f1++fp,by simp[b6d,nK,h1],⟨f1,fp,rfl,k1,h2⟩,eb k2 h3 λ b hb cz=>h.iX (k3 b hb) (h4 b cz) (λ x hx y hy=>n3 x hx y hy),λ b hb=>?_⟩;rcases b3H.1 hb with hb|hb
   .exact (k3 b hb).mono λ k hk=>by simp[hk]
   .exact (h4 b hb).mono λ k hk=>by simp[hk]
 | [],_::_,_,_,hr,_=>by cases hr
 | _::_,[],_,_,hr,_=>by cases hr
theorem a0e{w:World}:∀ {vs:List TV} {xs:List Value} {fp:List Nat},OM w vs xs fp->wG w vs (if h:xs.toArray.size=1 then xs.toArray[0] else .tuple xs.toArray) fp
 | [],[],fp,h=>⟨[],by simp,h⟩
 | [v],[x],fp,h=>by
  obtain⟨f1,f2,rfl,h1,h2⟩:=h;have h2:f2=[]:=h2;subst h2;simpa [wG] using h1
 | v::u::r,x::y::z,fp,h=>⟨x::y::z,by simp,h⟩
 | [],_::_,_,h=>h.elim
 | _::_,[],_,h=>h.elim
 | [_],_::_::_,_,h=>by obtain⟨_,_,_,_,h⟩:=h;exact h.elim
 | _::_::_,[_],_,h=>by obtain⟨_,_,_,_,h⟩:=h;exact h.elim
theorem jM:∀ {us:List TV} {id:Nat} {p:Nat×aD},p∈ca id us->id<=p.1/\p.1<id+us.length
 | [],id,p,h=>by cases h
 | u::us,id,p,h=>by
  rcases b3H.1 h with h|h
  .have:=T7 h;simp only[b3P];omega
  .have:=jM h;simp only[b3P];omega
theorem sr:∀ {us:List TV} {id:Nat},((ca id us).map (·.1)).Nodup
 | [],id=>b4Q
 | u::us,id=>by
  simp only[ca,b5B];refine eb ?_ sr λ x hx EP=>?_
  .obtain⟨τ,y⟩:=u;cases τ<;>simp[fJ]
  .obtain⟨p,hp,rfl⟩:=b3N.1 hx;obtain⟨q,hq,e⟩:=b3N.1 EP;have h1:=T7 hp;have h2:=jM hq;omega
theorem a5G(v:TV):v.cells.length<=100:=by
 obtain⟨τ,y⟩:=v;cases τ with
 | st s =>
  show (s.cells y).length<=100;rw[aS.iT];exact Ty.size_le (.st s)
 | _=>exact Nat.succ_le_of_lt (Nat.zero_lt_of_lt (by decide:0<100))
theorem DS{c:Ctx}{a:Act}{w:World}{S:Nat->Prop}(hR:∀ j,c.R j=none):∀ {Z9:List Arg} {xs:List Value} {fp:List Nat} {p:Nat} {G:Gh} {s:ah},Inv c G s a w->wF P w S Z9 xs fp->fp.Nodup->Fr c G s.af w fp ->
  (∀ i x,xs[i]?=some x->a.tmps.getD (p+i) undef=x)->p+Z9.length<=s.aB.length->(∀ id o,s.af id=some o->id<1000000+100 * p)->∃ G',Inv c G' (uG p Z9 s) a w
 | [],xs,fp,p,G,s,h,_,_,_,_,_,_=>⟨G,h⟩
 | b::Z9,[],fp,p,G,s,h,hA,_,_,_,_,_=>hA.elim
 | b::Z9,x::xs,fp,p,G,s,h,hA,cU,hF,hx,hlen,aX=>by
  obtain⟨f1,f2,rfl,hb,hA⟩:=hA;rw[b4h] at cU;obtain⟨n1,n2,n3⟩:=cU;simp only[b3P] at hlen;have EP:∀ i y,xs[i]?=some y->a.tmps.getD (p+1+i) undef=y:=λ i y hi=>by
   have:=hx (i+1) y (by simpa using hi);rwa [show p+(i+1)=p+1+i by omega] at this
  have other:f1=[]->uG p (b::Z9) s=uG (p+1) Z9 s->∃ G',Inv c G' (uG p (b::Z9) s) a w:=λ hf e=>by
   subst hf;rw[e];exact DS hR h hA n2 (λ q hq=>hF q (by simp[hq])) EP (by omega) λ id o ho=>by have:=aX id o ho;omega
  cases b with
  | own v =>
   have hO:DZ w v x f1:=hb;obtain⟨G1,E1,l1,i1,e1,t1,fr1⟩:=bw.Vy (id:=1000000+100 * p) h hO n1 (λ q hq=>hF q (by simp[hq]))
    (λ q hq=>by
     cases I5:s.af q.1 with
     | none=>rfl
     | some o=>have h1:=aX _ o I5;have h2:=jM hq;omega) sr (λ j _=>hR j)
   have cF:ah.af { aB:=s.aB.set p (fg (1000000+100 * p) v),aN:=ca (1000000+100 * p) v.cells++s.aN }=E1:=by
    funext i;rw[l1 i];exact qz _ _ i
   have hI:Inv c G1 { aB:=s.aB.set p (fg (1000000+100 * p) v),aN:=ca (1000000+100 * p) v.cells++s.aN } a w:=by
    unfold Inv;rw[cF,show ah.sl { aB:=s.aB.set p (fg (1000000+100 * p) v),aN:=ca (1000000+100 * p) v.cells++s.aN }=j9 s.aB.length s.sl (some p) (fg (1000000+100 * p) v) from sy s.aB p _ _,
     show ({ aB:=s.aB.set p (fg (1000000+100 * p) v),aN:=ca (1000000+100 * p) v.cells++s.aN }:ah).aB.length=s.aB.length from by simp]
    exact { i1 with
     aB:=λ i=>by
      unfold j9;split
      .rename_i hi;obtain⟨e,_⟩:=hi;simp only[b3C] at e;subst e;rw[show a.tmps.getD p undef=x from hx 0 x rfl];exact t1.gu
      .exact i1.aB i }
   obtain⟨G2,h2⟩:=DS hR hI hA n2 (by
    rw[cF];exact fr1 f2 (λ q hq=>hF q (by simp[hq])) λ q hq YZ=>n3 q YZ q hq rfl) EP (by simp;omega) (λ id o ho=>by
     rw[cF,l1 id] at ho;unfold gC at ho;split at ho
     .rename_i o' cN;have h1:=jM (fE cN);have h2:=a5G v;simp only at h1;omega
     .have:=aX id o ho;omega)
   exact⟨G2,h2⟩
  | val v=>exact other hb.1 rfl
  | ref v=>exact other hb.1 rfl
  | fn v=>exact other hb.1 rfl
  | di v=>exact other hb.1 rfl
  | box k=>exact other hb.1 rfl
theorem wF.dI{w:World}{S:Nat->Prop}:∀ {Z9:List Arg} {xs:List Value} {fp:List Nat},wF P w S Z9 xs fp->aV (a6C P w S) Z9 xs
 | [],[],_,_=>trivial
 | a::Z9,x::xs,_,h=>by
  obtain⟨f1,f2,_,h1,h2⟩:=h;refine⟨?_,wF.dI h2⟩;cases a with
  | own v=>trivial
  | box k=>exact h1.2.elim
  | _=>exact h1.2
 | [],_::_,_,h=>h.elim
 | _::_,[],_,h=>h.elim
theorem a2Y{w:World}{S:Nat->Prop}(hS:yU w S){fn:Func}{args:List Arg}{cI:List Value}{fa:List Nat}(ha:wF P w S args cI fa)(T0:fa=[]\/∀ a∈args,a.Oy=true)(cU:fa.Nodup)(Lb:∀ b∈fa,b<w.heap.size/\¬ S b) :
  ∃ G,Inv ⟨P,E,w,λ b=>b∈fa,S,λ _=>none,λ _=>False,λ _=>none⟩ G (VS fn args) { tmps:=cI.toArray++Array.replicate (fn.ntmps - cI.toArray.size) undef,defers:=[] } w:=by
 have h0:=Ue (P:=P) (E:=E) (fn:=fn) hS (X:=λ b=>b∈fa) Lb ha.dI (T0.imp_left λ e b hb=>by rw[e] at hb;cases hb);have hlen:=ha.dI.length;refine DS (S:=S) (λ _=>rfl) h0 ha cU (λ b hb=>⟨.inr hb,(Lb b hb).2,(Lb b hb).1,λ i o h=>(by cases h),λ j τ xs h=>by cases h⟩) (λ i x hi=>?_) (by simp[dP]<;>omega) (λ id o h=>by cases h);rw[Nat.zero_add,Array.getD_eq_getD_getElem?,Array.getElem?_append_left (by simpa using (List.getElem?_eq_some_iff.1 hi).1)];simp[hi]
theorem YQ(hE:bH P E)(ic:P.follows .mixedOrders=true){f:FuncId}{fn:Func}{dJ:Code}(hf:P.funcs[f]?=some fn)(hb:fn.body=some dJ)(Λ:Nat->aE){args:List Arg}{res:List TV}{post:List TV->Prop}(W9:∀ vs,post vs->vs=res)
  (h:vJ E dJ Λ 0 (JQ E fn post) (VS fn args)):cY P f args res:=by
 intro w S cI fa hS ha T0 od Lb;refine b7m hf hb ?_;obtain⟨G0,hinv⟩:=a2Y (P:=P) (E:=E) (fn:=fn) hS ha T0 od Lb;refine b6N (fX (c:=⟨P,E,w,λ b=>b∈fa,S,λ _=>none,λ _=>False,λ _=>none⟩) hE ic dJ Λ 0 _ _ _ _ w hinv h) ?_;have fin:∀ (e:Exit) (a:Act) (w':World),(e = .normal\/e = .ret)->(∃ G s,Inv ⟨P,E,w,λ b=>b∈fa,S,λ _=>none,λ _=>False,λ _=>none⟩ G s a w'/\JQ E fn post e s) ->
   a.defers=[]/\∃ v,(results fn a.tmps).run P w' = .ok v w'/\∃ x fp,Ending.returned v = .returned x/\bE (λ b=>b∈fa) w w'/\wG w' res x fp/\fp.Nodup/\∀ b∈fp,b∈fa\/(w.heap.size<=b/\b<w'.heap.size):=by
  rintro e a w' he ⟨G,s,hI,hp⟩;have W8:∃ vs ids,wB E s fn.results.toList fn.resultTypes.toList=some (vs,ids)/\ids.Nodup/\vs=res:=by
   rcases he with rfl|rfl <;>
   .simp only[JQ] at hp;split at hp
    .rename_i vs ids Dt;split at hp
     .rename_i hn;exact⟨vs,ids,Dt,cX hn,W9 vs hp⟩
     .exact hp.elim
    .exact hp.elim
  obtain⟨vs,ids,Dt,hn,rfl⟩:=W8;obtain⟨xs,fp,h1,h2,h3,h4⟩:=GJ (P:=P) (E:=E) (c:=⟨P,E,w,λ b=>b∈fa,S,λ _=>none,λ _=>False,λ _=>none⟩) hE rfl rfl hI Dt hn;refine⟨hI.defers,(if h:xs.toArray.size=1 then xs.toArray[0] else .tuple xs.toArray),?_,_,fp,rfl,hI.aR,a0e h2,h3,λ b hb=>?_⟩
  .rw[wy,b5K];simp only[b4q,b7n,h1];rfl
  .obtain⟨id,hi,hq⟩:=h4 b hb;rcases hq with ⟨τ,ys,q1,q2⟩|⟨e',τ,ys,q1,q2⟩
   .obtain⟨p1,_,p3,_⟩:=hI.aP.pl id τ ys b q1 q2;exact p1.elim (λ q => .inr ⟨q,p3⟩) .inl
   .obtain⟨p1,_,p3⟩:=hI.place id _ b q1 q2;exact p1.elim (λ q => .inr ⟨q,p3⟩) .inl
 intro e a w' hq;cases e with
 | normal=>exact fin .normal a w' (.inl rfl) hq
 | ret=>exact fin .ret a w' (.inr rfl) hq
 | exit i=>obtain⟨_,_,_,hp⟩:=hq;exact hp.elim
 | goto l=>obtain⟨_,_,_,hp⟩:=hq;exact hp.elim
 | panic ch=>obtain⟨_,_,_,hp⟩:=hq;exact hp.elim
 | outgrown=>obtain⟨_,_,_,hp⟩:=hq;exact hp.elim
theorem C1.reR{c:Ctx}{G:Gh}{lk:Nat->Option aD}{w:World}{v:AV}{x:Value}(h:C1 c G lk w v x)(R:Nat->Option Value):C1 { c with R:=R } G lk w v x:=by
 cases v<;>exact h
theorem TR.reR{c:Ctx}{G:Gh}{lk:Nat->Option aD}{w:World}{v:AV}{x:Value}(h:TR c G lk w v x)(R:Nat->Option Value):TR { c with R:=R } G lk w v x:=by
 cases v with
 | agg cs =>
  obtain⟨l,h1,h2⟩:=h;exact⟨l,h1,h2.imp λ u y _ hy=>hy.reR R⟩
 | aw i=>exact C1.reR (c:=c) (w:=w) (v := .aw i) h R
 | dc v=>exact C1.reR (c:=c) (w:=w) (lk:=lk) (v := .dc v) h R
 | _=>exact h
def jb(fn:Func)(v:TV)(k:Int):ah:={ aB:=fg 50 v :: .aI ⟨.int .i64,k⟩::List.replicate (fn.ntmps - 2) .any,aN:=ca 50 v.cells }
def E8(fn:Func)(m:DX)(x:m.τ.den)(k:Int)(e:Exit)(s:ah):Prop :=
 match e with
 | .ret | .normal=>match fn.results.toList with
  | [.tmp t]=>match s.eval (.tmp t),sA s.af m.τ (fg 50 ⟨m.τ,x⟩) with
   | .aI ⟨.int .i64,n⟩,some (x',ids)=>match nodupB ids&&ids.all λ id=>cx (s.af id) with
    | true=>n=(m.g x k).2.2/\x'=(m.g x k).2.1
    | false=>False
   | _,_=>False
  | _=>False
 | _=>False
theorem PC{c c0:Ctx}{G G0:Gh}{lk lk0:Nat->Option aD}{w w':World}(Xc:∀ j v,cx (lk0 j)=true->(∃ l,G0.η j = .tuple (v::l).toArray)->50<=j->cx (lk j)=true->∃ l,G.η j = .tuple (v::l).toArray) :
  ∀ {us:List TV} {id:Nat} {ts:List Ty} {us':List TV} {ids:List Nat} {l:List Value},50<=id->(∀ u∈us,u.τ.agg=false)->aV (C1 c0 G0 lk0 w) (cd id us) l->uW lk (cd id us) ts=some (us',ids)->aV (C1 c G lk w') (cd id us) l
 | [],id,ts,us',ids,l,_,_,h,_=>by
  match l,h with
  | [],_=>trivial
 | u::us,id,ts,us',ids,l,aX,hu,h,ht=>by
  match l,h,ts,ht with
  | v::l,h,t::ts,ht =>
   simp only[cd,uW] at ht;split at ht;case h_2=>cases ht
   case h_1 x i hx =>
   split at ht;case h_2=>cases ht
   case h_1 r j hr =>
   refine⟨?_,PC Xc (by omega) (λ u hu'=>hu u (by simp[hu'])) h.2 hr⟩;have h1:=h.1;obtain⟨τ,y⟩:=u;cases τ with
   | slice t' =>
    obtain⟨q1,q2,q3,q4⟩:=h1;have hT:cx (lk id)=true:=by
     simp only[iO,dY] at hx;split at hx
     .rename_i hl;rw[hl];rfl
     .cases hx
    obtain⟨l',oK⟩:=Xc id v q1 ⟨q2,q3⟩ aX hT;exact⟨hT,l',oK,q4⟩
   | st s=>exact absurd (hu ⟨.st s,y⟩ (by simp)) (by simp[Ty.agg])
   | mv t'=>exact trivial
   | ptr=>exact⟨rfl,h1.2⟩
   | int k=>exact⟨rfl,h1.2⟩
   | bool=>exact⟨rfl,h1.2⟩
   | str=>exact⟨rfl,h1.2⟩
theorem WK(hE:bH P E)(ic:P.follows .mixedOrders=true){f:FuncId}{fn:Func}{dJ:Code}(hf:P.funcs[f]?=some fn)(hb:fn.body=some dJ){m:DX}(Λ:m.τ.den->Int->Nat->aE)
  (F5:∀ x:m.τ.den,(TV.cells ⟨m.τ,x⟩).length<=50) (hn:2<=fn.ntmps) (h:∀ (x:m.τ.den) (k:Int),(m.g x k).1.ok->O k->vJ E dJ (Λ x k) 0 (E8 fn m x k) (jb fn ⟨m.τ,x⟩ k)):J8 P f m:=by
 intro x k w v fp AD hk hG hO cU bN;refine b7m hf hb ?_;have h0:bw ⟨P,E,w,λ b=>b∈fp,λ b=>b<w.heap.size/\b∉fp,λ _=>none,λ _=>False,λ _=>none⟩ ⟨λ b=>b<w.heap.size/\b∉fp,λ _=>undef,λ _=>[]⟩ (λ _ => .any) (jb fn ⟨m.τ,x⟩ k).aB.length (λ _=>none) { tmps := #[v, .int .i64 k]++Array.replicate (fn.ntmps - 2) undef,defers:=[] } w:={
  defers:=rfl
  size:=by simp[jb];omega
  aR:=bE.refl _ _
  jP:=⟨bN,λ g hg=>⟨(hG g hg).1,(hG g hg).1.2,(hG g hg).1.1,(hG g hg).2⟩⟩
  eu:=λ b _ _=>b5G
  sX:=λ b h=>h
  dH:=λ b h=>h.1
  aB:=λ _=>trivial
  aN:=λ id o h=>by cases h
  place:=λ id o b h=>by cases h
  apart:=λ id dx o o' b h=>by cases h
  aP:=⟨(λ id τ xs h=>by cases h),(λ id τ xs h=>by cases h),(λ id τ xs b h=>by cases h),(λ id dx τ bj xs cV b h=>by cases h)⟩
  root:=λ id v h=>by cases h
  iP:=λ id v h=>by cases h
  dw:=λ id v h=>by cases h
  fh:=λ id v h=>by cases h }
 obtain⟨G1,E1,l1,i1,e1,t1,_⟩:=h0.Vy (id:=50) hO cU (λ b hb=>⟨.inr hb,λ h=>h.2 hb,bN b hb,λ i o h=>(by cases h),λ j τ xs h=>by cases h⟩) (λ _ _=>rfl) sr (λ _ _=>rfl);have ZY:(jb fn ⟨m.τ,x⟩ k).af=E1:=by
  funext i;rw[l1 i];unfold gC jb ah.af;cases af (ca 50 (TV.cells ⟨m.τ,x⟩)) i<;>rfl
 let R:Nat->Option Value:=λ id=>match cx (E1 id),G1.η id with
  | true, .tuple arr=>arr[0]?
  | _,_=>none
 have hR:∀ id v',R id=some v'->cx (E1 id)=true/\∃ l,G1.η id = .tuple (v'::l).toArray:=by
  intro id v' hr;simp only[R] at hr;split at hr
  .rename_i arr ht eH;refine⟨ht,?_⟩;rw[eH];have hl:arr.toList[0]?=some v':=by simpa using hr
   match hq:arr.toList,hl with
   | a0::l,hl =>
    simp at hl;subst hl;exact⟨l,by rw[<-hq]⟩
  .cases hr
 have hinv:Inv ⟨P,E,w,λ b=>b∈fp,λ b=>b<w.heap.size/\b∉fp,R,λ _=>False,λ _=>none⟩ G1 (jb fn ⟨m.τ,x⟩ k) { tmps := #[v, .int .i64 k]++Array.replicate (fn.ntmps - 2) undef,defers:=[] } w:=by
  unfold Inv;rw[ZY];exact {
   defers:=i1.defers,size:=i1.size,aR:=i1.aR,jP:=i1.jP,eu:=i1.eu,sX:=i1.sX,dH:=i1.dH
   aB:=λ i=>by
    match i with
    | 0 =>
     have e:(#[v,Value.int .i64 k]++Array.replicate (fn.ntmps - 2) undef).getD 0 undef=v:=by
      rw[b4z,b6V (by simp)];rfl
     show VR _ _ _ _ (fg 50 ⟨m.τ,x⟩) ((#[v,Value.int .i64 k]++Array.replicate (fn.ntmps - 2) undef).getD 0 undef);rw[e];exact (t1.reR R).gu
    | 1 =>
     have e:(#[v,Value.int .i64 k]++Array.replicate (fn.ntmps - 2) undef).getD 1 undef = .int .i64 k:=by
      rw[b4z,b6V (by simp)];rfl
     show VR _ _ _ _ (.aI ⟨.int .i64,k⟩) ((#[v,Value.int .i64 k]++Array.replicate (fn.ntmps - 2) undef).getD 1 undef);rw[e];exact Q5 hk
    | i+2 =>
     have:(jb fn ⟨m.τ,x⟩ k).sl (i+2) = .any:=by
      simp only[ah.sl,jb,List.getD_cons_succ];rw[b3V,List.getElem?_replicate];split<;>rfl
     rw[this];trivial
   aN:=i1.aN,place:=i1.place,apart:=i1.apart
   aP:=⟨i1.aP.tr,i1.aP.nd,i1.aP.pl,i1.aP.ap⟩
   root:=λ id v' hr ht=>(hR id v' hr).2
   dw:=λ id b hr=>by cases hr
   fh:=λ id b hr=>by cases hr
   iP:=λ id v' hr=>by
    obtain⟨ht,_⟩:=hR id v' hr;rw[l1 id] at ht;unfold gC at ht;split at ht
    .rename_i o ho;have:=jM (fE ho);have:=F5 x;simp only at *
     omega
    .cases ht }
 refine b6N (fX (c:=⟨P,E,w,λ b=>b∈fp,λ b=>b<w.heap.size/\b∉fp,R,λ _=>False,λ _=>none⟩) hE ic dJ (Λ x k) 0 _ _ _ _ w hinv (h x k AD hk)) ?_;have fin:∀ (e:Exit) (a:Act) (w':World),(e = .normal\/e = .ret)->(∃ G s,Inv ⟨P,E,w,λ b=>b∈fp,λ b=>b<w.heap.size/\b∉fp,R,λ _=>False,λ _=>none⟩ G s a w'/\E8 fn m x k e s) ->
   a.defers=[]/\∃ u,(results fn a.tmps).run P w' = .ok u w'/\Ending.returned u = .returned (.int .i64 (m.g x k).2.2)/\O (m.g x k).2.2/\bE (λ b=>b∈fp) w w'/\∃ yZ,DZ w' ⟨m.τ,(m.g x k).2.1⟩ v yZ/\yZ.Nodup/\∀ b∈yZ,b∈fp\/(w.heap.size<=b/\b<w'.heap.size):=by
  rintro e a w' he ⟨G,s,hI,hp⟩;have W8:∃ t n x' ids,fn.results.toList=[.tmp t]/\s.eval (.tmp t) = .aI ⟨.int .i64,n⟩/\sA s.af m.τ (fg 50 ⟨m.τ,x⟩)=some (x',ids)/\ids.Nodup/\(∀ id∈ids,cx (s.af id)=true)/\n=(m.g x k).2.2/\x'=(m.g x k).2.1:=by
   rcases he with rfl|rfl <;>
   .simp only[E8] at hp;split at hp
    .rename_i t ht;split at hp
     .rename_i n x' ids h1 h2;split at hp
      .rename_i hb;simp only[b3J,b4C] at hb;exact⟨t,n,x',ids,ht,h1,h2,cX hb.1,hb.2,hp⟩
      .exact hp.elim
     .exact hp.elim
    .exact hp.elim
  obtain⟨t,n,x',ids,r1,r2,r3,r4,r5,rfl,rfl⟩:=W8;have cW:=bx hI (.tmp t);rw[r2] at cW;obtain⟨q1,q2⟩:=a0X cW;have Xc:∀ j v',cx (E1 j)=true->(∃ l,G1.η j = .tuple (v'::l).toArray)->50<=j->cx (s.af j)=true->∃ l,G.η j = .tuple (v'::l).toArray:=by
   rintro j v' ht ⟨l,hl⟩ _ UD;exact hI.root j v' (by simp only[R,ht,hl];rfl) UD
  have UE:VR ⟨P,E,w,λ b=>b∈fp,λ b=>b<w.heap.size/\b∉fp,R,λ _=>False,λ _=>none⟩ G s.af w' (fg 50 ⟨m.τ,x⟩) v:=by
   obtain⟨LM,g⟩:=m;cases LM with
   | st st =>
    obtain⟨l,hl,hc⟩:=t1;refine⟨l,hl,?_⟩;simp only[fg,sA] at r3;split at r3;case h_2=>cases r3
    case h_1 us i hus =>
    exact PC Xc (b4r _) (Mt st x) hc hus
   | mv t'=>exact trivial
   | slice t' =>
    obtain⟨q1,q2,q3,q4⟩:=t1;have hT:cx (s.af 50)=true:=by
     simp only[fg,iO,sA,dY] at r3;split at r3
     .rename_i hl;rw[hl];rfl
     .cases r3
    obtain⟨l',oK⟩:=Xc 50 v q1 ⟨q2,q3⟩ (b4r _) hT;exact⟨hT,l',oK,q4⟩
   | ptr=>exact t1
   | int k=>exact t1
   | bool=>exact t1
   | str=>exact t1
  obtain⟨yZ,o1,o2,o3⟩:=mZ hI r3 UE r4;have Z1:(results fn a.tmps).run P w' = .ok (a.tmps.getD t undef) w':=by
   rw[wy,b5K,r1];simp[nK]
  refine⟨hI.defers,_,Z1,by rw[show a.tmps.getD t undef=_ from q1],q2,hI.aR,yZ,o1,o2,λ b hb=>?_⟩;obtain⟨id,hi,hq⟩:=o3 b hb;rcases hq with ⟨τ,ys,q1,q2⟩|⟨e',τ,ys,q1,q2⟩
  .obtain⟨p1,_,p3,_⟩:=hI.aP.pl id τ ys b q1 q2;exact p1.elim (λ q => .inr ⟨q,p3⟩) .inl
  .have:=r5 id hi;rw[q1] at this;cases this
 intro e a w' hq;cases e with
 | normal=>exact fin .normal a w' (.inl rfl) hq
 | ret=>exact fin .ret a w' (.inr rfl) hq
 | exit i=>obtain⟨_,_,_,hp⟩:=hq;exact hp.elim
 | goto l=>obtain⟨_,_,_,hp⟩:=hq;exact hp.elim
 | panic ch=>obtain⟨_,_,_,hp⟩:=hq;exact hp.elim
 | outgrown=>obtain⟨_,_,_,hp⟩:=hq;exact hp.elim
end
def mz:List CK->List TV->Nat->List AV
 | .d _::ks,v::ds,n => .aI v::mz ks ds n
 | .o _::ks,v::ds,n=>iO n v::mz ks ds (n+1)
 | .p j::ks,ds,n => .ptr (400000+j) 0::mz ks ds n
 | _,_,_=>[]
def my:Nat->List (List CK)->List (List TV)->Nat->List (Nat×aD)
 | k,ks::sh,ds::bT,n=>(400000+k, .box (mz ks ds n))::my (k+1) sh bT (n+(dD ks ds).length)
 | _,_,_,_=>[]
def ku:List (List CK)->List (List TV)->List TV
 | ks::sh,ds::bT=>dD ks ds++ku sh bT
 | _,_=>[]
def a0C:Arg->AV
 | .box k => .ptr (400000+k) 0
 | a=>V7 a
def dZ(fn:Func)(args:List Arg)(sh:List (List CK))(bT:List (List TV)):ah :=
 { aB:=args.map a0C++List.replicate (fn.ntmps - args.length) .any,aN:=my 0 sh bT 1000000++ca 1000000 (ku sh bT) }
def idM(n:Nat):List (Nat×Nat):=(List.range n).map λ k=>(k,400000+k)
def Ks(E:Env)(fn:Func)(sh:List (List CK))(post:List TV->List (List TV)->Prop)(e:Exit)(s:ah):Prop :=
 match e with
 | .ret | .normal=>match wB E s fn.results.toList fn.resultTypes.toList with
  | some (vs,ids)=>match je s.af sh 0 (idM sh.length) with
   | some (bT,I8,m)=>match nodupB (ids++I8)&&Nat.beq m.length sh.length with
    | true=>post vs bT
    | false=>False
   | none=>False
  | none=>False
 | _=>False
theorem a5Y:∀ (n:Nat) (k:Nat),af (idM n) k=if k<n then some (400000+k) else none:=by
 intro n k;have key:∀ (l:List Nat),l.Nodup->af (l.map λ k=>(k,400000+k)) k=if k∈l then some (400000+k) else none:=by
  intro l;induction l with
  | nil=>intro _;rfl
  | cons j l ih =>
   intro hn;simp only[b4x] at hn;rw[b4A,qA,ih hn.2];by_cases hk:k=j
   .subst hk;simp
   .simp[hk]
 rw[idM,key _ b6C];simp
section
variable {P:Program} {E:Env}
theorem Zy{w:World}{S:Nat->Prop}{B:Nat->Nat}:∀ {sh:List (List CK)} {k:Nat} {bT:List (List TV)} {n:Nat} {fa:List Nat},jg w S B k sh bT fa ->
  ∃ xs,cZ w ((ku sh bT).map TV.aQ) xs fa/\(∀ u∈ku sh bT,u.τ.agg=false) /\
   ∀ p∈my k sh bT n,∃ j cs l t,p=(400000+j, .box cs)/\k<=j/\j<k+sh.length/\w.heap[B j]?=some (.cells l.toArray t (0,0))/\l.length=cs.length /\
    ∀ (c:Ctx) (G:Gh) (lk:Nat->Option aD) (N:Nat),(∀ b,S b->G.S b)->(∀ j,j<N->G.η (400000+j) = .pointer (some ⟨B j,0,none⟩)/\fZ (lk (400000+j))=true)->(∀ ks∈sh,∀ j,CK.p j∈ks->j<N) ->
     aV (C1 c G lk w) (cd n (ku sh bT)) xs->aV (C1 c G lk w) cs l
 | [],k,[],n,fa,h=>⟨[],⟨rfl,h⟩,by simp[ku],by simp[my]⟩
 | ks::sh,k,ds::bT,n,fa,h=>by
  obtain⟨l,t,f1,f2,rfl,hw,hB,hbs⟩:=h;obtain⟨xs,q1,q2,q3⟩:=Zy (n:=n+(dD ks ds).length) hbs;obtain⟨o1,o2,o3⟩:=hB.yQ;have hlen:∀ (us:List TV) (n:Nat),(cd n us).length=us.length:=λ us=>by
   induction us with
   | nil=>intro n;rfl
   | cons u us ih=>intro n;simp[cd,ih]
  have F6:∀ {ks:List CK} {ds:List TV} {l:List Value} {fp:List Nat} {n:Nat},lP w S B ks ds l fp->l.length=(mz ks ds n).length:=by
   intro ks;induction ks with
   | nil=>intro ds l fp n h;cases ds<;>cases l<;>first|rfl|cases h
   | cons k0 ks ih =>
    intro ds l fp n h;cases l with
    | nil=>cases k0<;>cases ds<;>cases h
    | cons x l =>
     cases k0 with
     | d τ =>
      cases ds with
      | nil=>cases h
      | cons v ds=>simp[mz,ih h.2 (n:=n)]
     | o τ =>
      cases ds with
      | nil=>cases h
      | cons v ds=>obtain⟨_,_,_,_,h2⟩:=h;simp[mz,ih h2 (n:=n+1)]
     | p j =>
      have h:x = .pointer (some ⟨B j,0,none⟩)/\lP w S B ks ds l fp:=by cases ds<;>exact h
      simp[mz,ih h.2 (n:=n)]
  have R0:∀ (c:Ctx) (G:Gh) (lk:Nat->Option aD) (N:Nat),(∀ b,S b->G.S b)->(∀ j,j<N->G.η (400000+j) = .pointer (some ⟨B j,0,none⟩)/\fZ (lk (400000+j))=true) ->
    ∀ {ks:List CK} {ds:List TV} {l:List Value} {fp:List Nat} {n:Nat},lP w S B ks ds l fp->(∀ j,CK.p j∈ks->j<N)->aV (C1 c G lk w) (cd n (dD ks ds)) (lN ks l)->aV (C1 c G lk w) (mz ks ds n) l:=by
   intro c G lk N hS hN ks;induction ks with
   | nil=>intro ds l fp n h _ _;cases ds<;>cases l<;>first|exact trivial|cases h
   | cons k0 ks ih =>
    intro ds l fp n h hp hc;cases l with
    | nil=>cases k0<;>cases ds<;>cases h
    | cons x l =>
     cases k0 with
     | d τ =>
      cases ds with
      | nil=>cases h
      | cons v ds =>
       obtain⟨⟨e,h1,h2⟩,h3⟩:=h;exact⟨⟨by rw[e];exact h1,Rd.aR hS (λ _ _=>rfl) _ h2⟩,ih h3 (λ j hj=>hp j (by simp[hj])) hc⟩
     | o τ =>
      cases ds with
      | nil=>cases h
      | cons v ds =>
       obtain⟨_,_,_,_,h2⟩:=h;exact⟨hc.1,ih h2 (λ j hj=>hp j (by simp[hj])) hc.2⟩
     | p j =>
      have h:x = .pointer (some ⟨B j,0,none⟩)/\lP w S B ks ds l fp:=by cases ds<;>exact h
      have hc:aV (C1 c G lk w) (cd n (dD ks ds)) (lN ks l):=by cases ds<;>exact hc
      obtain⟨g1,g2⟩:=hN j (hp j (by simp));have r:=ih h.2 (λ j hj=>hp j (by simp[hj])) hc;show aV _ (AV.ptr (400000+j) 0::mz ks ds n) (x::l);exact⟨⟨B j,g1,h.1,g2⟩,r⟩
  refine⟨lN ks l++xs,by rw[ku,b5B];exact o1.append q1,λ u hu=>(b3H.1 hu).elim (o2 u) (q2 u),λ p hp=>?_⟩;have Cr:∀ {c:Ctx} {G':Gh} {lk':Nat->Option aD},aV (C1 c G' lk' w) (cd n (ku (ks::sh) (ds::bT))) (lN ks l++xs)->aV (C1 c G' lk' w) (cd n (dD ks ds)) (lN ks l)/\aV (C1 c G' lk' w) (cd (n+(dD ks ds).length) (ku sh bT)) xs:=λ {c G' lk'} q=>by
   rw[ku,uD] at q;have hl:(cd n (dD ks ds)).length=(lN ks l).length:=by rw[<-o3];exact hlen _ _
   have h1:=q.take (cd n (dD ks ds)).length;have h2:=q.drop (cd n (dD ks ds)).length;rw[b5P,hl,b5P] at h1;rw[b5U,hl,b5U] at h2;exact⟨h1,h2⟩
  rcases b3Z.1 hp with rfl|hp
  .exact⟨k,mz ks ds n,l,t,rfl,b4r _,by simp,hw,F6 hB,λ c G lk N h1 h2 h3 h4=>R0 c G lk N h1 h2 hB (h3 ks (by simp)) (Cr h4).1⟩
  .obtain⟨j,cs,l',t',g1,g2,g3,g4,g5,g6⟩:=q3 p hp;exact⟨j,cs,l',t',g1,by omega,by simp;omega,g4,g5,λ c G lk N h1 h2 h3 h4=>g6 c G lk N h1 h2 (λ ks' hk=>h3 ks' (by simp[hk])) (Cr h4).2⟩
 | [],_,_::_,_,_,h=>h.elim
 | _::_,_,[],_,_,h=>h.elim
def Ys(sh:List (List CK)):Bool:=Nat.blt sh.length 1000&&sh.all λ ks=>ks.all λ c=>match c with
 | .p j=>Nat.blt j sh.length
 | _=>true
theorem Yt{sh:List (List CK)}(h:Ys sh=true):∀ ks∈sh,∀ j,CK.p j∈ks->j<sh.length:=λ ks hk j hj=>by
 unfold Ys at h;rw[Bool.and_eq_true] at h;obtain⟨_,h⟩:=h;rw[List.all_eq_true] at h;have h2:=h ks hk;rw[List.all_eq_true] at h2;exact Nat.le_of_ble_eq_true (h2 _ hj)
theorem lP.congr{w:World}{S:Nat->Prop}{B B':Nat->Nat}{N:Nat}(hB:∀ j,j<N->B j=B' j):∀ {ks:List CK} {ds:List TV} {l:List Value} {fp:List Nat},(∀ j,CK.p j∈ks->j<N)->lP w S B ks ds l fp->lP w S B' ks ds l fp:=by
 intro ks;induction ks with
 | nil=>intro ds l fp _ h;cases ds<;>cases l<;>exact h
 | cons k0 ks ih =>
  intro ds l fp hp h;cases l with
  | nil=>cases k0<;>cases ds<;>cases h
  | cons x l =>
   cases k0 with
   | d τ =>
    cases ds with
    | nil=>cases h
    | cons v ds=>exact⟨h.1,ih (λ j hj=>hp j (by simp[hj])) h.2⟩
   | o τ =>
    cases ds with
    | nil=>cases h
    | cons v ds =>
     obtain⟨f1,f2,e,h1,h2⟩:=h;exact⟨f1,f2,e,h1,ih (λ j hj=>hp j (by simp[hj])) h2⟩
   | p j =>
    have h:x = .pointer (some ⟨B j,0,none⟩)/\lP w S B ks ds l fp:=by cases ds<;>exact h
    have r:=ih (λ j hj=>hp j (by simp[hj])) h.2;have e:x = .pointer (some ⟨B' j,0,none⟩):=by rw[h.1,hB j (hp j (by simp))]
    cases ds<;>exact⟨e,r⟩
theorem jg.congr{w:World}{S:Nat->Prop}{B B':Nat->Nat}{N:Nat}(hB:∀ j,j<N->B j=B' j):∀ {sh:List (List CK)} {k:Nat} {bT:List (List TV)} {fa:List Nat},k+sh.length<=N->(∀ ks∈sh,∀ j,CK.p j∈ks->j<N)->jg w S B k sh bT fa->jg w S B' k sh bT fa
 | [],k,bT,fa,_,_,h=>by cases bT<;>exact h
 | ks::sh,k,[],fa,_,_,h=>h.elim
 | ks::sh,k,ds::bT,fa,hk,hp,h=>by
  obtain⟨l,t,f1,f2,e,h1,h2,h3⟩:=h;simp only[b3P] at hk;exact⟨l,t,f1,f2,e,by rw[<-hB k (by omega)];exact h1,h2.congr hB (hp ks (by simp)),jg.congr hB (by omega) (λ ks' l9=>hp ks' (by simp[l9])) h3⟩
theorem L9:∀ {sh:List (List CK)} {k:Nat} {bT:List (List TV)} {n:Nat} {j:Nat},sh.length=bT.length->k<=j->j<k+sh.length->∃ cs,af (my k sh bT n) (400000+j)=some (.box cs)
 | [],k,bT,n,j,_,h1,h2=>by simp at h2;omega
 | ks::sh,k,[],n,j,hl,_,_=>by simp at hl
 | ks::sh,k,ds::bT,n,j,hl,h1,h2=>by
  rw[my,qA];by_cases hj:j=k
  .subst hj;exact⟨_,b4n rfl⟩
  .rw[if_neg (by omega)];exact L9 (by simpa using hl) (by omega) (by simp at h2;omega)
theorem jg.len{w:World}{S:Nat->Prop}{B:Nat->Nat}:∀ {sh:List (List CK)} {k:Nat} {bT:List (List TV)} {fa:List Nat},jg w S B k sh bT fa->sh.length=bT.length
 | [],_,[],_,_=>rfl
 | [],_,_::_,_,h=>h.elim
 | _::_,_,[],_,h=>h.elim
 | ks::sh,k,ds::bT,fa,h=>by
  obtain⟨l,t,f1,f2,e,h1,h2,h3⟩:=h;simp[jg.len h3]
theorem a1t{w:World}{S:Nat->Prop}{B:Nat->Nat}{fn:Func}{args:List Arg}{cI:List Value}{sh:List (List CK)}{bT:List (List TV)}{fa:List Nat}(HM:Ys sh=true)(hS:yU w S)(hBR:jg w S B 0 sh bT fa)(a2k:fa.Nodup)
  (Lb:∀ b∈fa,b<w.heap.size/\¬ S b/\∀ k,k<sh.length->B k≠b) (hB:∀ k,k<sh.length->B k<w.heap.size/\¬ S (B k)) (P7:∀ j k,j<sh.length->k<sh.length->B j=B k->j=k) (ha:aV (a1z w S (BX sh.length B fa) B) args cI)
  (RZ:∀ k,Arg.box k∈args->k<sh.length) :
  ∃ G,Inv ⟨P,E,w,BX sh.length B fa,S,λ _=>none,λ _=>False,λ id=>if 400000<=id/\id<400000+sh.length then some (B (id - 400000)) else none⟩ G (dZ fn args sh bT) { tmps:=cI.toArray++Array.replicate (fn.ntmps - cI.toArray.size) undef,defers:=[] } w:=by
 have hlen:=ha.length;let c1:Ctx:=⟨P,E,w,λ b=>b∈fa,S,λ _=>none,λ _=>False,λ _=>none⟩;have h0:bw c1 ⟨S,λ _=>undef,λ _=>[]⟩ (λ _ => .any) (dZ fn args sh bT).aB.length (λ _=>none) { tmps:=cI.toArray++Array.replicate (fn.ntmps - cI.toArray.size) undef,defers:=[] } w:={
  defers:=rfl
  size:=by simp[dZ,hlen]
  aR:=bE.refl _ _
  jP:=⟨λ b h=>(Lb b h).1,λ g hg=>⟨(hS.2 g hg).1,λ q=>(Lb g q).2.1 (hS.2 g hg).1,hS.1 g (hS.2 g hg).1,(hS.2 g hg).2⟩⟩
  eu:=λ b _ _=>b5G
  sX:=λ b hs=>hs
  dH:=hS.1
  aB:=λ i=>trivial
  aN:=λ id o h=>by cases h
  place:=λ id o b h=>by cases h
  apart:=λ id dx o o' b h=>by cases h
  aP:=⟨(λ id τ xs h=>by cases h),(λ id τ xs h=>by cases h),(λ id τ xs b h=>by cases h),(λ id dx τ bj xs cV b h=>by cases h)⟩
  root:=λ id v h=>by cases h
  iP:=λ id v h=>by cases h
  dw:=λ id v h=>by cases h
  fh:=λ id v h=>by cases h }
 obtain⟨xs,o1,o2,o3⟩:=Zy (n:=1000000) hBR;have b3B:sh.length<1000:=by
  unfold Ys at HM;rw[Bool.and_eq_true] at HM;exact Nat.le_of_ble_eq_true HM.1
 have hFr:Fr c1 ⟨S,λ _=>undef,λ _=>[]⟩ (λ _=>none) w fa:=λ b hb=>⟨.inr hb,(Lb b hb).2.1,(Lb b hb).1,(λ i o h=>by cases h),(λ j τ xs h=>by cases h)⟩;obtain⟨G1,E1,k1,k2,k3,k4,_⟩:=h0.D1 (us:=ku sh bT) (cs:=xs) (id:=1000000) o2 o1 a2k hFr (λ p hp=>rfl) sr (λ j _=>rfl);have ZY:∀ i o,E1 i=some o->1000000<=i/\cx (some o)=true:=λ i o ho=>by
  rw[k1 i] at ho;unfold gC at ho;split at ho
  .rename_i o' cN;simp only[b3C] at ho;subst ho;refine⟨(jM (fE cN)).1,?_⟩;have:∀ {us:List TV} {id:Nat} {p:Nat×aD},p∈ca id us->cx (some p.2)=true:=by
    intro us;induction us with
    | nil=>intro id p hp;cases hp
    | cons u us ih =>
     intro id p hp;rcases b3H.1 hp with hp|hp
     .obtain⟨τ,y⟩:=u;cases τ<;>simp[fJ] at hp;subst hp;rfl
     .exact ih hp
   exact this (fE cN)
  .cases ho
 have a0S:∀ i o,E1 i=some o->ew (G1.η i)=none:=λ i o ho=>by
  obtain⟨_,ht⟩:=ZY i o ho;match o,ht with
  | .aw τ ys,_ =>
   obtain⟨v,l,_,_,q,_⟩:=k2.aP.tr i τ ys ho;rw[q];rfl
 let G2:Gh:=⟨S,λ i=>if 400000<=i/\i<400000+sh.length then .pointer (some ⟨B (i - 400000),0,none⟩) else G1.η i,G1.φ⟩;have Z3:∀ j,j<sh.length->G2.η (400000+j) = .pointer (some ⟨B j,0,none⟩):=λ j hj=>by
  show (if 400000<=400000+j/\400000+j<400000+sh.length then _ else _)=_;rw[b4n (by omega),b5W]
 have Z2:∀ i,1000000<=i->G2.η i=G1.η i:=λ i hi=>b3R (by omega);have hGS:G1.S=S:=k3.S;have a3P:(dZ fn args sh bT).af=λ i=>match af (my 0 sh bT 1000000) i with
   | some o=>some o
   | none=>E1 i:=by
  funext i;show af (my 0 sh bT 1000000++ca 1000000 (ku sh bT)) i=_;rw[qz];unfold gC;cases af (my 0 sh bT 1000000) i with
  | some o=>rfl
  | none =>
   simp only;rw[k1 i];unfold gC;cases af (ca 1000000 (ku sh bT)) i<;>rfl
 have b2f:∀ j,j<sh.length->∃ cs,(dZ fn args sh bT).af (400000+j)=some (.box cs):=λ j hj=>by
  obtain⟨cs,q⟩:=L9 (n:=1000000) hBR.len (Nat.zero_le j) (by simpa using hj);exact⟨cs,by rw[a3P];simp only[q]⟩
 have Az:∀ i o,(dZ fn args sh bT).af i=some o->(∃ j cs l t,i=400000+j/\j<sh.length/\o = .box cs/\w.heap[B j]?=some (.cells l.toArray t (0,0)) /\
   ∀ (c:Ctx) (G:Gh) (lk:Nat->Option aD),(∀ b,S b->G.S b)->(∀ j,j<sh.length->G.η (400000+j) = .pointer (some ⟨B j,0,none⟩)/\fZ (lk (400000+j))=true)->aV (C1 c G lk w) (cd 1000000 (ku sh bT)) xs->aV (C1 c G lk w) cs l) \/
   (E1 i=some o/\1000000<=i):=λ i o ho=>by
  rw[a3P] at ho;simp only at ho;cases hl:af (my 0 sh bT 1000000) i with
  | some o' =>
   rw[hl] at ho;simp only[Option.some.injEq] at ho;subst ho;obtain⟨j,cs,l,t,q1,_,q2,q3,_,q4⟩:=o3 _ (fc hl);simp only[Prod.mk.injEq] at q1;obtain⟨rfl,rfl⟩:=q1;exact .inl ⟨j,cs,l,t,rfl,by simpa using q2,rfl,q3,λ c G lk h1 h2 h3=>q4 c G lk sh.length h1 h2 (Yt HM) h3⟩
  | none =>
   rw[hl] at ho;exact .inr ⟨ho,(ZY i o ho).1⟩
 have e9:∀ i,eF (E1 i) ((dZ fn args sh bT).af i):=λ i=>by
  cases hl:E1 i with
  | none=>exact⟨(λ q=>by cases q),(λ e τ xs q=>by cases q),(λ q=>by cases q),λ q=>by cases q⟩
  | some o =>
   have:=(ZY i o hl).1;have hn:af (my 0 sh bT 1000000) i=none:=wo λ p hp e=>by
    obtain⟨j,cs,l,t,q1,_,q2,_⟩:=o3 p hp;rw[q1] at e;simp only at e;omega
   rw[a3P];simp only[hn,hl];exact eF.refl _
 have F5:aV (C1 ⟨P,E,w,BX sh.length B fa,S,λ _=>none,λ _=>False,λ id=>if 400000<=id/\id<400000+sh.length then some (B (id - 400000)) else none⟩ G2 (dZ fn args sh bT).af w) (cd 1000000 (ku sh bT)) xs:=by
  have:∀ {us:List TV} {n:Nat} {xs:List Value},1000000<=n->aV (C1 c1 G1 E1 w) (cd n us) xs->aV (C1 ⟨P,E,w,BX sh.length B fa,S,λ _=>none,λ _=>False,λ id=>if 400000<=id/\id<400000+sh.length then some (B (id - 400000)) else none⟩ G2 (dZ fn args sh bT).af w) (cd n us) xs:=by
   intro us;induction us with
   | nil=>intro n xs _ h;cases xs<;>exact h
   | cons u us ih =>
    intro n xs hn h;cases xs with
    | nil=>exact h.elim
    | cons x xs =>
     refine⟨?_,ih (by omega) h.2⟩;have h1:C1 c1 G1 E1 w (iO n u) x:=h.1;obtain⟨τ,y⟩:=u;have aI:C1 c1 G1 E1 w (.aI ⟨τ,y⟩) x->C1 ⟨P,E,w,BX sh.length B fa,S,λ _=>none,λ _=>False,λ id=>if 400000<=id/\id<400000+sh.length then some (B (id - 400000)) else none⟩ G2 (dZ fn args sh bT).af w (.aI ⟨τ,y⟩) x:=λ q=>⟨q.1,Rd.aR (λ b hb=>by rw[hGS] at hb;exact hb) (λ _ _=>rfl) _ q.2⟩;cases τ with
     | slice τ =>
      obtain⟨g1,l,g2,g3⟩:=h1;exact⟨(e9 n).2.2.1 g1,l,by rw[Z2 n hn];exact g2,g3⟩
     | mv τ=>exact trivial
     | _=>exact aI h1
  exact this (b4r _) k4
 have hN:∀ j,j<sh.length->G2.η (400000+j) = .pointer (some ⟨B j,0,none⟩)/\fZ ((dZ fn args sh bT).af (400000+j))=true:=λ j hj=>by
  obtain⟨cs,q⟩:=b2f j hj;exact⟨Z3 j hj,by rw[q];rfl⟩
 have Xe:∀ i τ xs,(dZ fn args sh bT).af i=some (.aw τ xs)->E1 i=some (.aw τ xs)/\1000000<=i:=λ i τ ys hi=>by
  rcases Az i _ hi with ⟨_,_,_,_,_,_,q,_⟩|q
  .cases q
  .exact q
 refine⟨G2,?_⟩;exact {
  defers:=rfl
  size:=by simp[dZ,hlen]
  aR:=bE.refl _ _
  jP:=⟨λ b hb=>hb.elim (λ q=>(Lb b q).1) λ ⟨k,hk,e⟩=>(by rw[e];exact (hB k hk).1),λ g hg=>⟨(hS.2 g hg).1,λ q=>q.elim (λ q=>(Lb g q).2.1 (hS.2 g hg).1) λ ⟨k,hk,e⟩=>(hB k hk).2 (e ▸ (hS.2 g hg).1),hS.1 g (hS.2 g hg).1,(hS.2 g hg).2⟩⟩
  eu:=λ b _ _=>b5G
  sX:=λ b hs=>hs
  dH:=hS.1
  aB:=λ i=>by
   have Xd:∀ v x,v∈args->a1z w S (BX sh.length B fa) B v x->VR ⟨P,E,w,BX sh.length B fa,S,λ _=>none,λ _=>False,λ id=>if 400000<=id/\id<400000+sh.length then some (B (id - 400000)) else none⟩ G2 (dZ fn args sh bT).af w (a0C v) x:=by
    intro v x hm h;cases v with
    | val v=>exact h
    | ref v =>
     obtain⟨b,o,cs,h1,h2,h3,h4,h5⟩:=h;exact⟨b,o,cs,h1, .inr ⟨h2,h3,λ z=>z⟩,h4,h5⟩
    | fn f=>exact h
    | di v=>exact h.elim
    | own v=>exact h.elim
    | box k =>
     obtain⟨g1,g2⟩:=hN k (RZ k hm);exact⟨B k,g1,h,g2⟩
   have h1:aV (λ v x=>VR ⟨P,E,w,BX sh.length B fa,S,λ _=>none,λ _=>False,λ id=>if 400000<=id/\id<400000+sh.length then some (B (id - 400000)) else none⟩ G2 (dZ fn args sh bT).af w v x) (args.map a0C) cI:=aV.ej _ (ha.imp λ v x hm h=>Xd v x hm h);have h2:=aV.getD (d:=AV.any) (e:=undef) (show VR ⟨P,E,w,BX sh.length B fa,S,λ _=>none,λ _=>False,λ id=>if 400000<=id/\id<400000+sh.length then some (B (id - 400000)) else none⟩ G2 (dZ fn args sh bT).af w .any undef from trivial) (h1.BY (a:=AV.any) (b:=undef) (show VR ⟨P,E,w,BX sh.length B fa,S,λ _=>none,λ _=>False,λ id=>if 400000<=id/\id<400000+sh.length then some (B (id - 400000)) else none⟩ G2 (dZ fn args sh bT).af w .any undef from trivial) (fn.ntmps - args.length)) i;have e1:(dZ fn args sh bT).sl i=(args.map a0C++List.replicate (fn.ntmps - args.length) AV.any).getD i AV.any:=rfl;have e2:(cI.toArray++Array.replicate (fn.ntmps - cI.toArray.size) undef).getD i undef=(cI++List.replicate (fn.ntmps - args.length) undef).getD i undef:=by
    rw[b4z,b3V,<-b7q];simp[hlen]
   rw[e1];show VR _ _ _ _ _ ((cI.toArray++Array.replicate (fn.ntmps - cI.toArray.size) undef).getD i undef);rw[e2];exact h2
  aN:=λ i o ho=>by
   rcases Az i o ho with ⟨j,cs,l,t,rfl,hj,rfl,q3,q4⟩|⟨q1,q2⟩
   .exact⟨B j,l,t,Z3 j hj,q3,q4 _ G2 _ (λ b hb=>hb) hN F5⟩
   .have:=(ZY i o q1).2;match o,this with
    | .aw τ ys,_=>trivial
  place:=λ i o b ho hb=>by
   rcases Az i o ho with ⟨j,cs,l,t,rfl,hj,rfl,q3,q4⟩|⟨q1,q2⟩
   .rw[Z3 j hj] at hb;simp only[ew,b3C] at hb;subst hb;exact⟨.inr (.inr ⟨j,hj,rfl⟩),(hB j hj).2,(hB j hj).1⟩
   .rw[Z2 i q2,a0S i o q1] at hb;cases hb
  apart:=λ i i' o o' b ho cN hb cz=>by
   rcases Az i o ho with ⟨j,cs,l,t,rfl,hj,rfl,q3,q4⟩|⟨q1,q2⟩
   .rcases Az i' o' cN with ⟨j',dA,l',t',rfl,I3,rfl,_,_⟩|⟨g1,g2⟩
    .rw[Z3 j hj] at hb;rw[Z3 j' I3] at cz;simp only[ew,b3C] at hb cz;rw[P7 j j' hj I3 (hb.trans cz.symm)]
    .rw[Z2 i' g2,a0S i' o' g1] at cz;cases cz
   .rw[Z2 i q2,a0S i o q1] at hb;cases hb
  aP:={
   tr:=λ i τ ys hi=>by
    obtain⟨q1,q2⟩:=Xe i τ ys hi;rw[Z2 i q2];exact k2.aP.tr i τ ys q1
   nd:=λ i τ ys hi=>k2.aP.nd i τ ys (Xe i τ ys hi).1
   pl:=λ i τ ys b hi hb=>by
    obtain⟨q1,q2⟩:=Xe i τ ys hi;obtain⟨p1,p2,p3,p4⟩:=k2.aP.pl i τ ys b q1 hb;have YR:b∈fa:=p1.elim (λ q=>absurd p3 (Nat.not_lt.2 q)) id;refine⟨.inr (.inl YR),(Lb b YR).2.1,p3,λ i' o' cN e=>?_⟩;rcases Az i' o' cN with ⟨j,cs,l,t,rfl,hj,rfl,_,_⟩|⟨g1,g2⟩
    .rw[Z3 j hj] at e;simp only[ew,b3C] at e;exact (Lb b YR).2.2 j hj e
    .rw[Z2 i' g2,a0S i' o' g1] at e;cases e
   ap:=λ i i' τ bj ys ys' b hi oe=>k2.aP.ap i i' τ bj ys ys' b (Xe i τ ys hi).1 (Xe i' bj ys' oe).1 }
  root:=λ id v h=>by cases h
  iP:=λ id v h=>by cases h
  dw:=λ id b hr ht=>by
   simp only at hr;split at hr
   .rename_i hc;simp only[b3C] at hr;show (if 400000<=id/\id<400000+sh.length then _ else _)=_;rw[b4n hc,hr]
   .cases hr
  fh:=λ id b hr=>by
   simp only at hr;split at hr
   .rename_i hc;exact hc.1
   .cases hr }
theorem a0Q(hE:bH P E)(ic:P.follows .mixedOrders=true){f:FuncId}{fn:Func}{dJ:Code}(hf:P.funcs[f]?=some fn)(hb:fn.body=some dJ)(Λ:Nat->aE){args:List Arg}{sh:List (List CK)}{bT:List (List TV)}{res:List TV}{eP:List (List TV)}{post:List TV->List (List TV)->Prop}
  (W9:∀ vs ds,post vs ds->vs=res/\ds=eP) (HM:Ys sh=true) (RZ:∀ k,Arg.box k∈args->k<sh.length) (h:vJ E dJ Λ 0 (Ks E fn sh post) (dZ fn args sh bT)):qI P f sh args bT res eP:=by
 intro w S B cI fa hS hBR a2k Lb hB P7 ha;refine b7m hf hb ?_;obtain⟨G0,hinv⟩:=a1t (P:=P) (E:=E) (fn:=fn) HM hS hBR a2k Lb hB P7 ha RZ;generalize hc:(⟨P,E,w,BX sh.length B fa,S,λ _=>none,λ _=>False,λ id=>if 400000<=id/\id<400000+sh.length then some (B (id - 400000)) else none⟩:Ctx)=c at *
 have hcP:c.P=P:=by rw[<-hc]
 have hcE:c.E=E:=by rw[<-hc]
 have hcw:c.w0=w:=by rw[<-hc]
 have hcX:c.X=BX sh.length B fa:=by rw[<-hc]
 have hcS:c.S0=S:=by rw[<-hc]
 have hcB:∀ j,j<sh.length->c.RB (400000+j)=some (B j):=λ j hj=>by
  rw[<-hc];show (if 400000<=400000+j/\400000+j<400000+sh.length then _ else _)=_;rw[b4n (by omega),b5W]
 have hE':bH c.P c.E:=by rw[hcP,hcE];exact hE
 have cH:=fX (c:=c) hE' (by rw[hcP];exact ic) dJ Λ 0 (Ks E fn sh post) G0 (dZ fn args sh bT) _ w hinv (by rw[hcE];exact h);rw[hcP] at cH;refine b6N cH ?_;have fin:∀ (e:Exit) (a:Act) (w':World),(e = .normal\/e = .ret)->(∃ G s,Inv c G s a w'/\Ks E fn sh post e s) ->
   a.defers=[]/\∃ v,(results fn a.tmps).run P w' = .ok v w'/\∃ x S' fp Pz,Ending.returned v = .returned x/\bE (BX sh.length B fa) w w'/\(∀ b,S b->S' b)/\(∀ b,S' b->b<w'.heap.size)/\(∀ b,b<w.heap.size->¬ BX sh.length B fa b->(S' b↔S b)) /\
    wG w' res x fp/\jg w' S' B 0 sh eP Pz/\(fp++Pz).Nodup/\(∀ b∈fp++Pz,(b∈fa\/(w.heap.size<=b/\b<w'.heap.size))/\¬ S' b/\∀ k,k<sh.length->B k≠b)/\∀ k,k<sh.length->¬ S' (B k):=by
  rintro e a w' he ⟨G,s,hI,hp⟩;have W8:∃ vs ids ds I8 m,wB E s fn.results.toList fn.resultTypes.toList=some (vs,ids)/\je s.af sh 0 (idM sh.length)=some (ds,I8,m)/\(ids++I8).Nodup/\vs=res/\ds=eP:=by
   rcases he with rfl|rfl <;>
   .simp only[Ks] at hp;split at hp
    .rename_i vs ids Dt;split at hp
     .rename_i ds I8 m R1;split at hp
      .rename_i hn;rw[b3J] at hn;obtain⟨q1,q2⟩:=W9 _ _ hp;exact⟨vs,ids,ds,I8,m,Dt,R1,cX hn.1,q1,q2⟩
      .exact hp.elim
     .exact hp.elim
    .exact hp.elim
  obtain⟨vs,ids,ds,I8,m,Dt,R1,hn,rfl,rfl⟩:=W8;rw[b4h] at hn;obtain⟨n1,n2,n3⟩:=hn;obtain⟨xs,fp,h1,h2,h3,h4⟩:=GJ (P:=P) (E:=E) (c:=c) hE' hcP hcE hI Dt n1;obtain⟨x0,a0T,Pz,b1X,b0N,a9V⟩:=yp hI R1 n2;have a4X:∀ k,k<sh.length->∃ cs,s.af (400000+k)=some (.box cs)/\G.η (400000+k) = .pointer (some ⟨B k,0,none⟩)/\af m k=some (400000+k):=λ k hk=>by
   obtain⟨id,cs,q1,q2⟩:=a0T k (Nat.zero_le _) (by simpa using hk);have q3:=x0 k (400000+k) (by rw[a5Y,if_pos hk]);rw[q3] at q1;simp only[Option.some.injEq] at q1;subst q1;exact⟨cs,q2,hI.dw _ _ (hcB k hk) (by rw[q2];rfl),q3⟩
  have hbo:∀ k,k<sh.length->nu G m k=B k:=λ k hk=>by
   obtain⟨cs,_,q2,q3⟩:=a4X k hk;simp only[nu,q3,q2];rfl
  have b1Y:=jg.congr (N:=sh.length) hbo (by omega) (Yt HM) (b1X m (lQ.refl m));have fY:bE (BX sh.length B fa) w w':=by
   have:=hI.aR;rwa [hcX,hcw] at this
  have eY:∀ ids b,yS G s.af ids b->(b∈fa\/(w.heap.size<=b/\b<w'.heap.size))/\¬ G.S b/\∀ k,k<sh.length->B k≠b:=λ ids b hb=>by
   obtain⟨id,hi,hq⟩:=hb;have hp:(c.w0.heap.size<=b\/c.X b)/\¬ G.S b/\b<w'.heap.size/\∀ k,k<sh.length->B k≠b:=by
    rcases hq with ⟨τ,ys,q1,q2⟩|⟨e',τ,ys,q1,q2⟩
    .obtain⟨p1,p2,p3,p4⟩:=hI.aP.pl id τ ys b q1 q2;refine⟨p1,p2,p3,λ k hk e=>?_⟩;obtain⟨cs,g1,g2,_⟩:=a4X k hk;exact p4 _ _ g1 (by rw[g2,<-e];rfl)
    .obtain⟨p1,p2,p3⟩:=hI.place id _ b q1 q2;refine⟨p1,p2,p3,λ k hk e=>?_⟩;obtain⟨cs,g1,g2,_⟩:=a4X k hk;have:=hI.apart id _ _ _ b q1 g1 q2 (by rw[g2,<-e];rfl);subst this;rw[q1] at g1;cases g1
   obtain⟨p1,p2,p3,p4⟩:=hp;refine⟨?_,p2,p4⟩;rw[hcw,hcX] at p1;rcases p1 with p1|p1|⟨k,hk,e⟩
   .exact .inr ⟨p1,p3⟩
   .exact .inl p1
   .exact absurd e.symm (p4 k hk)
  refine⟨hI.defers,(if h:xs.toArray.size=1 then xs.toArray[0] else .tuple xs.toArray),?_,_,G.S,fp,Pz,rfl,fY,?_,hI.dH,?_,a0e h2,b1Y,?_,?_,?_⟩
  .rw[wy,b5K];simp only[b4q,b7n,h1];rfl
  .intro b hb;exact hI.sX b (by rw[hcS];exact hb)
  .intro b hb hx;have:=hI.eu b (by rw[hcw];exact hb) (by rw[hcX];exact hx);rwa [hcS] at this
  .exact eb h3 b0N λ b hb cz=>hI.iX (h4 b hb) (a9V b cz) λ x hx y hy=>n3 x hx y hy
  .intro b hb;rcases b3H.1 hb with hb|hb
   .exact eY ids b (h4 b hb)
   .exact eY I8 b (a9V b hb)
  .intro k hk;obtain⟨cs,q1,q2,_⟩:=a4X k hk;exact (hI.place _ _ (B k) q1 (by rw[q2];rfl)).2.1
 intro e a w' hq;cases e with
 | normal=>exact fin .normal a w' (.inl rfl) hq
 | ret=>exact fin .ret a w' (.inr rfl) hq
 | exit i=>obtain⟨_,_,_,hp⟩:=hq;exact hp.elim
 | goto l=>obtain⟨_,_,_,hp⟩:=hq;exact hp.elim
 | panic ch=>obtain⟨_,_,_,hp⟩:=hq;exact hp.elim
 | outgrown=>obtain⟨_,_,_,hp⟩:=hq;exact hp.elim
end
def GM:List (Nat×Ty×Nat×Nat) :=
 [(2,(.int .i64),0,0),
  (3,(.int .i64),0,0),
  (4, .bool,0,0),
  (5,(.int .u8),0,0),
  (9, .str,0,0),
  (12,(.int .u64),0,0),
  (23,(.st .sig),0,0),
  (24,(.slice (.st .claim)),120,124),
  (26,(.st .proof),0,0),
  (27,(.slice (.st .expr)),40,29),
  (29,(.st .expr),0,0),
  (30,(.slice (.int .i64)),8,2),
  (32,(.st .proofStep),0,0),
  (36,(.slice (.st .expr)),40,38),
  (38,(.st .expr),0,0),
  (41,(.st .sig),0,0),
  (42,(.slice (.st .claim)),120,99),
  (44,(.st .proof),0,0),
  (48,(.st .proofStep),0,0),
  (94,(.st .equation),0,0),
  (97,(.slice (.st .proofStep)),88,48),
  (99,(.st .claim),0,0),
  (118,(.slice .bool),1,4),
  (122,(.slice (.st .proofStep)),88,32),
  (124,(.st .claim),0,0),
  (129,(.slice .str),16,9),
  (154,(.slice (.st .proof)),40,44),
  (168,(.slice (.st .equation)),80,94),
  (183,(.st .l01Reader),0,0),
  (187,(.st .reader),0,0),
  (194,(.slice (.int .u8)),1,5),
  (203,(.int .u64),0,0),
  (221,(.int .u64),0,0)]
def VQ:List (Nat×Ty) :=
 [(73,(.st .proof)),(75,(.st .expr)),(77,(.st .proofStep)),(96,(.st .claim)),(101,(.st .equation)),(149,(.int .i64)),(181,(.st .l01Reader)),(191,(.st .reader)),(212,(.int .u8))]
def QB:List (Nat×Ty×Ty):=[]
abbrev OP:Nat:=2
abbrev a0w:Nat:=4
abbrev LN:Nat:=26
abbrev qJ:Nat:=27
abbrev a0x:Nat:=38
abbrev OO:Nat:=48
abbrev YL:Nat:=99
noncomputable abbrev prog:Program:=Tryz.prog
def Ky(c:Nat->List Arg->Option (Vc×List TV))(wr own:List Nat)(oc:Nat->List Arg->Option (Vc×List TV))(mk:Nat->Option DX)(cl:Nat->Option vA)(ro:List Nat)(tk:Nat->List Bool)(sk:Nat->Option SK)(sc:Nat->List Arg->List (List TV)->Option (Vc×List TV×List (List TV)))(nc:Nat->List Arg->Option (Vc×a1A)):((GM.all λ r=>uZ prog (Env.mk GM VQ c wr own oc mk cl ro tk sk sc QB nc) r.1 r.2.1 r.2.2.1 r.2.2.2)&&QB.all λ r=>XJ prog (Env.mk GM VQ c wr own oc mk cl ro tk sk sc QB nc) r.1 r.2.1 r.2.2)=true:=by kernel_rfl
def wx:prog.follows .mixedOrders=true:=Checked.mixed Tryz.checked
def aO(f:Func):Code:=match f.body with
 | some c=>c
 | none => .skip
abbrev fe:Nat:=5
noncomputable abbrev gS:Func:=Tryz.f5
def lU:prog.funcs[fe]?=some gS:=Tryz.func5
def vL:gS.body=some (aO gS):=by kernel_rfl
abbrev yd:Nat:=8
noncomputable abbrev wU:Func:=Tryz.f8
def Eb:prog.funcs[yd]?=some wU:=Tryz.func8
def MF:wU.body=some (aO wU):=by kernel_rfl
abbrev si:Nat:=9
noncomputable abbrev Ag:Func:=Tryz.f9
def oW:prog.funcs[si]?=some Ag:=Tryz.func9
def Pc:Ag.body=some (aO Ag):=by kernel_rfl
abbrev oB:Nat:=10
noncomputable abbrev nZ:Func:=Tryz.f10
def vH:prog.funcs[oB]?=some nZ:=Tryz.func10
def FH:nZ.body=some (aO nZ):=by kernel_rfl
abbrev ld:Nat:=12
noncomputable abbrev wX:Func:=Tryz.f12
def nj:prog.funcs[ld]?=some wX:=Tryz.func12
def zO:wX.body=some (aO wX):=by kernel_rfl
abbrev gV:Nat:=13
noncomputable abbrev Ah:Func:=Tryz.f13
def fu:prog.funcs[gV]?=some Ah:=Tryz.func13
def Cf:Ah.body=some (aO Ah):=by kernel_rfl
abbrev gq:Nat:=14
noncomputable abbrev n0:Func:=Tryz.f14
def iw:prog.funcs[gq]?=some n0:=Tryz.func14
def qP:n0.body=some (aO n0):=by kernel_rfl
abbrev sa:Nat:=16
noncomputable abbrev Af:Func:=Tryz.f16
def oV:prog.funcs[sa]?=some Af:=Tryz.func16
def Pb:Af.body=some (aO Af):=by kernel_rfl
abbrev yb:Nat:=17
noncomputable abbrev wR:Func:=Tryz.f17
def D9:prog.funcs[yb]?=some wR:=Tryz.func17
def MC:wR.body=some (aO wR):=by kernel_rfl
abbrev oz:Nat:=18
noncomputable abbrev nY:Func:=Tryz.f18
def vG:prog.funcs[oz]?=some nY:=Tryz.func18
def FG:nY.body=some (aO nY):=by kernel_rfl
abbrev CU:Nat:=19
noncomputable abbrev ra:Func:=Tryz.f19
def zI:prog.funcs[CU]?=some ra:=Tryz.func19
def ID:ra.body=some (aO ra):=by kernel_rfl
abbrev pd:Nat:=25
noncomputable abbrev wT:Func:=Tryz.f25
def nh:prog.funcs[pd]?=some wT:=Tryz.func25
def ME:wT.body=some (aO wT):=by kernel_rfl
abbrev oC:Nat:=26
noncomputable abbrev n6:Func:=Tryz.f26
def vI:prog.funcs[oC]?=some n6:=Tryz.func26
def FI:n6.body=some (aO n6):=by kernel_rfl
abbrev gd:Nat:=27
noncomputable abbrev wW:Func:=Tryz.f27
def eG:prog.funcs[gd]?=some wW:=Tryz.func27
def zN:wW.body=some (aO wW):=by kernel_rfl
abbrev ot:Nat:=28
noncomputable abbrev nT:Func:=Tryz.f28
def vE:prog.funcs[ot]?=some nT:=Tryz.func28
def FB:nT.body=some (aO nT):=by kernel_rfl
abbrev pc:Nat:=29
noncomputable abbrev wQ:Func:=Tryz.f29
def ng:prog.funcs[pc]?=some wQ:=Tryz.func29
def MB:wQ.body=some (aO wQ):=by kernel_rfl
abbrev sd:Nat:=30
noncomputable abbrev qZ:Func:=Tryz.f30
def kf:prog.funcs[sd]?=some qZ:=Tryz.func30
def IC:qZ.body=some (aO qZ):=by kernel_rfl
abbrev sb:Nat:=31
noncomputable abbrev qY:Func:=Tryz.f31
def zH:prog.funcs[sb]?=some qY:=Tryz.func31
def IB:qY.body=some (aO qY):=by kernel_rfl
abbrev uq:Nat:=36
noncomputable abbrev tc:Func:=Tryz.f36
def B7:prog.funcs[uq]?=some tc:=Tryz.func36
def KM:tc.body=some (aO tc):=by kernel_rfl
abbrev ur:Nat:=37
noncomputable abbrev td:Func:=Tryz.f37
def B8:prog.funcs[ur]?=some td:=Tryz.func37
def KN:td.body=some (aO td):=by kernel_rfl
abbrev DE:Nat:=38
noncomputable abbrev Dn:Func:=Tryz.f38
def Iq:prog.funcs[DE]?=some Dn:=Tryz.func38
def RG:Dn.body=some (aO Dn):=by kernel_rfl
abbrev uS:Nat:=39
noncomputable abbrev Dm:Func:=Tryz.f39
def Ip:prog.funcs[uS]?=some Dm:=Tryz.func39
def RF:Dm.body=some (aO Dm):=by kernel_rfl
abbrev yl:Nat:=40
noncomputable abbrev xi:Func:=Tryz.f40
def Ei:prog.funcs[yl]?=some xi:=Tryz.func40
def MR:xi.body=some (aO xi):=by kernel_rfl
abbrev uR:Nat:=41
noncomputable abbrev Dl:Func:=Tryz.f41
def Io:prog.funcs[uR]?=some Dl:=Tryz.func41
def RE:Dl.body=some (aO Dl):=by kernel_rfl
abbrev uv:Nat:=42
noncomputable abbrev ti:Func:=Tryz.f42
def Ca:prog.funcs[uv]?=some ti:=Tryz.func42
def KQ:ti.body=some (aO ti):=by kernel_rfl
abbrev DD:Nat:=43
noncomputable abbrev Dk:Func:=Tryz.f43
def Im:prog.funcs[DD]?=some Dk:=Tryz.func43
def RD:Dk.body=some (aO Dk):=by kernel_rfl
abbrev jH:Nat:=44
noncomputable abbrev te:Func:=Tryz.f44
def lV:prog.funcs[jH]?=some te:=Tryz.func44
def yF:te.body=some (aO te):=by kernel_rfl
abbrev jI:Nat:=45
noncomputable abbrev tf:Func:=Tryz.f45
def lW:prog.funcs[jI]?=some tf:=Tryz.func45
def yG:tf.body=some (aO tf):=by kernel_rfl
abbrev pT:Nat:=46
noncomputable abbrev pn:Func:=Tryz.f46
def yq:prog.funcs[pT]?=some pn:=Tryz.func46
def Hs:pn.body=some (aO pn):=by kernel_rfl
abbrev A5:Nat:=48
noncomputable abbrev z8:Func:=Tryz.f48
def GS:prog.funcs[A5]?=some z8:=Tryz.func48
def O5:z8.body=some (aO z8):=by kernel_rfl
abbrev A9:Nat:=49
noncomputable abbrev Ae:Func:=Tryz.f49
def GY:prog.funcs[A9]?=some Ae:=Tryz.func49
def Pa:Ae.body=some (aO Ae):=by kernel_rfl
abbrev rW:Nat:=50
noncomputable abbrev qS:Func:=Tryz.f50
def zA:prog.funcs[rW]?=some qS:=Tryz.func50
def Iv:qS.body=some (aO qS):=by kernel_rfl
abbrev DC:Nat:=51
noncomputable abbrev Dj:Func:=Tryz.f51
def Il:prog.funcs[DC]?=some Dj:=Tryz.func51
def RC:Dj.body=some (aO Dj):=by kernel_rfl
abbrev um:Nat:=52
noncomputable abbrev s7:Func:=Tryz.f52
def B5:prog.funcs[um]?=some s7:=Tryz.func52
def KK:s7.body=some (aO s7):=by kernel_rfl
abbrev uo:Nat:=53
noncomputable abbrev s9:Func:=Tryz.f53
def B6:prog.funcs[uo]?=some s9:=Tryz.func53
def KL:s9.body=some (aO s9):=by kernel_rfl
abbrev Ba:Nat:=54
noncomputable abbrev pw:Func:=Tryz.f54
def yy:prog.funcs[Ba]?=some pw:=Tryz.func54
def Hx:pw.body=some (aO pw):=by kernel_rfl
abbrev Bb:Nat:=55
noncomputable abbrev px:Func:=Tryz.f55
def yz:prog.funcs[Bb]?=some px:=Tryz.func55
def Hy:px.body=some (aO px):=by kernel_rfl
abbrev l6:Nat:=56
noncomputable abbrev qX:Func:=Tryz.f56
def ke:prog.funcs[l6]?=some qX:=Tryz.func56
def IA:qX.body=some (aO qX):=by kernel_rfl
abbrev uw:Nat:=57
noncomputable abbrev tj:Func:=Tryz.f57
def Cb:prog.funcs[uw]?=some tj:=Tryz.func57
def KR:tj.body=some (aO tj):=by kernel_rfl
abbrev xZ:Nat:=58
noncomputable abbrev wL:Func:=Tryz.f58
def D4:prog.funcs[xZ]?=some wL:=Tryz.func58
def Mw:wL.body=some (aO wL):=by kernel_rfl
abbrev uz:Nat:=59
noncomputable abbrev tn:Func:=Tryz.f59
def Ce:prog.funcs[uz]?=some tn:=Tryz.func59
def KV:tn.body=some (aO tn):=by kernel_rfl
abbrev yg:Nat:=60
noncomputable abbrev xe:Func:=Tryz.f60
def Ee:prog.funcs[yg]?=some xe:=Tryz.func60
def MN:xe.body=some (aO xe):=by kernel_rfl
abbrev pY:Nat:=61
noncomputable abbrev py:Func:=Tryz.f61
def yA:prog.funcs[pY]?=some py:=Tryz.func61
def Hz:py.body=some (aO py):=by kernel_rfl
abbrev yh:Nat:=62
noncomputable abbrev xf:Func:=Tryz.f62
def Ef:prog.funcs[yh]?=some xf:=Tryz.func62
def MO:xf.body=some (aO xf):=by kernel_rfl
abbrev lL:Nat:=63
noncomputable abbrev lv:Func:=Tryz.f63
def qN:prog.funcs[lL]?=some lv:=Tryz.func63
def Dd:lv.body=some (aO lv):=by kernel_rfl
abbrev Bh:Nat:=64
noncomputable abbrev WC:Func:=Tryz.f64
def Uo:prog.funcs[Bh]?=some WC:=Tryz.func64
abbrev Bg:Nat:=65
noncomputable abbrev An:Func:=Tryz.f65
def G8:prog.funcs[Bg]?=some An:=Tryz.func65
def Pj:An.body=some (aO An):=by kernel_rfl
abbrev pZ:Nat:=66
noncomputable abbrev pz:Func:=Tryz.f66
def yB:prog.funcs[pZ]?=some pz:=Tryz.func66
def HA:pz.body=some (aO pz):=by kernel_rfl
abbrev pV:Nat:=67
noncomputable abbrev pq:Func:=Tryz.f67
def yv:prog.funcs[pV]?=some pq:=Tryz.func67
def Hu:pq.body=some (aO pq):=by kernel_rfl
abbrev ug:Nat:=68
noncomputable abbrev sU:Func:=Tryz.f68
def B0:prog.funcs[ug]?=some sU:=Tryz.func68
def KD:sU.body=some (aO sU):=by kernel_rfl
abbrev A3:Nat:=69
noncomputable abbrev z6:Func:=Tryz.f69
def GQ:prog.funcs[A3]?=some z6:=Tryz.func69
def O3:z6.body=some (aO z6):=by kernel_rfl
abbrev lJ:Nat:=70
noncomputable abbrev lr:Func:=Tryz.f70
def qL:prog.funcs[lJ]?=some lr:=Tryz.func70
def Db:lr.body=some (aO lr):=by kernel_rfl
abbrev uj:Nat:=71
noncomputable abbrev sZ:Func:=Tryz.f71
def B3:prog.funcs[uj]?=some sZ:=Tryz.func71
def KH:sZ.body=some (aO sZ):=by kernel_rfl
abbrev rZ:Nat:=72
noncomputable abbrev qV:Func:=Tryz.f72
def zF:prog.funcs[rZ]?=some qV:=Tryz.func72
def Iy:qV.body=some (aO qV):=by kernel_rfl
abbrev rY:Nat:=73
noncomputable abbrev qU:Func:=Tryz.f73
def zD:prog.funcs[rY]?=some qU:=Tryz.func73
def Ix:qU.body=some (aO qU):=by kernel_rfl
abbrev pW:Nat:=74
noncomputable abbrev pr:Func:=Tryz.f74
def yw:prog.funcs[pW]?=some pr:=Tryz.func74
def Hv:pr.body=some (aO pr):=by kernel_rfl
abbrev rX:Nat:=77
noncomputable abbrev qT:Func:=Tryz.f77
def zB:prog.funcs[rX]?=some qT:=Tryz.func77
def Iw:qT.body=some (aO qT):=by kernel_rfl
abbrev yc:Nat:=83
noncomputable abbrev wS:Func:=Tryz.f83
def Ea:prog.funcs[yc]?=some wS:=Tryz.func83
def MD:wS.body=some (aO wS):=by kernel_rfl
abbrev Bd:Nat:=84
noncomputable abbrev Ak:Func:=Tryz.f84
def G5:prog.funcs[Bd]?=some Ak:=Tryz.func84
def Pf:Ak.body=some (aO Ak):=by kernel_rfl
abbrev ux:Nat:=85
noncomputable abbrev tl:Func:=Tryz.f85
def Cc:prog.funcs[ux]?=some tl:=Tryz.func85
def KS:tl.body=some (aO tl):=by kernel_rfl
abbrev pe:Nat:=86
noncomputable abbrev wZ:Func:=Tryz.f86
def nm:prog.funcs[pe]?=some wZ:=Tryz.func86
def MH:wZ.body=some (aO wZ):=by kernel_rfl
abbrev nH:Nat:=87
noncomputable abbrev th:Func:=Tryz.f87
def lX:prog.funcs[nH]?=some th:=Tryz.func87
def KP:th.body=some (aO th):=by kernel_rfl
abbrev ph:Nat:=88
noncomputable abbrev xc:Func:=Tryz.f88
def ns:prog.funcs[ph]?=some xc:=Tryz.func88
def ML:xc.body=some (aO xc):=by kernel_rfl
abbrev lK:Nat:=89
noncomputable abbrev lu:Func:=Tryz.f89
def qM:prog.funcs[lK]?=some lu:=Tryz.func89
def Dc:lu.body=some (aO lu):=by kernel_rfl
abbrev ym:Nat:=90
noncomputable abbrev xj:Func:=Tryz.f90
def Ej:prog.funcs[ym]?=some xj:=Tryz.func90
def MS:xj.body=some (aO xj):=by kernel_rfl
abbrev uT:Nat:=91
noncomputable abbrev YP:Func:=Tryz.f91
def Wb:prog.funcs[uT]?=some YP:=Tryz.func91
abbrev pf:Nat:=92
noncomputable abbrev xa:Func:=Tryz.f92
def np:prog.funcs[pf]?=some xa:=Tryz.func92
def MI:xa.body=some (aO xa):=by kernel_rfl
abbrev kO:Nat:=93
noncomputable abbrev M4:Func:=Tryz.f93
def KA:prog.funcs[kO]?=some M4:=Tryz.func93
abbrev la:Nat:=94
noncomputable abbrev wV:Func:=Tryz.f94
def ni:prog.funcs[la]?=some wV:=Tryz.func94
def zM:wV.body=some (aO wV):=by kernel_rfl
abbrev uf:Nat:=95
noncomputable abbrev sT:Func:=Tryz.f95
def BZ:prog.funcs[uf]?=some sT:=Tryz.func95
def KC:sT.body=some (aO sT):=by kernel_rfl
abbrev A4:Nat:=96
noncomputable abbrev z7:Func:=Tryz.f96
def GR:prog.funcs[A4]?=some z7:=Tryz.func96
def O4:z7.body=some (aO z7):=by kernel_rfl
abbrev x6:Nat:=97
noncomputable abbrev wM:Func:=Tryz.f97
def D5:prog.funcs[x6]?=some wM:=Tryz.func97
def Mx:wM.body=some (aO wM):=by kernel_rfl
abbrev A8:Nat:=98
noncomputable abbrev Ad:Func:=Tryz.f98
def GX:prog.funcs[A8]?=some Ad:=Tryz.func98
def O9:Ad.body=some (aO Ad):=by kernel_rfl
abbrev A7:Nat:=99
noncomputable abbrev Ab:Func:=Tryz.f99
def GW:prog.funcs[A7]?=some Ab:=Tryz.func99
def O7:Ab.body=some (aO Ab):=by kernel_rfl
abbrev jG:Nat:=100
noncomputable abbrev sS:Func:=Tryz.f100
def lR:prog.funcs[jG]?=some sS:=Tryz.func100
def KB:sS.body=some (aO sS):=by kernel_rfl
abbrev jk:Nat:=101
noncomputable abbrev nU:Func:=Tryz.f101
def iu:prog.funcs[jk]?=some nU:=Tryz.func101
def FC:nU.body=some (aO nU):=by kernel_rfl
abbrev r7:Nat:=102
noncomputable abbrev qW:Func:=Tryz.f102
def zG:prog.funcs[r7]?=some qW:=Tryz.func102
def Iz:qW.body=some (aO qW):=by kernel_rfl
abbrev ya:Nat:=103
noncomputable abbrev wP:Func:=Tryz.f103
def D8:prog.funcs[ya]?=some wP:=Tryz.func103
def MA:wP.body=some (aO wP):=by kernel_rfl
abbrev sf:Nat:=104
noncomputable abbrev kh:Func:=Tryz.f104
def qk:prog.funcs[sf]?=some kh:=Tryz.func104
def BF:kh.body=some (aO kh):=by kernel_rfl
abbrev uy:Nat:=105
noncomputable abbrev tm:Func:=Tryz.f105
def Cd:prog.funcs[uy]?=some tm:=Tryz.func105
def KU:tm.body=some (aO tm):=by kernel_rfl
abbrev x7:Nat:=106
noncomputable abbrev wN:Func:=Tryz.f106
def D6:prog.funcs[x7]?=some wN:=Tryz.func106
def My:wN.body=some (aO wN):=by kernel_rfl
abbrev sn:Nat:=107
noncomputable abbrev Ap:Func:=Tryz.f107
def oZ:prog.funcs[sn]?=some Ap:=Tryz.func107
def Pm:Ap.body=some (aO Ap):=by kernel_rfl
abbrev fP:Nat:=108
noncomputable abbrev mq:Func:=Tryz.f108
def hJ:prog.funcs[fP]?=some mq:=Tryz.func108
def Er:mq.body=some (aO mq):=by kernel_rfl
abbrev mU:Nat:=109
noncomputable abbrev Ao:Func:=Tryz.f109
def oY:prog.funcs[mU]?=some Ao:=Tryz.func109
def Pk:Ao.body=some (aO Ao):=by kernel_rfl
abbrev mT:Nat:=110
noncomputable abbrev Aj:Func:=Tryz.f110
def oX:prog.funcs[mT]?=some Aj:=Tryz.func110
def Pe:Aj.body=some (aO Aj):=by kernel_rfl
abbrev p6:Nat:=111
noncomputable abbrev pA:Func:=Tryz.f111
def yC:prog.funcs[p6]?=some pA:=Tryz.func111
def HB:pA.body=some (aO pA):=by kernel_rfl
abbrev zf:Nat:=112
noncomputable abbrev FT:Func:=Tryz.f112
def uI:prog.funcs[zf]?=some FT:=Tryz.func112
def Ur:FT.body=some (aO FT):=by kernel_rfl
abbrev r9:Nat:=113
noncomputable abbrev FW:Func:=Tryz.f113
def uJ:prog.funcs[r9]?=some FW:=Tryz.func113
def G9:FW.body=some (aO FW):=by kernel_rfl
abbrev r6:Nat:=114
noncomputable abbrev zZ:Func:=Tryz.f114
def oT:prog.funcs[r6]?=some zZ:=Tryz.func114
def O2:zZ.body=some (aO zZ):=by kernel_rfl
abbrev nF:Nat:=115
noncomputable abbrev sV:Func:=Tryz.f115
def lS:prog.funcs[nF]?=some sV:=Tryz.func115
def KE:sV.body=some (aO sV):=by kernel_rfl
abbrev kJ:Nat:=116
noncomputable abbrev kg:Func:=Tryz.f116
def qj:prog.funcs[kJ]?=some kg:=Tryz.func116
def BE:kg.body=some (aO kg):=by kernel_rfl
abbrev uh:Nat:=117
noncomputable abbrev sW:Func:=Tryz.f117
def B1:prog.funcs[uh]?=some sW:=Tryz.func117
def KF:sW.body=some (aO sW):=by kernel_rfl
abbrev mS:Nat:=118
noncomputable abbrev mn:Func:=Tryz.f118
def sI:prog.funcs[mS]?=some mn:=Tryz.func118
def Ep:mn.body=some (aO mn):=by kernel_rfl
abbrev Bc:Nat:=119
noncomputable abbrev Ai:Func:=Tryz.f119
def GZ:prog.funcs[Bc]?=some Ai:=Tryz.func119
def Pd:Ai.body=some (aO Ai):=by kernel_rfl
abbrev ye:Nat:=120
noncomputable abbrev wY:Func:=Tryz.f120
def Ec:prog.funcs[ye]?=some wY:=Tryz.func120
def MG:wY.body=some (aO wY):=by kernel_rfl
abbrev yi:Nat:=121
noncomputable abbrev xg:Func:=Tryz.f121
def Eg:prog.funcs[yi]?=some xg:=Tryz.func121
def MP:xg.body=some (aO xg):=by kernel_rfl
abbrev yn:Nat:=122
noncomputable abbrev xk:Func:=Tryz.f122
def Ek:prog.funcs[yn]?=some xk:=Tryz.func122
def MT:xk.body=some (aO xk):=by kernel_rfl
abbrev fO:Nat:=123
noncomputable abbrev mo:Func:=Tryz.f123
def hH:prog.funcs[fO]?=some mo:=Tryz.func123
def qo:mo.body=some (aO mo):=by kernel_rfl
abbrev r8:Nat:=124
noncomputable abbrev Ac:Func:=Tryz.f124
def oU:prog.funcs[r8]?=some Ac:=Tryz.func124
def O8:Ac.body=some (aO Ac):=by kernel_rfl
abbrev A2:Nat:=125
noncomputable abbrev zY:Func:=Tryz.f125
def GP:prog.funcs[A2]?=some zY:=Tryz.func125
def O1:zY.body=some (aO zY):=by kernel_rfl
abbrev jd:Nat:=126
noncomputable abbrev iU:Func:=Tryz.f126
def nO:prog.funcs[jd]?=some iU:=Tryz.func126
def yX:iU.body=some (aO iU):=by kernel_rfl
abbrev nG:Nat:=127
noncomputable abbrev s6:Func:=Tryz.f127
def lT:prog.funcs[nG]?=some s6:=Tryz.func127
def KJ:s6.body=some (aO s6):=by kernel_rfl
abbrev mR:Nat:=128
noncomputable abbrev mj:Func:=Tryz.f128
def sH:prog.funcs[mR]?=some mj:=Tryz.func128
def Eo:mj.body=some (aO mj):=by kernel_rfl
abbrev yj:Nat:=129
noncomputable abbrev xh:Func:=Tryz.f129
def Eh:prog.funcs[yj]?=some xh:=Tryz.func129
def MQ:xh.body=some (aO xh):=by kernel_rfl
abbrev ui:Nat:=130
noncomputable abbrev sY:Func:=Tryz.f130
def B2:prog.funcs[ui]?=some sY:=Tryz.func130
def KG:sY.body=some (aO sY):=by kernel_rfl
abbrev Be:Nat:=131
noncomputable abbrev Al:Func:=Tryz.f131
def G6:prog.funcs[Be]?=some Al:=Tryz.func131
def Pg:Al.body=some (aO Al):=by kernel_rfl
abbrev pg:Nat:=132
noncomputable abbrev xb:Func:=Tryz.f132
def nr:prog.funcs[pg]?=some xb:=Tryz.func132
def MJ:xb.body=some (aO xb):=by kernel_rfl
abbrev jJ:Nat:=133
noncomputable abbrev WB:Func:=Tryz.f133
def Un:prog.funcs[jJ]?=some WB:=Tryz.func133
abbrev pX:Nat:=134
noncomputable abbrev pt:Func:=Tryz.f134
def yx:prog.funcs[pX]?=some pt:=Tryz.func134
def Hw:pt.body=some (aO pt):=by kernel_rfl
abbrev en:Nat:=135
noncomputable abbrev HD:Func:=Tryz.f135
def Fy:prog.funcs[en]?=some HD:=Tryz.func135
abbrev Bf:Nat:=136
noncomputable abbrev Am:Func:=Tryz.f136
def G7:prog.funcs[Bf]?=some Am:=Tryz.func136
def Ph:Am.body=some (aO Am):=by kernel_rfl
abbrev uu:Nat:=137
noncomputable abbrev tg:Func:=Tryz.f137
def B9:prog.funcs[uu]?=some tg:=Tryz.func137
def KO:tg.body=some (aO tg):=by kernel_rfl
abbrev A6:Nat:=138
noncomputable abbrev Aa:Func:=Tryz.f138
def GU:prog.funcs[A6]?=some Aa:=Tryz.func138
def O6:Aa.body=some (aO Aa):=by kernel_rfl
abbrev mP:Nat:=139
noncomputable abbrev mh:Func:=Tryz.f139
def sF:prog.funcs[mP]?=some mh:=Tryz.func139
def Em:mh.body=some (aO mh):=by kernel_rfl
abbrev pU:Nat:=140
noncomputable abbrev po:Func:=Tryz.f140
def yr:prog.funcs[pU]?=some po:=Tryz.func140
def Ht:po.body=some (aO po):=by kernel_rfl
abbrev yf:Nat:=141
noncomputable abbrev xd:Func:=Tryz.f141
def Ed:prog.funcs[yf]?=some xd:=Tryz.func141
def MM:xd.body=some (aO xd):=by kernel_rfl
abbrev x8:Nat:=142
noncomputable abbrev wO:Func:=Tryz.f142
def D7:prog.funcs[x8]?=some wO:=Tryz.func142
def Mz:wO.body=some (aO wO):=by kernel_rfl
abbrev gD:Nat:=143
noncomputable abbrev ki:Func:=Tryz.f143
def fT:prog.funcs[gD]?=some ki:=Tryz.func143
def BG:ki.body=some (aO ki):=by kernel_rfl
abbrev Jx:Nat:=144
noncomputable abbrev WD:Func:=Tryz.f144
def Up:prog.funcs[Jx]?=some WD:=Tryz.func144
abbrev uk:Nat:=145
noncomputable abbrev s5:Func:=Tryz.f145
def B4:prog.funcs[uk]?=some s5:=Tryz.func145
def KI:s5.body=some (aO s5):=by kernel_rfl
abbrev jK:Nat:=146
noncomputable abbrev jt:Func:=Tryz.f146
def iS:prog.funcs[jK]?=some jt:=Tryz.func146
def zP:jt.body=some (aO jt):=by kernel_rfl
abbrev kM:Nat:=147
noncomputable abbrev kp:Func:=Tryz.f147
def qm:prog.funcs[kM]?=some kp:=Tryz.func147
def BJ:kp.body=some (aO kp):=by kernel_rfl
abbrev jm:Nat:=149
noncomputable abbrev nW:Func:=Tryz.f149
def iv:prog.funcs[jm]?=some nW:=Tryz.func149
def FE:nW.body=some (aO nW):=by kernel_rfl
abbrev Jw:Nat:=150
noncomputable abbrev WA:Func:=Tryz.f150
def Um:prog.funcs[Jw]?=some WA:=Tryz.func150
abbrev kK:Nat:=151
noncomputable abbrev kj:Func:=Tryz.f151
def ql:prog.funcs[kK]?=some kj:=Tryz.func151
def BH:kj.body=some (aO kj):=by kernel_rfl
abbrev kL:Nat:=152
noncomputable abbrev km:Func:=Tryz.f152
def jo:prog.funcs[kL]?=some km:=Tryz.func152
def BI:km.body=some (aO km):=by kernel_rfl
abbrev ov:Nat:=154
noncomputable abbrev nX:Func:=Tryz.f154
def vF:prog.funcs[ov]?=some nX:=Tryz.func154
def FF:nX.body=some (aO nX):=by kernel_rfl
abbrev ou:Nat:=155
noncomputable abbrev nV:Func:=Tryz.f155
def mg:prog.funcs[ou]?=some nV:=Tryz.func155
def FD:nV.body=some (aO nV):=by kernel_rfl
abbrev sj:Nat:=158
noncomputable abbrev rb:Func:=Tryz.f158
def zJ:prog.funcs[sj]?=some rb:=Tryz.func158
def IE:rb.body=some (aO rb):=by kernel_rfl
abbrev kN:Nat:=159
noncomputable abbrev kq:Func:=Tryz.f159
def qn:prog.funcs[kN]?=some kq:=Tryz.func159
def BK:kq.body=some (aO kq):=by kernel_rfl
abbrev mV:Nat:=164
noncomputable abbrev mr:Func:=Tryz.f164
def sJ:prog.funcs[mV]?=some mr:=Tryz.func164
def Es:mr.body=some (aO mr):=by kernel_rfl
abbrev Gu:Nat:=165
noncomputable abbrev FU:Func:=Tryz.f165
def LQ:prog.funcs[Gu]?=some FU:=Tryz.func165
def Us:FU.body=some (aO FU):=by kernel_rfl
abbrev mQ:Nat:=166
noncomputable abbrev mi:Func:=Tryz.f166
def sG:prog.funcs[mQ]?=some mi:=Tryz.func166
def En:mi.body=some (aO mi):=by kernel_rfl
abbrev eN:Nat:=171
noncomputable abbrev eL:Func:=Tryz.f171
def gQ:prog.funcs[eN]?=some eL:=Tryz.func171
def nR:eL.body=some (aO eL):=by kernel_rfl
end Go.Proofs.YtmjfpcajohhbeaaGreatDoor

set_option maxRecDepth 4000
set_option maxHeartbeats 4000000
namespace Go.Proofs.YtmjfpcajohhbeaaGreatDoor
def Uh:∀ (xs:List Int) (k:Nat),k<xs.length->xs.take (k+1)=xs.take k++[xs.getD k 0]
 | [],k,h=>by simp at h
 | x::xs,0,h=>by simp
 | x::xs,k+1,h=>by
  have:=Uh xs k (by simpa using h);simp at this ⊢;exact this
def R7(x:J)(k:Int):Bool:=decide (0<=k/\k<=(x.M.length:Int) - 1)
def isN(x:J):Bool:=decide (x.aq=5)
def er:J->List Int->Bool
 | _,[]=>true
 | x,k::ks=>R7 x k&&er (x.M.getD k.toNat zE) ks
def dN:J->List Int->J
 | x,[]=>x
 | x,k::ks=>dN (x.M.getD k.toNat zE) ks
def p7:J->List Int->Bool
 | _,[]=>false
 | x,k::ks=>isN x||p7 (x.M.getD k.toNat zE) ks
def XX(k:Int):∀ (ks:List Int) (x:J),er x (ks++[k])=(er x ks&&R7 (dN x ks) k)/\dN x (ks++[k])=(dN x ks).M.getD k.toNat zE/\p7 x (ks++[k])=(p7 x ks||isN (dN x ks))
 | [],x=>⟨by simp[er,dN],rfl,by simp[p7,dN]⟩
 | j::ks,x=>by
  obtain⟨h1,h2,h3⟩:=XX k ks (x.M.getD j.toNat zE);simp only[b4U,er,dN,p7,h1,h2,h3,b6O,Bool.or_assoc,and_self]
def Bi(x:J)(ks:List Int)(k:Nat)(h:k<ks.length):er x (ks.take (k+1))=(er x (ks.take k)&&R7 (dN x (ks.take k)) (ks.getD k 0)) /\
  dN x (ks.take (k+1))=(dN x (ks.take k)).M.getD (ks.getD k 0).toNat zE/\p7 x (ks.take (k+1))=(p7 x (ks.take k)||isN (dN x (ks.take k))):=by
 rw[Uh ks k h];exact XX _ _ _
def a5i:∀ (ks js:List Int) (x:J),er x (ks++js)=(er x ks&&er (dN x ks) js)
 | [],js,x=>by simp[er,dN]
 | k::ks,js,x=>by simp only[b4U,er,dN,a5i ks js,b6O]
def a5j(x:J)(ks:List Int)(k:Nat)(h:er x (ks.take k)=false):er x ks=false:=by
 conv=>lhs;rw[<-b4S k ks]
 rw[a5i,h,b4Y]
def a1i(x:J)(ks:List Int)(k:Nat)(h:ks.length<=k):er x (ks.take k)=er x ks/\dN x (ks.take k)=dN x ks/\p7 x (ks.take k)=p7 x ks:=by
 rw[b4a h];exact⟨rfl,rfl,rfl⟩
def QC:J->List Int->J
 | x,[]=>x
 | x,k::ks=>bif R7 x k then QC (x.M.getD k.toNat zE) ks else x
def Za:J->List Int->Bool
 | _,[]=>false
 | x,k::ks=>bif R7 x k then isN x||Za (x.M.getD k.toNat zE) ks else false
def XY:∀ (ks:List Int) (x:J) (k:Nat),k<=ks.length->er x (ks.take k)=true->(k<ks.length->R7 (dN x (ks.take k)) (ks.getD k 0)=false)->dN x (ks.take k)=QC x ks/\p7 x (ks.take k)=Za x ks
 | [],x,k,h,_,_=>by rw[List.take_nil];exact⟨rfl,rfl⟩
 | j::js,x,0,_,_,h=>by
  have h:=h (by simp);rw[b4I] at h ⊢;have h:R7 x j=false:=h;simp only[dN,p7,QC,Za];rw[h];exact⟨rfl,rfl⟩
 | j::js,x,k+1,hl,ho,h=>by
  rw[List.take_succ_cons] at ho h ⊢;simp only[er,Bool.and_eq_true] at ho;simp only[dN,p7,QC,Za];rw[ho.1];have:=XY js _ k (by simpa using hl) ho.2 (λ q=>h (by simpa using q));rw[this.1,this.2];exact⟨rfl,rfl⟩
def XW:∀ (ks:List Int) (x:J),er x ks=true->QC x ks=dN x ks/\Za x ks=p7 x ks
 | [],_,_=>⟨rfl,rfl⟩
 | j::js,x,h=>by
  simp only[er,b3J] at h;simp only[dN,p7,QC,Za];rw[h.1];have:=XW js _ h.2;rw[this.1,this.2];exact⟨rfl,rfl⟩
open Go.RowKit Go.Proofs
set_option maxRecDepth 100000 in
def a7M(n lo hi:Int)(w:World):Calls prog uR #[.int .i64 n, .int .i64 lo, .int .i64 hi] w λ e w'=>e = .returned (.bool (decide (lo<=n/\n<=hi)))/\w'=w:=by
 go_enter Tryz.func41,Tryz.ntmps41;go_wp2
 .go_ret;refine⟨?_,rfl⟩;simp_all
 .go_ret;refine⟨?_,rfl⟩;simp;omega
def a6D(w:World)(x:J)(ks:List Int)(R:Nat->Nat->Nat->Prop):Prop:=∀ k b o,R k b o->k<=ks.length->w.cell? ⟨b,o,none⟩=some (.int .i64 (dN x (ks.take k)).aq) /\
 ∃ a cap,w.cell? ⟨b,o+2,none⟩=some (.slice a (dN x (ks.take k)).M.length cap)/\(dN x (ks.take k)).M.length<=140737488355328/\∀ j:Nat,k<ks.length->ks.getD k 0=(j:Int)->j<(dN x (ks.take k)).M.length->∃ bk q,a=some ⟨bk,q,none⟩/\R (k+1) bk (q+j * 3)
def b0q(w0:World)(x:J)(ks:List Int)(R:Nat->Nat->Nat->Prop)(p bl i:Value)(w:World):Prop :=
 (∃ m,w=w0.drewN m)/\∃ (k b o:Nat),i = .int .i64 (k:Int)/\k<=ks.length/\p = .pointer (some ⟨b,o,none⟩)/\bl = .bool (p7 x (ks.take k))/\er x (ks.take k)=true/\R k b o
def a6T(n:Nat):Value->Nat
 | .int _ k=>n - k.toNat
 | _=>0
set_option maxRecDepth 100000 in
def a1H(w:World)(x:J)(ks:List Int)(R:Nat->Nat->Nat->Prop)(b0 o0:Nat)(h0:R 0 b0 o0)(hR:a6D w x ks R)(v:Value)(S:Nat->Prop)(hv:Rd w S (.slice 1 (ks.map (D.int .i64))) [v]) :
  Calls prog uT #[.pointer (some ⟨b0,o0,none⟩),v] w λ e w'=>(∃ m,w'=w.drewN m)/\∃ p bl,e = .returned (.tuple #[p, .bool bl, .bool (er x ks)]) /\
   ∃ k b o,k<=ks.length/\p = .pointer (some ⟨b,o,none⟩)/\R k b o/\dN x (ks.take k)=QC x ks/\bl=Za x ks/\(er x ks=true->k=ks.length):=by
 obtain⟨a,cap,hv1,_,L5,hlen,eQ⟩:=hv;simp only[b3O,b3T] at hv1;subst hv1;simp only[b3Y] at *
 go_enter Tryz.func91,Tryz.ntmps91;go_wp2;go_loopw [0,7,8] (λ p bl i w'=>b0q w x ks R p bl i w') (λ p bl i w'=>a6T ks.length i)
 .exact⟨⟨0,rfl⟩,0,b0,o0,rfl,b4O _,rfl,by rw[b4I];rfl,by rw[b4I];rfl,h0⟩
 obtain⟨⟨nd,hwn⟩,k,b,o,rfl,hk,rfl,rfl,WW,hL⟩:=hrel;have hw:wr.heap=w.heap:=by rw[hwn];rfl
 have hwd:∀ m,∃ m',wr.drewN m=w.drewN m':=λ m=>⟨nd+m,by rw[hwn,World.drewN_drewN]⟩;have hw0:∃ m,wr=w.drewN m:=⟨nd,hwn⟩;clear hwn;obtain⟨vQ,a5,b3w,hc5,hl5,W6⟩:=hR k b o hL hk;have hcc:∀ a,wr.cell? a=w.cell? a:=λ a=>by simp only[World.cell?,hw]
 rw[<-hcc] at vQ hc5;clear hcc;by_cases hkn:k<ks.length
 .obtain eQ|⟨q0,p0,rfl,P2,eQ⟩:=eQ
  .rw[b5V] at eQ;subst eQ;simp at hkn
  obtain⟨c0,R0,hc2,hc3⟩:=eQ.at_ (n:=1) _ _ _ (λ d hd=>by obtain⟨y,_,rfl⟩:=b3N.1 hd;rfl) k (.int .i64 (ks.getD k 0)) (by simp[hkn]);rw[hc2.1] at hc3;have hck:wr.cell? ⟨q0,p0+k,none⟩=some (.int .i64 (ks.getD k 0)):=by
   have:=hc3 0 _ rfl;rw[<-this];simp only[Nat.mul_one,b5D,World.cell?,hw]
  have lA:=Bi x ks k hkn;have a9S:=a5j x ks (k+1);generalize hj:ks.getD k 0=j at *
  generalize hnn:(dN x (ks.take k)).M.length=nk at *
  generalize hkk:(dN x (ks.take k)).aq=kk at *
  generalize hbl:p7 x (ks.take k)=bl at *
  have b2p:isN (dN x (ks.take k))=decide (kk=5):=by unfold isN;rw[hkk]
  have ie:¬ (0<=j/\j<=(nk:Int) - 1)->er x ks=false/\dN x (ks.take k)=QC x ks/\bl=Za x ks:=λ h=>by
   refine⟨a9S ?_,?_⟩
   .rw[lA.1];simp only[R7,hnn];rw[b3Q h,b5c]
   .have:=XY ks x k hk WW λ _=>by
     rw[hj];simp only[R7,hnn];exact b3Q h
    exact⟨this.1,hbl.symm.trans this.2⟩
  have b0e:∀ j':Nat,j=(j':Int)->j'<nk->er x (ks.take (k+1))=true:=λ j' e h=>by
   rw[lA.1,WW];simp only[R7,hnn];rw[b4l (by omega)];rfl
  have hB:=lA.2.2;rw[b2p] at hB;clear lA a9S;cases bl;all_goals
   go_wp2
   go_quiet (first|(go_at_call 41;exact Calls.quiet_of_same (a7M _ _ _ _)))
   go_wp2
  .rename_i eY;have hb:=ie (by simp at eY;omega);go_ret3;exact⟨hwd _,_,false,by rw[hb.1];rfl,k,b,o,hk,rfl,hL,hb.2.1,hb.2.2,λ e=>by rw[hb.1] at e;cases e⟩
  .rename_i eY;have W2:0<=j/\j<=(nk:Int) - 1:=by simp at eY;omega
   obtain⟨j,rfl⟩:=b6x W2.1;obtain⟨bk,q,rfl,IZ⟩:=W6 j hkn rfl (by omega);have a7q:=b0e j rfl (by omega);go_quiet (skip);go_wp2;refine⟨⟨hwd _,k+1,bk,q+j * 3,rfl,by omega,rfl,?_,a7q,IZ⟩,?_⟩
   .rw[hB];simp;by_cases h5:kk=5<;>simp[h5]
   .simp only[a6T];omega
  .rename_i eY;have hb:=ie (by simp at eY;omega);go_ret3;exact⟨hwd _,_,true,by rw[hb.1];rfl,k,b,o,hk,rfl,hL,hb.2.1,hb.2.2,λ e=>by rw[hb.1] at e;cases e⟩
  .rename_i eY;have W2:0<=j/\j<=(nk:Int) - 1:=by simp at eY;omega
   obtain⟨j,rfl⟩:=b6x W2.1;obtain⟨bk,q,rfl,IZ⟩:=W6 j hkn rfl (by omega);have a7q:=b0e j rfl (by omega);go_quiet (skip);go_wp2;refine⟨⟨hwd _,k+1,bk,q+j * 3,rfl,by omega,rfl,?_,a7q,IZ⟩,?_⟩
   .rw[hB];rfl
   .simp only[a6T];omega
 .go_wp2;have L6:=a1i x ks k (by omega);have hke:k=ks.length:=by omega
  subst hke;go_ret3;rw[L6.1] at WW;have hs:=XY ks x ks.length (b4r _) (by rw[L6.1];exact WW) λ h=>absurd h (b5X _);exact⟨hw0,_,p7 x (ks.take ks.length),by rw[WW];rfl,ks.length,b,o,b4r _,rfl,hL,hs.1,hs.2,λ _=>rfl⟩
def a6x(x:J):x.aQ.size=3:=by cases x;rfl
def b1h{w:World}{S T:Nat->Prop}{x:J}{ks:List Int}(hS:∀ b,S b->b<w.heap.size):a6D w x ks λ k b o=>b<w.heap.size/\(S b\/T b)/\∃ cs,ct w b o cs/\Rd w S (dN x (ks.take k)).aQ cs:=by
 rintro k b o ⟨hb,_,cs,hc,hr⟩ hk;have NI:=hr;generalize hz:dN x (ks.take k)=z at *
 cases z with
 | mk kd n M =>
  simp only[J.aQ,J.wC] at hr;obtain⟨v0,r0,rfl,a0,v1,r1,rfl,a1,v2,r2,rfl,a2,rfl⟩:=hr;have e0:[v0]=[.int .i64 kd]:=a0.1;obtain⟨a,cap,e2,_,_,hl,eQ⟩:=a2;simp only[b3O,b3T] at e0 e2;subst e0 e2;rw[b3Y] at hl;refine⟨hc 0 _ rfl,a,cap,by rw[hc 2 _ rfl,b3Y],hl,λ j hkn hj YW=>?_⟩;obtain eQ|⟨bk,q,rfl,cz,eQ⟩:=eQ
  .rw[b5V] at eQ;subst eQ;simp at YW
  have YW:j<M.length:=YW;obtain⟨c0,R0,hc2,hc3⟩:=eQ.at_ (n:=3) _ _ _ (λ d hd=>by obtain⟨y,_,rfl⟩:=b3N.1 hd;exact a6x y) j (M.getD j zE).aQ (by simp[YW]);refine⟨bk,q,rfl,hS bk cz, .inl cz,c0,hc3,?_⟩;have cv:=(Bi x ks k hkn).2.1;rw[cv,hz,hj];exact hc2
def CV:Nat->List Arg->Option (Vc×a1A):=λ f zs=>match Nat.beq f uT with
 | true=>match zs with
  | [.ref ⟨.st .expr,x⟩, .val ⟨.slice (.int .i64),ks⟩]=>some (.none, .res [(true,⟨.st .expr,QC x ks⟩),(false,⟨.bool,Za x ks⟩),(false,⟨.bool,er x ks⟩)])
  | _=>none
 | false=>none
def a8L(x:J)(ks:List Int):a3d prog uT [.ref ⟨.st .expr,x⟩, .val ⟨.slice (.int .i64),ks⟩] (.res [(true,⟨.st .expr,QC x ks⟩),(false,⟨.bool,Za x ks⟩),(false,⟨.bool,er x ks⟩)]):=by
 intro w S T cI hS hT ha;match cI,ha with
 | [v1,v2],ha =>
  obtain⟨⟨b,o,cs,rfl,hb,hc,r⟩,r2,_⟩:=ha;have r:Rd w S x.aQ cs:=r;have r2:Rd w S (.slice 1 (ks.map (D.int .i64))) [v2]:=r2;have hTb:T b:=hT _ (b5Z ..) ⟨b,o,none⟩ rfl;refine (a1H w x ks (λ k b o=>b<w.heap.size/\(S b\/T b)/\∃ cs,ct w b o cs/\Rd w S (dN x (ks.take k)).aQ cs) b o (by exact⟨hb, .inr hTb,cs,hc,by rw[b4I];exact r⟩) (b1h hS.1) v2 S r2).mono ?_;rintro e w' ⟨⟨m,rfl⟩,p,bl,rfl,k,b',o',hk,rfl,⟨cz,cv,dA,Ux,NI⟩,hE,rfl,_⟩;refine⟨_,S,rfl,⟨rfl,rfl,rfl,b4r _,λ _ _ _=>rfl⟩,λ _ _=>b5G,hS.1,λ b hb=>(by cases hb),[_,_,_],rfl,⟨b',o',dA,rfl,cv,Ux,?_⟩,rfl,rfl,U⟩;rw[hE] at NI;exact Rd.aR (w:=w) (w':=w.drewN m) (λ _ h=>h) (λ _ _=>rfl) _ NI
def XV:∀ f args pre cells,CV f args=some (pre,cells)->pre.ok->jQ prog f/\a3d prog f args cells:=by
 intro f args pre cells h _;unfold CV at h;split at h
 .rename_i hf;have hf:=b3G hf;subst hf;split at h
  .simp only[b3C,b3F] at h;obtain⟨rfl,rfl⟩:=h;exact⟨⟨_,Wb,rfl,by decide⟩,a8L _ _⟩
  .cases h
 .cases h
end Go.Proofs.YtmjfpcajohhbeaaGreatDoor

namespace Go.Proofs.YtmjfpcajohhbeaaGreatDoor
abbrev cf{α:Type}[SizeOf α](x:α):Nat:=SizeOf.sizeOf x
def cb{α:Type}[SizeOf α](d:α):∀ (xs:List α) (i:Nat),i<xs.length->cf (xs.getD i d)<cf xs
 | [],i,h=>by simp at h
 | x::xs,0,h=>by simp[cf];omega
 | x::xs,i+1,h=>by
  have:=cb d xs i (by simpa using h);simp[cf] at this ⊢;omega
def dn(e:J):cf e.M<cf e:=by
 cases e;simp[cf];omega
inductive PK where
 | v (τ:Ty)
 | r (τ:Ty)
 | f
 | c (ps:List Ty) (r:Ty)
 | o (τ:Ty)
 | b (k:Nat)
@[reducible] def KT:List PK->Type 1
 | []=>ULift (Vc×List TV)
 | .v τ::l=>τ.den->KT l
 | .r τ::l=>τ.den->KT l
 | .f::l=>FuncId->KT l
 | .c ps r::l=>FN ps r->KT l
 | .o τ::l=>τ.den->KT l
 | .b _::l=>KT l
def dj:(l:List PK)->KT l->List Arg->Option (Vc×List TV)
 | [],x,[]=>some x.down
 | .v τ::l,g, .val a::zs=>match a.Z9 τ with
  | some x=>dj l (g x) zs
  | none=>none
 | .r τ::l,g, .ref a::zs=>match a.Z9 τ with
  | some x=>dj l (g x) zs
  | none=>none
 | .f::l,g, .fn a::zs=>dj l (g a) zs
 | .c ps r::l,g, .di a::zs=>match a.Z9 ps r with
  | some x=>dj l (g x) zs
  | none=>none
 | .o τ::l,g, .own a::zs=>match a.Z9 τ with
  | some x=>dj l (g x) zs
  | none=>none
 | _,_,_=>none
def KOk(P:Program)(f:FuncId):(l:List PK)->KT l->List Arg->Prop
 | [],x,acc=>x.down.1.ok->bd P f acc (·=x.down.2)
 | .v τ::l,g,acc=>∀ x,KOk P f l (g x) (acc++[.val ⟨τ,x⟩])
 | .r τ::l,g,acc=>∀ x,KOk P f l (g x) (acc++[.ref ⟨τ,x⟩])
 | .f::l,g,acc=>∀ x,KOk P f l (g x) (acc++[.fn x])
 | .c ps r::l,g,acc=>∀ x,KOk P f l (g x) (acc++[.di ⟨ps,r,x⟩])
 | .o τ::l,g,acc=>∀ x,KOk P f l (g x) (acc++[.own ⟨τ,x⟩])
 | .b _::_,_,_=>True
def uB{P:Program}{f:FuncId}:∀ (l:List PK) (g:KT l) (acc zs:List Arg) (pre:Vc) (res:List TV),KOk P f l g acc->dj l g zs=some (pre,res)->pre.ok->bd P f (acc++zs) (·=res)
 | [],g,acc,zs,pre,res,h,e,hp=>by
  cases zs with
  | nil =>
   simp only[dj,b3C] at e;have h':g.down.1.ok->bd P f acc (·=g.down.2):=h;rw[e] at h';rw[b4W];exact h' hp
  | cons a zs=>simp[dj] at e
 | .v τ::l,g,acc,zs,pre,res,h,e,hp=>by
  cases zs with
  | nil=>simp[dj] at e
  | cons a zs =>
   cases a with
   | val a =>
    rw[dj] at e;split at e
    .rename_i x hx;have:=uB l (g x) (acc++[.val ⟨τ,x⟩]) zs pre res (h x) e hp;rw[TV.aW hx];simpa using this
    .cases e
   | ref a=>simp[dj] at e
   | di a=>simp[dj] at e
   | own a=>simp[dj] at e
   | fn a=>simp[dj] at e
   | box a=>simp[dj] at e
 | .r τ::l,g,acc,zs,pre,res,h,e,hp=>by
  cases zs with
  | nil=>simp[dj] at e
  | cons a zs =>
   cases a with
   | ref a =>
    rw[dj] at e;split at e
    .rename_i x hx;have:=uB l (g x) (acc++[.ref ⟨τ,x⟩]) zs pre res (h x) e hp;rw[TV.aW hx];simpa using this
    .cases e
   | val a=>simp[dj] at e
   | di a=>simp[dj] at e
   | own a=>simp[dj] at e
   | fn a=>simp[dj] at e
   | box a=>simp[dj] at e
 | .f::l,g,acc,zs,pre,res,h,e,hp=>by
  cases zs with
  | nil=>simp[dj] at e
  | cons a zs =>
   cases a with
   | fn a =>
    rw[dj] at e;have:=uB l (g a) (acc++[.fn a]) zs pre res (h a) e hp;simpa using this
   | val a=>simp[dj] at e
   | di a=>simp[dj] at e
   | own a=>simp[dj] at e
   | ref a=>simp[dj] at e
   | box a=>simp[dj] at e
 | .c ps r::l,g,acc,zs,pre,res,h,e,hp=>by
  cases zs with
  | nil=>simp[dj] at e
  | cons a zs =>
   cases a with
   | di a =>
    rw[dj] at e;split at e
    .rename_i x hx;have:=uB l (g x) (acc++[.di ⟨ps,r,x⟩]) zs pre res (h x) e hp;rw[FV.aW hx];simpa using this
    .cases e
   | val a=>simp[dj] at e
   | ref a=>simp[dj] at e
   | fn a=>simp[dj] at e
   | own a=>simp[dj] at e
   | box a=>simp[dj] at e
 | .o τ::l,g,acc,zs,pre,res,h,e,hp=>by
  cases zs with
  | nil=>simp[dj] at e
  | cons a zs =>
   cases a with
   | own a =>
    rw[dj] at e;split at e
    .rename_i x hx;have:=uB l (g x) (acc++[.own ⟨τ,x⟩]) zs pre res (h x) e hp;rw[TV.aW hx];simpa using this
    .cases e
   | val a=>simp[dj] at e
   | ref a=>simp[dj] at e
   | fn a=>simp[dj] at e
   | di a=>simp[dj] at e
   | box a=>simp[dj] at e
 | .b k::l,g,acc,zs,pre,res,h,e,hp=>by
  cases zs<;>simp[dj] at e
structure aH where
 n:Nat
 l:List PK
 g:KT l
def aH.Good(c:aH):Prop:=jQ prog c.n/\KOk prog c.n c.l c.g []
def qR:List aH->Nat->List Arg->Option (Vc×List TV)
 | [],_,_=>none
 | c::r,f,zs=>match Nat.beq c.n f with
  | true=>dj c.l c.g zs
  | false=>qR r f zs
def PK.own:PK->Bool
 | .o _=>true
 | _=>false
def a5z:List aH->Nat->List Bool
 | [],_=>[]
 | c::r,f=>match Nat.beq c.n f with
  | true=>match c.l.any PK.own with
   | true=>c.l.map PK.own
   | false=>[]
  | false=>a5z r f
def M3(l:List aH)(wr:List Nat:=[])(cl:List (Nat×vA):=[])(ro:List Nat:=[]):Env:=Env.mk GM VQ (qR l) wr [] (λ _ _=>none) (λ _=>none) (af cl) ro (λ _=>[]) (λ _=>none) (λ _ _ _=>none) QB CV
def aC:List aH->Prop
 | []=>True
 | c::r=>c.Good/\aC r
def RR:∀ (l:List aH),aC l->∀ f args pre res,qR l f args=some (pre,res)->pre.ok->jQ prog f/\bd prog f args (·=res)
 | [],_,f,args,pre,res,e,_=>by cases e
 | c::r,h,f,args,pre,res,e,hp=>by
  rw[qR] at e;split at e
  .rename_i hb;have hb:=b3G hb;subst hb;exact⟨h.1.1,uB c.l c.g [] args pre res h.1.2 e hp⟩
  .exact RR r h.2 f args pre res e hp
def Jr{α:Type}:∀ (l:List (Nat×α)) (n:Nat) (v:α),af l n=some v->(n,v)∈l
 | [],n,v,h=>by cases h
 | (k,u)::r,n,v,h=>by
  rw[af] at h;split at h
  .rename_i hb;cases h;rw[b3G hb];exact b5Z ..
  .exact b5m _ (Jr r n v h)
def RT{l:List aH}{wr:List Nat}{cl:List (Nat×vA)}{ro:List Nat}(h:aC l):bH prog (M3 l wr cl ro) where
 ty T τ b e ht:=by
  have h1:=b4C.mp (b6m.1 (Ky (qR l) wr [] (λ _ _=>none) (λ _=>none) (af cl) ro (λ _=>[]) (λ _=>none) (λ _ _ _=>none) CV)).1 _ (Jr _ _ _ ht);exact h1
 mty T κ ε ht:=by
  have h1:=b4C.mp (b6m.1 (Ky (qR l) wr [] (λ _ _=>none) (λ _=>none) (af cl) ro (λ _=>[]) (λ _=>none) (λ _ _ _=>none) CV)).2 _ (Jr _ _ _ ht);exact h1
 pty _ _ _:=trivial
 RQ:=RR l h
 QF _ _ _ _ h:=by cases h
 mark _ _ h:=by cases h
 XU:=XV
 a0p _ _ _ _ _ _ _ h:=by cases h
def au {f:FuncId} {fn:Func} (h:prog.funcs[f]?=some fn) (hb:fn.body.isNone=false) (hn:(fn.name == "runtime.NumGoroutine")=false):jQ prog f:=⟨fn,h,hb,hn⟩
def qi:∀ {l m:List TV},zz l m->l=m
 | [],[],_=>rfl
 | [v],[u],h=>by rw[kV h]
 | v::v'::vs,[u],h=>by
  have:=qi (l:=v'::vs) (m:=[]) h.2;cases this
 | [v],u::u'::us,h=>by
  have:=qi (l:=[]) (m:=u'::us) h.2;cases this
 | v::v'::vs,u::u'::us,h=>by rw[kV h.1,qi (l:=v'::vs) (m:=u'::us) h.2]
 | [],u::us,h=>by cases h
 | v::vs,[],h=>by
  cases vs<;>cases h
def bd.mono{P:Program}{f:FuncId}{args:List Arg}{p q:List TV->Prop}(h:bd P f args p)(hpq:∀ r,p r->q r):bd P f args q:=by
 intro w S cI hS ha;refine (h w S cI hS ha).mono λ e w'=>?_;rintro⟨x,S',res,h1,h2,h3⟩;exact⟨x,S',res,h1,hpq _ h2,h3⟩
def a4l{f:FuncId}{fn:Func}{dJ:Code}{l:List aH}{wr:List Nat}{cl:List (Nat×vA)}{ro:List Nat}(hl:aC l)(hf:prog.funcs[f]?=some fn)(hb:fn.body=some dJ)(Λ:Nat->aE){args:List Arg}{res:List TV}
  (h:vJ (M3 l wr cl ro) dJ Λ 0 (Aq (M3 l wr cl ro) fn λ r=>zz r res) (dP fn args)):bd prog f args (·=res) :=
 (ZS (RT hl) wx hf hb Λ h).mono λ _=>qi
def zx(P:Program)(f:FuncId):(l:List PK)->KT l->List Arg->Prop
 | [],x,acc=>x.down.1.ok->cY P f acc x.down.2
 | .v τ::l,g,acc=>∀ x,zx P f l (g x) (acc++[.val ⟨τ,x⟩])
 | .r τ::l,g,acc=>∀ x,zx P f l (g x) (acc++[.ref ⟨τ,x⟩])
 | .f::l,g,acc=>∀ x,zx P f l (g x) (acc++[.fn x])
 | .c ps r::l,g,acc=>∀ x,zx P f l (g x) (acc++[.di ⟨ps,r,x⟩])
 | .o τ::l,g,acc=>∀ x,zx P f l (g x) (acc++[.own ⟨τ,x⟩])
 | .b _::_,_,_=>True
def qB{P:Program}{f:FuncId}:∀ (l:List PK) (g:KT l) (acc zs:List Arg) (pre:Vc) (res:List TV),zx P f l g acc->dj l g zs=some (pre,res)->pre.ok->cY P f (acc++zs) res
 | [],g,acc,zs,pre,res,h,e,hp=>by
  cases zs with
  | nil =>
   simp only[dj,b3C] at e;have h':g.down.1.ok->cY P f acc g.down.2:=h;rw[e] at h';rw[b4W];exact h' hp
  | cons a zs=>simp[dj] at e
 | .v τ::l,g,acc,zs,pre,res,h,e,hp=>by
  cases zs with
  | nil=>simp[dj] at e
  | cons a zs =>
   cases a with
   | val a =>
    rw[dj] at e;split at e
    .rename_i x hx;have:=qB l (g x) (acc++[.val ⟨τ,x⟩]) zs pre res (h x) e hp;rw[TV.aW hx];simpa using this
    .cases e
   | ref a=>simp[dj] at e
   | di a=>simp[dj] at e
   | own a=>simp[dj] at e
   | fn a=>simp[dj] at e
   | box a=>simp[dj] at e
 | .r τ::l,g,acc,zs,pre,res,h,e,hp=>by
  cases zs with
  | nil=>simp[dj] at e
  | cons a zs =>
   cases a with
   | ref a =>
    rw[dj] at e;split at e
    .rename_i x hx;have:=qB l (g x) (acc++[.ref ⟨τ,x⟩]) zs pre res (h x) e hp;rw[TV.aW hx];simpa using this
    .cases e
   | val a=>simp[dj] at e
   | di a=>simp[dj] at e
   | own a=>simp[dj] at e
   | fn a=>simp[dj] at e
   | box a=>simp[dj] at e
 | .f::l,g,acc,zs,pre,res,h,e,hp=>by
  cases zs with
  | nil=>simp[dj] at e
  | cons a zs =>
   cases a with
   | fn a =>
    rw[dj] at e;have:=qB l (g a) (acc++[.fn a]) zs pre res (h a) e hp;simpa using this
   | val a=>simp[dj] at e
   | di a=>simp[dj] at e
   | own a=>simp[dj] at e
   | ref a=>simp[dj] at e
   | box a=>simp[dj] at e
 | .c ps r::l,g,acc,zs,pre,res,h,e,hp=>by
  cases zs with
  | nil=>simp[dj] at e
  | cons a zs =>
   cases a with
   | di a =>
    rw[dj] at e;split at e
    .rename_i x hx;have:=qB l (g x) (acc++[.di ⟨ps,r,x⟩]) zs pre res (h x) e hp;rw[FV.aW hx];simpa using this
    .cases e
   | val a=>simp[dj] at e
   | ref a=>simp[dj] at e
   | fn a=>simp[dj] at e
   | own a=>simp[dj] at e
   | box a=>simp[dj] at e
 | .o τ::l,g,acc,zs,pre,res,h,e,hp=>by
  cases zs with
  | nil=>simp[dj] at e
  | cons a zs =>
   cases a with
   | own a =>
    rw[dj] at e;split at e
    .rename_i x hx;have:=qB l (g x) (acc++[.own ⟨τ,x⟩]) zs pre res (h x) e hp;rw[TV.aW hx];simpa using this
    .cases e
   | val a=>simp[dj] at e
   | ref a=>simp[dj] at e
   | fn a=>simp[dj] at e
   | di a=>simp[dj] at e
   | box a=>simp[dj] at e
 | .b k::l,g,acc,zs,pre,res,h,e,hp=>by
  cases zs<;>simp[dj] at e
def aH.bX(c:aH):Prop:=jQ prog c.n/\zx prog c.n c.l c.g []
def DZ.oQ{w:World}{S:Nat->Prop}{v:TV}{x:Value}{fp:List Nat}(h:DZ w v x fp)(hb:∀ b∈fp,S b):eK w S v x:=by
 obtain⟨τ,y⟩:=v;cases τ with
 | st s =>
  obtain⟨cs,h1,h2⟩:=h;exact⟨cs,h1,h2.rd _ hb⟩
 | _=>exact Ow.rd _ h hb
def OM.oQ{w:World}{S:Nat->Prop}:∀ {vs:List TV} {xs:List Value} {fp:List Nat},OM w vs xs fp->(∀ b∈fp,S b)->aV (eK w S) vs xs
 | [],[],_,_,_=>trivial
 | v::vs,x::xs,fp,h,hb=>by
  obtain⟨f1,f2,rfl,h1,h2⟩:=h;exact⟨h1.oQ λ b cz=>hb b (b5N _ cz),OM.oQ h2 λ b cz=>hb b (List.mem_append_right _ cz)⟩
 | [],_::_,_,h,_=>h.elim
 | _::_,[],_,h,_=>h.elim
def cY.plain{P:Program}{f:FuncId}{args:List Arg}{res:List TV}(h:cY P f args res):bd P f args (·=res):=by
 intro w S cI hS ha;refine (h w S cI [] hS (wF.X5 ha) (.inl rfl) b4Q (λ b hb=>by cases hb)).mono ?_;rintro e w' ⟨x,fp,rfl,hk,hr,_,pE⟩;have hn:∀ b∈fp,w.heap.size<=b/\b<w'.heap.size:=λ b hb=>(pE b hb).elim (λ q=>by cases q) id;refine⟨x,λ b=>S b\/b∈fp,res,rfl,rfl,⟨hk.os,hk.tape,hk.output,hk.size,λ b hb _=>hk.block b hb λ q=>by cases q⟩,λ b hb=>⟨λ q=>q.elim id λ q=>absurd (hn b q).1 (by omega), .inl⟩,λ b q=>q.elim (λ q=>b3X (hS.1 b q) hk.size) λ q=>(hn b q).2,?_⟩;match res,hr with
 | [v],hr=>exact DZ.oQ (v:=v) hr λ b hb => .inr hb
 | [],hr =>
  obtain⟨l,h1,h2⟩:=hr;exact⟨l,h1,h2.oQ λ b hb => .inr hb⟩
 | v::u::vs,hr =>
  obtain⟨l,h1,h2⟩:=hr;exact⟨l,h1,h2.oQ λ b hb => .inr hb⟩
def zx.plain{P:Program}{f:FuncId}:∀ (l:List PK) (g:KT l) (acc:List Arg),zx P f l g acc->KOk P f l g acc
 | [],_,_,h=>λ hp=>(h hp).plain
 | .v _::l,g,_,h=>λ x=>zx.plain l (g x) _ (h x)
 | .r _::l,g,_,h=>λ x=>zx.plain l (g x) _ (h x)
 | .f::l,g,_,h=>λ x=>zx.plain l (g x) _ (h x)
 | .c _ _::l,g,_,h=>λ x=>zx.plain l (g x) _ (h x)
 | .o _::l,g,_,h=>λ x=>zx.plain l (g x) _ (h x)
 | .b _::_,_,_,_=>trivial
def aH.bX.plain{k:aH}(h:k.bX):k.Good:=⟨h.1,zx.plain k.l k.g [] h.2⟩
def cO:List aH->Prop
 | []=>True
 | c::r=>c.bX/\cO r
def X4:∀ (l:List aH),cO l->∀ f args pre res,qR l f args=some (pre,res)->pre.ok->jQ prog f/\cY prog f args res
 | [],_,f,args,pre,res,e,_=>by cases e
 | c::r,h,f,args,pre,res,e,hp=>by
  rw[qR] at e;split at e
  .rename_i hb;have hb:=b3G hb;subst hb;exact⟨h.1.1,qB c.l c.g [] args pre res h.1.2 e hp⟩
  .exact X4 r h.2 f args pre res e hp
structure MK where
 n:Nat
 m:DX
def MK.Good(c:MK):Prop:=jQ prog c.n/\J8 prog c.n c.m
def cT:List MK->Prop
 | []=>True
 | c::r=>c.Good/\cT r
def Km:List MK->Nat->Option DX
 | [],_=>none
 | c::r,f=>match Nat.beq c.n f with
  | true=>some c.m
  | false=>Km r f
def XL:∀ (l:List MK),cT l->∀ f m,Km l f=some m->jQ prog f/\J8 prog f m
 | [],_,f,m,e=>by cases e
 | c::r,h,f,m,e=>by
  rw[Km] at e;split at e
  .rename_i hb;have hb:=b3G hb;subst hb;cases e;exact h.1
  .exact XL r h.2 f m e
@[reducible] def KTC:List Ty->Type 1->Type 1
 | [],R=>R
 | t::ts,R=>t.den->KTC ts R
@[reducible] def KTD:List (List Ty)->Type 1
 | []=>ULift (Vc×List TV×List (List TV))
 | ts::D=>KTC ts (KTD D)
@[reducible] def YK:List PK->List (List Ty)->Type 1
 | [],D=>KTD D
 | .v τ::l,D=>τ.den->YK l D
 | .r τ::l,D=>τ.den->YK l D
 | .f::l,D=>FuncId->YK l D
 | .b _::l,D=>YK l D
 | .c _ _::l,D=>YK l D
 | .o _::l,D=>YK l D
def kC:(ts:List Ty)->(R:Type 1)->KTC ts R->List TV->Option R
 | [],_,r,[]=>some r
 | t::ts,R,g,v::vs=>match v.Z9 t with
  | some x=>kC ts R (g x) vs
  | none=>none
 | _,_,_,_=>none
def kD:(D:List (List Ty))->KTD D->List (List TV)->Option (Vc×List TV×List (List TV))
 | [],r,[]=>some r.down
 | ts::D,g,vs::bT=>match kC ts (KTD D) g vs with
  | some h=>kD D h bT
  | none=>none
 | _,_,_=>none
def kS:(l:List PK)->(D:List (List Ty))->YK l D->List Arg->List (List TV)->Option (Vc×List TV×List (List TV))
 | [],D,g,[],bT=>kD D g bT
 | .v τ::l,D,g, .val a::zs,bT=>match a.Z9 τ with
  | some x=>kS l D (g x) zs bT
  | none=>none
 | .r τ::l,D,g, .ref a::zs,bT=>match a.Z9 τ with
  | some x=>kS l D (g x) zs bT
  | none=>none
 | .f::l,D,g, .fn a::zs,bT=>kS l D (g a) zs bT
 | .b k::l,D,g, .box j::zs,bT=>match Nat.beq k j with
  | true=>kS l D g zs bT
  | false=>none
 | _,_,_,_,_=>none
def a6E:(ts:List Ty)->(R:Type 1)->(R->List TV->Prop)->KTC ts R->List TV->Prop
 | [],_,p,r,acc=>p r acc
 | t::ts,R,p,g,acc=>∀ x,a6E ts R p (g x) (acc++[⟨t,x⟩])
def a6F(q:List (List TV)->Vc×List TV×List (List TV)->Prop):(D:List (List Ty))->KTD D->List (List TV)->Prop
 | [],r,acc=>q acc r.down
 | ts::D,g,acc=>a6E ts (KTD D) (λ h vs=>a6F q D h (acc++[vs])) g []
def Zn(P:Program)(f:FuncId)(sh:List (List CK)):(l:List PK)->(D:List (List Ty))->YK l D->List Arg->Prop
 | [],D,g,acc=>a6F (λ bT r=>r.1.ok->qI P f sh acc bT r.2.1 r.2.2) D g []
 | .v τ::l,D,g,acc=>∀ x,Zn P f sh l D (g x) (acc++[.val ⟨τ,x⟩])
 | .r τ::l,D,g,acc=>∀ x,Zn P f sh l D (g x) (acc++[.ref ⟨τ,x⟩])
 | .f::l,D,g,acc=>∀ x,Zn P f sh l D (g x) (acc++[.fn x])
 | .b k::l,D,g,acc=>Zn P f sh l D g (acc++[.box k])
 | .c _ _::_,_,_,_=>True
 | .o _::_,_,_,_=>True
def a7N:∀ (ts:List Ty) (R:Type 1) (p:R->List TV->Prop) (g:KTC ts R) (acc vs:List TV) (r:R),a6E ts R p g acc->kC ts R g vs=some r->p r (acc++vs)
 | [],R,p,g,acc,vs,r,h,e=>by
  cases vs with
  | nil =>
   simp only[kC,b3C] at e;subst e;rw[b4W];exact h
  | cons v vs=>simp[kC] at e
 | t::ts,R,p,g,acc,vs,r,h,e=>by
  cases vs with
  | nil=>simp[kC] at e
  | cons v vs =>
   rw[kC] at e;split at e
   .rename_i x hx;have:=a7N ts R p (g x) (acc++[⟨t,x⟩]) vs r (h x) e;rw[TV.aW hx];simpa using this
   .cases e
def a7O(q:List (List TV)->Vc×List TV×List (List TV)->Prop):∀ (D:List (List Ty)) (g:KTD D) (acc bT:List (List TV)) (r:Vc×List TV×List (List TV)),a6F q D g acc->kD D g bT=some r->q (acc++bT) r
 | [],g,acc,bT,r,h,e=>by
  cases bT with
  | nil =>
   simp only[kD,b3C] at e;subst e;rw[b4W];exact h
  | cons v vs=>simp[kD] at e
 | ts::D,g,acc,bT,r,h,e=>by
  cases bT with
  | nil=>simp[kD] at e
  | cons vs bT =>
   rw[kD] at e;split at e
   .rename_i k hk;have h1:=a7N ts _ _ g [] vs k h hk;have:=a7O q D k (acc++[vs]) bT r (by simpa using h1) e;simpa using this
   .cases e
def Xn{P:Program}{f:FuncId}{sh:List (List CK)}:∀ (l:List PK) (D:List (List Ty)) (g:YK l D) (acc zs:List Arg) (bT:List (List TV)) (pre:Vc) (res:List TV) (eP:List (List TV)),Zn P f sh l D g acc->kS l D g zs bT=some (pre,res,eP)->pre.ok->qI P f sh (acc++zs) bT res eP
 | [],D,g,acc,zs,bT,pre,res,eP,h,e,hp=>by
  cases zs with
  | nil =>
   have:=a7O _ D g [] bT _ h e;simpa using this hp
  | cons z zs=>simp[kS] at e
 | .v τ::l,D,g,acc,zs,bT,pre,res,eP,h,e,hp=>by
  cases zs with
  | nil=>simp[kS] at e
  | cons a zs =>
   cases a with
   | val a =>
    rw[kS] at e;split at e
    .rename_i x hx;have:=Xn l D (g x) (acc++[.val ⟨τ,x⟩]) zs bT pre res eP (h x) e hp;rw[TV.aW hx];simpa using this
    .cases e
   | _=>simp[kS] at e
 | .r τ::l,D,g,acc,zs,bT,pre,res,eP,h,e,hp=>by
  cases zs with
  | nil=>simp[kS] at e
  | cons a zs =>
   cases a with
   | ref a =>
    rw[kS] at e;split at e
    .rename_i x hx;have:=Xn l D (g x) (acc++[.ref ⟨τ,x⟩]) zs bT pre res eP (h x) e hp;rw[TV.aW hx];simpa using this
    .cases e
   | _=>simp[kS] at e
 | .f::l,D,g,acc,zs,bT,pre,res,eP,h,e,hp=>by
  cases zs with
  | nil=>simp[kS] at e
  | cons a zs =>
   cases a with
   | fn a =>
    rw[kS] at e;have:=Xn l D (g a) (acc++[.fn a]) zs bT pre res eP (h a) e hp;simpa using this
   | _=>simp[kS] at e
 | .b k::l,D,g,acc,zs,bT,pre,res,eP,h,e,hp=>by
  cases zs with
  | nil=>simp[kS] at e
  | cons a zs =>
   cases a with
   | box j =>
    rw[kS] at e;split at e
    .rename_i hb;have hb:=Nat.eq_of_beq_eq_true hb;subst hb;have:=Xn l D g (acc++[.box k]) zs bT pre res eP h e hp;simpa using this
    .cases e
   | _=>simp[kS] at e
 | .c _ _::l,D,g,acc,zs,bT,pre,res,eP,h,e,hp=>by cases zs<;>simp[kS] at e
 | .o _::l,D,g,acc,zs,bT,pre,res,eP,h,e,hp=>by cases zs<;>simp[kS] at e
structure fL where
 n:Nat
 sh:List (List CK)
 l:List PK
 D:List (List Ty)
 g:YK l D
def fL.Good(c:fL):Prop:=jQ prog c.n/\Zn prog c.n c.sh c.l c.D c.g []
def cR:List fL->Prop
 | []=>True
 | c::r=>c.Good/\cR r
def a8d:List PK->List (Option Nat)
 | []=>[]
 | .b k::l=>some k::a8d l
 | _::l=>none::a8d l
def a0r:List fL->Nat->Option SK
 | [],_=>none
 | c::r,f=>match Nat.beq c.n f with
  | true=>some ⟨a8d c.l,c.sh⟩
  | false=>a0r r f
def Kr:List fL->Nat->List Arg->List (List TV)->Option (Vc×List TV×List (List TV))
 | [],_,_,_=>none
 | c::r,f,zs,bT=>match Nat.beq c.n f with
  | true=>kS c.l c.D c.g zs bT
  | false=>Kr r f zs bT
def Yp:∀ (l:List fL),cR l->∀ f sk args bT pre res eP,a0r l f=some sk->Kr l f args bT=some (pre,res,eP)->pre.ok->jQ prog f/\qI prog f sk.sh args bT res eP
 | [],_,f,sk,args,bT,pre,res,eP,h,_,_=>by cases h
 | c::r,h,f,sk,args,bT,pre,res,eP,hs,e,hp=>by
  rw[a0r] at hs;rw[Kr] at e;split at e
  .rename_i hb;rw[hb] at hs;have hb:=Nat.eq_of_beq_eq_true hb;subst hb;simp only[Option.some.injEq] at hs;subst hs;exact⟨h.1.1,by simpa using Xn c.l c.D c.g [] args bT pre res eP h.1.2 e hp⟩
  .rename_i hb;rw[hb] at hs;exact Yp r h.2 f sk args bT pre res eP hs e hp
def zW(l:List aH)(ol:List aH)(ml:List MK)(own wr:List Nat)(cl:List (Nat×vA):=[])(ro:List Nat:=[])(sl:List fL:=[]):Env:=Env.mk GM VQ (qR l) wr own (qR ol) (Km ml) (af cl) ro (a5z ol) (a0r sl) (Kr sl) QB CV
def Py{l ol:List aH}{ml:List MK}{own wr:List Nat}{cl:List (Nat×vA)}{ro:List Nat}{sl:List fL}(h:aC l)(ho:cO ol)(hm:cT ml)(hs:cR sl):bH prog (zW l ol ml own wr cl ro sl) where
 ty T τ b e ht:=by
  have h1:=b4C.mp (b6m.1 (Ky (qR l) wr own (qR ol) (Km ml) (af cl) ro (a5z ol) (a0r sl) (Kr sl) CV)).1 _ (Jr _ _ _ ht);exact h1
 mty T κ ε ht:=by
  have h1:=b4C.mp (b6m.1 (Ky (qR l) wr own (qR ol) (Km ml) (af cl) ro (a5z ol) (a0r sl) (Kr sl) CV)).2 _ (Jr _ _ _ ht);exact h1
 pty _ _ _:=trivial
 RQ:=RR l h
 QF:=X4 ol ho
 mark:=XL ml hm
 XU:=XV
 a0p:=Yp sl hs
def a2I{f:FuncId}{fn:Func}{dJ:Code}{l ol:List aH}{ml:List MK}{own wr:List Nat}{cl:List (Nat×vA)}{ro:List Nat}{sl:List fL}(hl:aC l)(ho:cO ol)(hm:cT ml)(hs:cR sl)(hf:prog.funcs[f]?=some fn)(hb:fn.body=some dJ)(Λ:Nat->aE){args:List Arg}{res:List TV}
  (h:vJ (zW l ol ml own wr cl ro sl) dJ Λ 0 (Aq (zW l ol ml own wr cl ro sl) fn λ r=>zz r res) (dP fn args)):bd prog f args (·=res) :=
 (ZS (Py hl ho hm hs) wx hf hb Λ h).mono λ _=>qi
def a2J{f:FuncId}{fn:Func}{dJ:Code}{l ol:List aH}{ml:List MK}{own wr:List Nat}{cl:List (Nat×vA)}{ro:List Nat}{sl:List fL}(hl:aC l)(ho:cO ol)(hm:cT ml)(hs:cR sl)(hf:prog.funcs[f]?=some fn)(hb:fn.body=some dJ)(Λ:Nat->aE){args:List Arg}{res:List TV}
  (h:vJ (zW l ol ml own wr cl ro sl) dJ Λ 0 (JQ (zW l ol ml own wr cl ro sl) fn λ r=>zz r res) (VS fn args)):cY prog f args res :=
 YQ (Py hl ho hm hs) wx hf hb Λ (λ _=>qi) h
def a1f{f:FuncId}{fn:Func}{dJ:Code}{l ol:List aH}{ml:List MK}{own wr:List Nat}{cl:List (Nat×vA)}{ro:List Nat}{sl:List fL}(hl:aC l)(ho:cO ol)(hm:cT ml)(hs:cR sl)(hf:prog.funcs[f]?=some fn)(hb:fn.body=some dJ){m:DX}(Λ:m.τ.den->Int->Nat->aE)(F5:∀ x:m.τ.den,(TV.cells ⟨m.τ,x⟩).length<=50)(hn:2<=fn.ntmps)
  (h:∀ (x:m.τ.den) (k:Int),(m.g x k).1.ok->O k->vJ (zW l ol ml own wr cl ro sl) dJ (Λ x k) 0 (E8 fn m x k) (jb fn ⟨m.τ,x⟩ k)):J8 prog f m :=
 WK (Py hl ho hm hs) wx hf hb Λ F5 hn h
def Vz:List (List TV)->List (List TV)->Prop
 | [],[]=>True
 | a::r,b::q=>zz a b/\Vz r q
 | _,_=>False
def V6:∀ {a b:List (List TV)},Vz a b->a=b
 | [],[],_=>rfl
 | _::_,_::_,h=>by rw[qi h.1,V6 h.2]
 | [],_::_,h=>h.elim
 | _::_,[],h=>h.elim
def Pn(args:List Arg)(n:Nat):Bool:=args.all λ a=>match a with
 | .box k=>Nat.blt k n
 | _=>true
def YM{args:List Arg}{n:Nat}(h:Pn args n=true):∀ k,Arg.box k∈args->k<n:=λ k hk=>by
 unfold Pn at h;rw[List.all_eq_true] at h;exact Nat.le_of_ble_eq_true (h _ hk)
def a4y{f:FuncId}{fn:Func}{dJ:Code}{l ol:List aH}{ml:List MK}{own wr:List Nat}{cl:List (Nat×vA)}{ro:List Nat}{sl:List fL}(hl:aC l)(ho:cO ol)(hm:cT ml)(hs:cR sl)(hf:prog.funcs[f]?=some fn)(hb:fn.body=some dJ)(Λ:Nat->aE){args:List Arg}{sh:List (List CK)}{bT:List (List TV)}{res:List TV}{eP:List (List TV)}
  (HM:Ys sh=true) (RZ:Pn args sh.length=true) (h:vJ (zW l ol ml own wr cl ro sl) dJ Λ 0 (Ks (zW l ol ml own wr cl ro sl) fn sh λ r ds=>zz r res/\Vz ds eP) (dZ fn args sh bT)):qI prog f sh args bT res eP :=
 a0Q (Py hl ho hm hs) wx hf hb Λ (λ _ _ q=>⟨qi q.1,V6 q.2⟩) HM (YM RZ) h
def aU{f:FuncId}{fn:Func}{dJ:Code}{l:List aH}{wr:List Nat}{cl:List (Nat×vA)}{ro:List Nat}(hl:aC l)(hf:prog.funcs[f]?=some fn)(hb:fn.body=some dJ)(Λ:Nat->aE){args:List Arg}{res:List TV}(V:Prop)
  (e:vJ (M3 l wr cl ro) dJ Λ 0 (Aq (M3 l wr cl ro) fn λ r=>zz r res) (dP fn args)=V) (h:V):bd prog f args (·=res) :=
 a4l hl hf hb Λ (Eq.mpr e h)
def X8{f:FuncId}{fn:Func}{dJ:Code}{l ol:List aH}{ml:List MK}{own wr:List Nat}{cl:List (Nat×vA)}{ro:List Nat}{sl:List fL}(hl:aC l)(ho:cO ol)(hm:cT ml)(hs:cR sl)(hf:prog.funcs[f]?=some fn)(hb:fn.body=some dJ)(Λ:Nat->aE){args:List Arg}{res:List TV}(V:Prop)
  (e:vJ (zW l ol ml own wr cl ro sl) dJ Λ 0 (Aq (zW l ol ml own wr cl ro sl) fn λ r=>zz r res) (dP fn args)=V) (h:V):bd prog f args (·=res) :=
 a2I hl ho hm hs hf hb Λ (Eq.mpr e h)
def cj{f:FuncId}{fn:Func}{dJ:Code}{l ol:List aH}{ml:List MK}{own wr:List Nat}{cl:List (Nat×vA)}{ro:List Nat}{sl:List fL}(hl:aC l)(ho:cO ol)(hm:cT ml)(hs:cR sl)(hf:prog.funcs[f]?=some fn)(hb:fn.body=some dJ)(Λ:Nat->aE){args:List Arg}{res:List TV}(V:Prop)
  (e:vJ (zW l ol ml own wr cl ro sl) dJ Λ 0 (JQ (zW l ol ml own wr cl ro sl) fn λ r=>zz r res) (VS fn args)=V) (h:V):cY prog f args res :=
 a2J hl ho hm hs hf hb Λ (Eq.mpr e h)
def wq{f:FuncId}{fn:Func}{dJ:Code}{l ol:List aH}{ml:List MK}{own wr:List Nat}{cl:List (Nat×vA)}{ro:List Nat}{sl:List fL}(hl:aC l)(ho:cO ol)(hm:cT ml)(hs:cR sl)(hf:prog.funcs[f]?=some fn)(hb:fn.body=some dJ){m:DX}(Λ:m.τ.den->Int->Nat->aE)(F5:∀ x:m.τ.den,(TV.cells ⟨m.τ,x⟩).length<=50)(hn:2<=fn.ntmps)(V:m.τ.den->Int->Prop)
  (e:∀ (x:m.τ.den) (k:Int),vJ (zW l ol ml own wr cl ro sl) dJ (Λ x k) 0 (E8 fn m x k) (jb fn ⟨m.τ,x⟩ k)=V x k) (h:∀ (x:m.τ.den) (k:Int),(m.g x k).1.ok->O k->V x k):J8 prog f m :=
 a1f hl ho hm hs hf hb Λ F5 hn λ x k h1 h2=>Eq.mpr (e x k) (h x k h1 h2)
def ig{f:FuncId}{fn:Func}{dJ:Code}{l ol:List aH}{ml:List MK}{own wr:List Nat}{cl:List (Nat×vA)}{ro:List Nat}{sl:List fL}(hl:aC l)(ho:cO ol)(hm:cT ml)(hs:cR sl)(hf:prog.funcs[f]?=some fn)(hb:fn.body=some dJ)(Λ:Nat->aE){args:List Arg}{sh:List (List CK)}{bT:List (List TV)}{res:List TV}{eP:List (List TV)}
  (HM:Ys sh=true) (RZ:Pn args sh.length=true) (V:Prop) (e:vJ (zW l ol ml own wr cl ro sl) dJ Λ 0 (Ks (zW l ol ml own wr cl ro sl) fn sh λ r ds=>zz r res/\Vz ds eP) (dZ fn args sh bT)=V) (h:V):qI prog f sh args bT res eP :=
 a4y hl ho hm hs hf hb Λ HM RZ (Eq.mpr e h)
end Go.Proofs.YtmjfpcajohhbeaaGreatDoor

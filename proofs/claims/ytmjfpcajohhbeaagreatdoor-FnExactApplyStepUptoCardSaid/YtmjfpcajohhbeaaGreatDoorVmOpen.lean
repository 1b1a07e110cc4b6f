/- VmDraw3, VmFrz, VmMix, VmDraw4, VmGuard, VmCode, VmFun, VmOwnFun, VmStFun, VmTab, VmNew, VmUse, VmOpen. -/
import Derived.Test.YtmjfpcajohhbeaaGreatDoorVmDraw2
import Derived.Deep.LoopGhost
import Derived.Test.YtmjfpcajohhbeaaGreatDoorChecked
import Derived.WalkKit
import Derived.Deep.QuietTactic
import Derived.BigQuiet
import Derived.LoopTactic
import Derived.Test.YtmjfpcajohhbeaaGreatDoorRows
import Derived.ProofKit
import Derived.OpenShut
import Derived.JoinedCond
import Derived.Carry
import Derived.ChangeSame
set_option linter.all false
namespace Go.Proofs.YtmjfpcajohhbeaaGreatDoor
def b4e:=@List.any_eq_false
def b2e:=@Array.getElem?_eq_some_iff
def b3h:=@List.eq_nil_iff_forall_not_mem
def b2l:=@Array.size_setIfInBounds
def b2C:=@of_decide_eq_false
def b3n:=@Nat.testBit_two_pow_sub_one
def b4x:=@Classical.not_forall
def b4f:=@Classical.not_imp
def b2R:=@List.mem_append_left
def b4E:=@List.map_congr_left
def b3r:=@List.not_mem_nil
def b4y:=@or_false
def b4m:=@forall_eq_or_imp
def b2j:=@Array.getElem?_eq_none
def b1i:=@Bool.not_eq_true'
def b0M:=@decide_eq_false_iff_not
def b2M:=@List.mem_filterMap
def b4u:=@List.foldl_nil
def b4h:=@Nat.blt_eq
def b1N:=@true_and
def b4n:=@List.filter_cons
def b2i:=@List.mem_filter
def b2s:=@List.mem_of_mem_erase
def b4z:=@List.perm_cons_erase
def b3s:=@List.Sublist.map
def b3W:=@List.erase_sublist
def b2Y:=@List.mem_erase_of_ne
def b0U:=@Bool.not_false
def b2n:=@Bool.true_and
def b4F:=@List.filter_sublist
def b0X:=@Bool.not_true
def b4B:=@Bool.false_or
def b3T:=@Go.wp_mono
def b4v:=@Array.getElem?_toList
def b4r:=@Go.calls_of_wp
def b2O:=@Array.mapM_eq_mapM_toList
def b4s:=@Go.Sem.run_map
def b4a:=@Array.getElem?_append_left
def b3U:=@Bool.and_assoc
def b2v:=@Bool.false_and
def b3Q:=@List.map_eq_nil_iff
def b1a:=@decide_eq_false
def b2E:=@Bool.and_false
def b1A:=@decide_eq_true
def b3t:=@Bool.and_eq_true_iff
theorem Ht{l:List Oper}{D:Nat->Prop}(hD:∀ (k:Nat),D k->∀ (o:Oper),l[k]?=some o->∀ e∈o.after.toList,Region.binds .any e=true->D e.on):∀ (i:Nat) (o:Oper),l[i]?=some o->(∀ e∈o.after.toList,Region.binds .any e=true->D e.on) ->
  ∀ k,Nat.testBit ((cq l []).getD i 0) k=true->D k:=by
 obtain⟨r,h1,h2,h3⟩:=Bi l [];rw[h1];simp only[List.nil_append,List.length_nil,Nat.zero_add] at h3 ⊢;intro i;induction i using Nat.strongRecOn with
 | _ i ih =>
  intro o ho a9y k hk;obtain⟨e,he,hb,h⟩:=h3 i o ho k hk;have hde:=a9y e he hb;rcases h with rfl|⟨bX,h⟩
  .exact hde
  .have hll:i<l.length:=(b1K.1 ho).1;have hp:l[e.on]?=some (l[e.on]'(by omega)):=b1p (by omega);exact ih e.on bX _ hp (λ e' DT cO=>hD e.on hde _ hp e' DT cO) k h
theorem cB{l:List Oper}(h:backward l=true):∀ (i:Nat) (o:Oper),l[i]?=some o->∀ e∈o.after.toList,Region.binds .any e=true->e.on<i:=by
 intro i o ho e he hb;unfold backward at h;rw[List.all_eq_true] at h;have hi:i<l.length:=(List.getElem?_eq_some_iff.1 ho).1;have:=h i (by simpa using hi);rw[ho] at this;simp only[List.all_eq_true] at this;have:=this e he;rw[hb] at this;simpa [Nat.blt_eq] using this
theorem HT:∀ {ds:List (Option Nat)},distinct ds=true->(∀ d∈ds,∃ t,d=some t)/\∀ (j k t:Nat),ds[j]?=some (some t)->ds[k]?=some (some t)->j=k
 | [],_=>⟨by simp,by simp⟩
 | none::_,h=>by cases h
 | some d::r,h=>by
  simp only[distinct] at h;split at h
  .cases h
  .rename_i Z8;obtain⟨h1,h2⟩:=HT h;have lH:∀ x∈r,x≠some d:=by
    intro x hx e;subst e;rw[b4e] at Z8;have:=Z8 _ hx;simp at this
   refine⟨λ x hx=>?_,λ j k t hj hk=>?_⟩
   .rcases b1e.1 hx with rfl|hx
    .exact⟨d,rfl⟩
    .exact h1 x hx
   .cases j with
    | zero =>
     simp at hj;subst hj;cases k with
     | zero=>rfl
     | succ k=>exact absurd rfl (lH _ (List.mem_of_getElem? (by simpa using hk)))
    | succ j =>
     cases k with
     | zero =>
      simp at hk;subst hk;exact absurd rfl (lH _ (List.mem_of_getElem? (by simpa using hj)))
     | succ k=>rw[h2 j k t (by simpa using hj) (by simpa using hk)]
theorem mem_ready{ops:Array Oper}{listed:Array Bool}{i:Nat}(hs:listed.size=ops.size):i∈Region.ready .any ops listed↔∃ o,ops[i]?=some o/\listed.getD i false=false/\∀ e∈o.after.toList,Region.binds .any e=true->listed.getD e.on false=true:=by
 unfold Region.ready;simp only[List.mem_filter,List.mem_range,Bool.and_eq_true,Bool.not_eq_true'];constructor
 .rintro⟨hi,h1,h2⟩;have ho:ops[i]?=some ops[i]:=b1W hi;rw[ho] at h2;simp only[b3A,b4l] at h2;refine⟨_,ho,?_,λ e he hb=>?_⟩
  .have:i<listed.size:=by omega
   simpa [Array.getD_eq_getD_getElem?,this] using h1
  .rw[Array.all_eq_true_iff_forall_mem] at h2;have:=h2 e (by simpa using he);simpa [hb] using this
 .rintro⟨o,ho,h1,h2⟩;have hi:i<ops.size:=(b2e.1 ho).1;refine⟨hi,?_,?_⟩
  .have:i<listed.size:=by omega
   simpa [Array.getD_eq_getD_getElem?,this] using h1
  .rw[ho];simp only[b3A,b4l];rw[Array.all_eq_true_iff_forall_mem];intro e he;cases hb:Region.binds .any e with
   | false=>simp
   | true=>simp[h2 e (by simpa using he) hb]
theorem xp{listed:Array Bool}{i k:Nat}(hi:i<listed.size):(listed.setIfInBounds i true).getD k false=true↔listed.getD k false=true\/k=i:=by
 rw[b1I,b1I,b3R];by_cases h:i=k
 .subst h;simp[hi]
 .simp[h,Ne.symm h]
section
variable {c:Ctx} {G:Gh} {s:ai} {a:Act} {w w':World}
theorem N5(hE:bU c.P c.E){ops:Array Oper}{m:Nat}(e9:backward ops.toList=true)(uD:∀ j o,m<=j->ops.toList[j]?=some o->∀ k,k<j->Nat.testBit ((cq ops.toList []).getD j 0) k=true)
  {Q:ai->Prop} {Q':Exit->Act->World->Prop} (hQ:∀ G s a w,Inv c G s a w->Q s->Q' .normal a w) :
  ∀ (fuel j:Nat) (kn:List (Nat×Bool)) (G:Gh) (s:ai) (a:Act) (w:World) (listed:Array Bool),m<=j->ops.size<=j+fuel->listed.size=ops.size->(∀ k,k<ops.size->(listed.getD k false=true↔k<j)) ->
   Inv c G s a w->iA c.E ops (ops.toList.drop j) kn Q s->wpAny c.P .any ops Q' fuel listed a w:=by
 intro fuel;induction fuel with
 | zero =>
  intro j kn G s a w listed hmj hf dh hl hI hr;have zR:ops.toList.drop j=[]:=b2U (by simp;omega);rw[zR] at hr;refine⟨?_,hQ _ _ _ _ hI hr⟩;apply b3h.2;intro i hi;obtain⟨o,ho,h1,_⟩:=(mem_ready dh).1 hi;have bX:=(b2e.1 ho).1;have:=(hl i bX).2 (by omega);rw[h1] at this;cases this
 | succ fuel ih =>
  intro j kn G s a w listed hmj hf dh hl hI hr;by_cases hj:j<ops.size
  .have ho:ops[j]?=some ops[j]:=b1W hj;have a8c:ops.toList.drop j=ops[j]::ops.toList.drop (j+1):=by
    rw[List.drop_eq_getElem_cons (by simpa using hj)];simp
   rw[a8c] at hr;constructor
   .intro zR;have:j∈Region.ready .any ops listed:=(mem_ready dh).2 ⟨_,ho,by
     cases hb:listed.getD j false with
     | false=>rfl
     | true=>have:=(hl j hj).1 hb;omega,λ e he hb=>by
     have:=cB e9 j ops[j] (by simp) e he hb;exact (hl e.on (by omega)).2 this⟩
    rw[zR] at this;cases this
   .intro i hi;obtain⟨o,cU,h1,h2⟩:=(mem_ready dh).1 hi;have K4:=(b2e.1 cU).1;have YT:j<=i:=by
     rcases b1R i j with h|h
     .have:=(hl i K4).2 h;rw[h1] at this;cases this
     .exact h
    have DV:i=j:=by
     rcases b1R j i with h|h
     .have gT:=Ht (l:=ops.toList) (D:=λ k=>k<j) (λ k hk o' dj e he hb=>by
       have:=cB e9 k o' dj e he hb;omega) i o (by simpa using cU) (λ e he hb=>by
        have bX:=cB e9 i o (by simpa using cU) e he hb;exact (hl e.on (by omega)).1 (h2 e he hb)) j (uD i o (by omega) (by simpa using cU) j h)
      omega
     .omega
    subst DV;have hoe:o=ops[i]:=by rw[ho] at cU;exact (b3y cU).symm
    have zT:∀ k,k<ops.size->((listed.setIfInBounds i true).getD k false=true↔k<i+1):=λ k hk=>by
     rw[xp (by omega),hl k hk];omega
    unfold wpOp;simp only[ho];have pW:=EO hE hI hr;split at pW
    .rename_i hw;rw[b1q hw];exact .inl (b2q (λ a' w' ⟨G',s',tp,h1,h2⟩=>ih (i+1) tp G' s' a' w' _ (by omega) (by omega) (by rw[b2l];exact dh) zT h1 h2) (pW Q'))
    .rename_i hw;rw[b0Y hw];obtain⟨G',s',tp,h1,h2⟩:=pW;exact ih (i+1) tp G' s' _ w _ (by omega) (by omega) (by rw[b2l];exact dh) zT h1 h2
  .have zR:ops.toList.drop j=[]:=b2U (by simp;omega);rw[zR] at hr;have tm:Region.ready .any ops listed=[]:=by
    apply b3h.2;intro i hi;obtain⟨o,ho,h1,_⟩:=(mem_ready dh).1 hi;have bX:=(b2e.1 ho).1;have:=(hl i bX).2 (by omega);rw[h1] at this;cases this
   exact⟨λ _=>hQ _ _ _ _ hI hr,λ i hi=>by rw[tm] at hi;cases hi⟩
theorem K0{l:List Oper}{ops:Array Oper}(hl:ops.toList=l){bits:Nat}{o:Oper}{Kz:Bool}(h:Inv c G s a w)(hg:jN l bits s o Kz):Region.wanted o (yielded ops a.tmps)=Kz:=by
 unfold jN at hg;split at hg
 .rename_i hn;simp[Region.wanted,hn,hg]
 .rename_i g want hn;obtain⟨t,v,h1,_,h3,h4⟩:=hg;have hx:=bI h (.tmp t);rw[h3] at hx;have hs:zL ops g=some t:=by
   unfold zL;rw[<-h1];unfold cS;rw[<-hl];simp
  unfold GV at h4;split at h4
  .have hy:=Ml (s:=s) hs hx;simp[Region.wanted,hn,hy,h4]
  .have hy:=H7 (s:=s) hs hx;simp[Region.wanted,hn,hy,h4]
  .exact h4.elim
theorem a0W(hE:bU c.P c.E){ops:Array Oper}{m:Nat}{es:List Qa}{s0:ai}(e9:backward ops.toList=true)(hm:m<=ops.size)
  (uD:∀ j o,m<=j->ops.toList[j]?=some o->∀ k,k<j->Nat.testBit ((cq ops.toList []).getD j 0) k=true)
  (uE:∀ j k t,j<m->k<m->cS ops.toList j=some t->cS ops.toList k=some t->j=k)
  (a4Z:∀ i o,i<m->ops.toList[i]?=some o->T3 c.E ops.toList m ((cq ops.toList []).getD i 0) (fk ops.toList es s0 (List.range i)) o (es.getD i ⟨false, .any,none⟩))
  (Mp:∀ i o,i<m->ops.toList[i]?=some o->xL o.dst=true) (vK:∀ i o t,i<m->ops.toList[i]?=some o->zB o.op=true->o.dst=some t->s0.ah t=none)
  {Q:ai->Prop} {Q':Exit->Act->World->Prop} (hQ:∀ G s a w,Inv c G s a w->Q s->Q' .normal a w) {kn:List (Nat×Bool)} (K2:∀ G a w,Inv c G (fk ops.toList es s0 (List.range m)) a w->iA c.E ops (ops.toList.drop m) kn Q (fk ops.toList es s0 (List.range m))) :
  ∀ (fuel:Nat) (π:List Nat) (G:Gh) (a:Act) (w:World) (listed:Array Bool),ops.size=π.length+fuel->π.Nodup->(∀ k∈π,k<m)->listed.size=ops.size->(∀ k,k<ops.size->(listed.getD k false=true↔k∈π)) ->
   (∀ k∈π,∀ o,ops.toList[k]?=some o->∀ e∈o.after.toList,Region.binds .any e=true->e.on∈π)->Inv c G (fk ops.toList es s0 π) a w->wpAny c.P .any ops Q' fuel listed a w:=by
 intro fuel;induction fuel with
 | zero =>
  intro π G a w listed hf hn bX dh hl zO hI;have hlen:=ze m π hn bX;have ph:∀ k,k<m->k∈π:=λ k hk=>by
   cases hb:decide (k∈π) with
   | true=>exact b1z hb
   | false =>
    have:=ze m (k::π) (b1G.2 ⟨b2C hb,hn⟩) (λ j hj=>by
     rcases b1e.1 hj with rfl|hj
     .exact hk
     .exact bX j hj)
    simp at this;omega
  suffices A5:Inv c G (fk ops.toList es s0 (List.range m)) a w from N5 hE e9 uD hQ 0 m kn G (fk ops.toList es s0 (List.range m)) a w listed (b1E _) (by omega) dh (λ k hk=>by rw[hl k hk];exact⟨bX k,ph k⟩) A5 (K2 G a w A5)
  have heq:∀ t,(fk ops.toList es s0 π).sl t=(fk ops.toList es s0 (List.range m)).sl t/\(fk ops.toList es s0 π).ah t=(fk ops.toList es s0 (List.range m)).ah t:=λ t =>
   Wc (bits:=2 ^ m - 1) uE bX (by simp) hn List.nodup_range (λ k hk _=>⟨ph k hk,by simpa using hk⟩) t (by
    unfold hidden;rw[List.any_eq_false];intro k hk;simp only[List.mem_range] at hk;split
    .split
     .simp[b3n,hk]
     .simp
    .simp)
  unfold Inv at hI ⊢;rw[OZ] at hI ⊢;rw[<-funext λ t=>(heq t).1,<-funext λ t=>(heq t).2];exact hI
 | succ fuel ih =>
  intro π G a w listed hf hn bX dh hl zO hI;by_cases ph:∀ k,k<m->k∈π
  .suffices A5:Inv c G (fk ops.toList es s0 (List.range m)) a w from N5 hE e9 uD hQ (fuel+1) m kn G (fk ops.toList es s0 (List.range m)) a w listed (b1E _) (by have:=ze m π hn bX;omega) dh (λ k hk=>by rw[hl k hk];exact⟨bX k,ph k⟩) A5 (K2 G a w A5)
   have heq:∀ t,(fk ops.toList es s0 π).sl t=(fk ops.toList es s0 (List.range m)).sl t/\(fk ops.toList es s0 π).ah t=(fk ops.toList es s0 (List.range m)).ah t:=λ t =>
    Wc (bits:=2 ^ m - 1) uE bX (by simp) hn List.nodup_range (λ k hk _=>⟨ph k hk,by simpa using hk⟩) t (by
     unfold hidden;rw[List.any_eq_false];intro k hk;simp only[List.mem_range] at hk;split
     .split
      .simp[b3n,hk]
      .simp
     .simp)
   unfold Inv at hI ⊢;rw[OZ] at hI ⊢;rw[<-funext λ t=>(heq t).1,<-funext λ t=>(heq t).2];exact hI
  ·
   have hex:∃ k,k<m/\k∉π/\∀ j,j<k->j∈π:=by
    have:∀ n,(∃ k,k<n/\k<m/\k∉π)->∃ k,k<m/\k∉π/\∀ j,j<k->j∈π:=by
     intro n;induction n with
     | zero=>rintro⟨k,hk,_⟩;omega
     | succ n ihn =>
      rintro⟨k,hk,hkm,CH⟩;by_cases hs:∃ k,k<n/\k<m/\k∉π
      .exact ihn hs
      .refine⟨k,hkm,CH,λ j hj=>?_⟩;cases hb:decide (j∈π) with
       | true=>exact b1z hb
       | false=>exact absurd ⟨j,by omega,by omega,b2C hb⟩ hs
    refine this m ?_;have h1:∃ k,¬ (k<m->k∈π):=b4x.1 ph;obtain⟨k,hk⟩:=h1;have h2:=b4f.1 hk;exact⟨k,h2.1,h2.1,h2.2⟩
   obtain⟨k0,a2F,wT,a0h⟩:=hex;have a0e:ops[k0]?=some (ops[k0]'(by omega)):=b1W (by omega);constructor
   .intro zR;have:k0∈Region.ready .any ops listed:=(mem_ready dh).2 ⟨_,a0e,by
     cases hb:listed.getD k0 false with
     | false=>rfl
     | true=>exact absurd ((hl k0 (by omega)).1 hb) wT,λ e he hb=>by
     have a0g:=cB e9 k0 ops[k0] (by simp) e he hb;exact (hl e.on (by omega)).2 (a0h e.on a0g)⟩
    rw[zR] at this;cases this
   .intro i hi;obtain⟨o,cU,h1,h2⟩:=(mem_ready dh).1 hi;have K4:=(Array.getElem?_eq_some_iff.1 cU).1;have gn:ops.toList[i]?=some o:=by simpa using cU
    have yP:i∉π:=λ hh=>by
     have:=(hl i K4).2 hh;rw[h1] at this;cases this
    have U2:∀ e∈o.after.toList,Region.binds .any e=true->e.on∈π:=λ e he hb=>by
     have a0g:=cB e9 i o gn e he hb;exact (hl e.on (by omega)).1 (h2 e he hb)
    have F9:=Ht (l:=ops.toList) (D:=λ k=>k∈π) (λ k hk o' dj e he hb=>zO k hk o' dj e he hb) i o gn U2;have wS:i<m:=by
     rcases b1R i m with h|h
     .exact h
     .exact absurd (F9 k0 (uD i o h gn k0 (by omega))) wT
    have OE:=Ht (l:=ops.toList) (D:=λ k=>k<i) (λ k hk o' dj e he hb=>by
     have:=cB e9 k o' dj e he hb;omega) i o gn (λ e he hb=>cB e9 i o gn e he hb)
    have My:=λ t hh=>Wc (l:=ops.toList) (es:=es) (s0:=s0) (m:=m) (bits:=(cq ops.toList []).getD i 0) (π:=π) (π':=List.range i) uE bX (by intro k hk;simp at hk;omega) hn b3J
     (λ k hk hb=>⟨F9 k hb,by simpa using OE k hb⟩) t hh
    obtain⟨hg,c9,a1B⟩:=a4Z i o wS gn;have dx:WK ops.toList m ((cq ops.toList []).getD i 0) (fk ops.toList es s0 (List.range i))=WK ops.toList m ((cq ops.toList []).getD i 0) (fk ops.toList es s0 π):=by
     funext x;cases x with
     | tmp t =>
      simp only[WK];split
      .rfl
      .rename_i hh;exact ((My t hh).1).symm
     | _=>rfl
    have cY:S6 ops.toList m ((cq ops.toList []).getD i 0) (fk ops.toList es s0 (List.range i))=S6 ops.toList m ((cq ops.toList []).getD i 0) (fk ops.toList es s0 π):=by
     funext t;simp only[S6];split
     .rfl
     .rename_i hh;exact ((My t hh).2).symm
    have hg':jN ops.toList ((cq ops.toList []).getD i 0) (fk ops.toList es s0 π) o (es.getD i ⟨false, .any,none⟩).Kz:=by
     unfold jN at hg ⊢;split
     .rename_i CI;simpa [CI] using hg
     .rename_i g want CI;simp only[CI] at hg;obtain⟨t,b,q1,q2,q3,q4⟩:=hg;refine⟨t,b,q1,q2,?_,q4⟩;have hgm:g<m:=Nat.lt_trans (OE g q2) wS;have hh:hidden ops.toList m ((cq ops.toList []).getD i 0) t=false:=by
       unfold hidden;rw[List.any_eq_false];intro k hk;simp only[List.mem_range] at hk;split
       .rename_i d hd;split
        .rename_i Ia;have Ia:=b0P Ia;subst Ia;have:=uE k g d hk hgm hd q1;subst this;rw[q2];simp
        .simp
       .simp
      exact ((My t hh).1).trans q3
    have hw:=K0 (ops:=ops) rfl hI hg';have zP:∀ (G':Gh) (a':Act) (w':World),Inv c G' (fk ops.toList es s0 (π++[i])) a' w'->wpAny c.P .any ops Q' fuel (listed.setIfInBounds i true) a' w':=by
     intro G' a' w' A5;refine ih (π++[i]) G' a' w' _ (by simp;omega) ?_ ?_ (by rw[b2l];exact dh) ?_ ?_ A5
     .rw[b1k];exact⟨hn,by simp,λ x hx y hy=>by simp at hy;subst hy;exact λ e=>yP (e ▸ hx)⟩
     .intro k hk;rcases b0Q.1 hk with hk|hk
      .exact bX k hk
      .simp at hk;omega
     .intro k hk;rw[xp (by omega),hl k hk];simp
     .intro k hk o' dj e he hb;rcases b0Q.1 hk with hk|hk
      .exact b2R _ (zO k hk o' dj e he hb)
      .simp at hk;subst hk;rw[gn] at dj;simp only[b0L] at dj;subst dj;exact b2R _ (U2 e he hb)
    have QA:cS ops.toList i=o.dst:=by simp[cS,gn]
    unfold wpOp;simp only[cU];cases OP:(es.getD i ⟨false, .any,none⟩).Kz with
    | true =>
     rw[OP] at hw;rw[b1q hw];obtain⟨vc,hq,fZ⟩:=c9 OP;rw[dx,cY] at hq;refine .inl (b2q ?_ (MZ hE hI (lk':=S6 ops.toList m ((cq ops.toList []).getD i 0) (fk ops.toList es s0 π)) ?_ ?_ hq fZ))
     .intro a' w' hd;obtain⟨G',so⟩:=Sk hI (Mp i o wS gn) (λ t ob Ia SZ=>by
       rw[SZ] at hq;have hcr:=Ps hq;have h0:=vK i o t wS gn hcr Ia;have DW:=(kh ops.toList es t π s0 (λ k hk hkd=>by
        have:=uE k i t (bX k hk) wS hkd (by rw[QA];exact Ia);subst this;exact yP hk)).2
       rw[DW,h0]) hd
      refine zP G' a' w' ?_;rw[zf,QA];exact so
     .intro id ob bm;unfold S6 at bm;split at bm
      .cases bm
      .exact bm
     .intro x;cases x with
      | tmp t =>
       simp only[WK];split
       .trivial
       .exact bI hI (.tmp t)
      | const v=>exact bI hI (.const v)
      | global g=>exact bI hI (.global g)
      | func f=>exact bI hI (.func f)
    | false =>
     rw[OP] at hw;rw[hw];obtain⟨hv,SZ⟩:=a1B OP;refine zP G _ w ?_;rw[zf,QA,hv,SZ,QJ];exact Inv.put (v := .fO) hI rfl
theorem Vq{l:List Oper}{K:Prop}(h:Inv c G s a w):zd l s K->K:=by
 induction l with
 | nil=>exact λ h=>h
 | cons o r ih =>
  intro hk;simp only[zd] at hk;split at hk
  .exact ih (Jv (h.aE _) hk)
  .exact ih hk
theorem Un(hE:bU c.P c.E)(lE:c.P.follows .mixedOrders=true){id:Nat}{ops:Array Oper}{Q:ai->Prop}{Q':Exit->Act->World->Prop}(hQ:∀ G s a w,Inv c G s a w->Q s->Q' .normal a w)
  (h:Inv c G s a w) (hd:Um c.E ops Q s):(Code.region id ops true).wp c.P Q' a w:=by
 unfold Um at hd;simp only at hd;split at hd;case h_2=>exact hd.elim
 case h_1 hb =>
  simp only[Bool.and_eq_true] at hb;obtain⟨OF,E7,e9⟩:=hb;obtain⟨r,ha1,ha2,_⟩:=Bi ops.toList [];have UY:(cq ops.toList []).length=ops.size:=by rw[ha1];simpa using ha2
  obtain⟨hm1,_,hm3⟩:=C5 (cq ops.toList []) 0 0 (b1E _);simp only[b2W] at hm1 hm3;rw[UY] at hm1;generalize hmd:sH (cq ops.toList []) 0 0=m at *
  have uD:∀ j o,m<=j->ops.toList[j]?=some o->∀ k,k<j->Nat.testBit ((cq ops.toList []).getD j 0) k=true:=by
   intro j o hmj ho k hk;have hj:j<ops.size:=by have:=(List.getElem?_eq_some_iff.1 ho).1;simpa using this
   have hg:(cq ops.toList [])[j]?=some ((cq ops.toList [])[j]'(by omega)):=List.getElem?_eq_getElem (by omega);have:=hm3 j _ hg hmj;rw[List.getD_eq_getElem?_getD,hg,Option.getD_some,show (cq ops.toList [])[j]'(by omega)=2 ^ j - 1 by omega,Nat.testBit_two_pow_sub_one];simpa using hk
  obtain⟨_,QA⟩:=HT E7;have uE:∀ j k t,j<m->k<m->cS ops.toList j=some t->cS ops.toList k=some t->j=k:=by
   have get:∀ j t,j<m->cS ops.toList j=some t->((ops.toList.take m).map (·.dst))[j]?=some (some t):=by
    intro j t hj OL;unfold cS at OL;simp only[Option.bind_eq_some_iff] at OL;obtain⟨o,ho,hot⟩:=OL;rw[List.getElem?_map,List.getElem?_take,if_pos hj,ho];simp[hot]
   intro j k t hj hk OL hkt;exact QA j k t (get j t hj OL) (get k t hk hkt)
  obtain⟨es,tp,s',GY,hq⟩:=wz hd;have hlen:(ops.toList.take m).length=m:=by simp;omega
  have zS:∀ j o,(ops.toList.take m)[j]?=some o->ops.toList[0+j]?=some o:=λ j o ho=>by
   rw[b2p] at ho;split at ho
   .simpa using ho
   .cases ho
  obtain⟨ht1,ht2⟩:=Yg (ops.toList.take m) 0 es [] _ s' GY zS rfl rfl;simp only[b1F,b2W,hlen] at ht1 ht2;subst ht2;have hI0:Inv c G ((ops.toList.take m).foldl ai.fresh s) a w.drew:=E6 _ (bH.drew h);refine wp_region_any lE ?_;refine a0W hE (m:=m) (es:=es) (s0:=(ops.toList.take m).foldl ai.fresh s) e9 hm1 uD uE ?_ (λ i o wS ho=>b1L.1 OF o (b2o (by rw[b2p,b1q wS];exact ho))) ?_ hQ (kn:=tp) (λ G a w hI=>Vq hI hq) ops.size [] G a _ _ (by simp) (by simp) (by simp) (by simp) ?_ (by simp) hI0
  .intro i o wS ho;exact ht1 i o (by rw[b2p,b1q wS];exact ho)
  .intro i o t wS ho hc Ia;exact (CE (ops.toList.take m) s t).2 o (b2o (by rw[b2p,b1q wS];exact ho)) hc Ia
  .intro k hk;simp[hk]
end
section
variable {w w':World}
theorem T0.ctx{c c':Ctx}{S:Nat->Prop}{v:Arg}{x:Value}(h:T0 c S w v x)(cI:∀ b,St c S b->St c' S b):T0 c' S w v x:=by
 cases v with
 | ref v=>obtain⟨b,o,cs,h1,h2,h3⟩:=h;exact⟨b,o,cs,h1,cI b h2,h3⟩
 | val v=>exact h
 | fn f=>exact h
 | dO v=>exact h
 | own v=>exact h
 | box k=>exact h
theorem C1.ctx{c c':Ctx}(hP:c'.P=c.P){G:Gh}{lk:Nat->Option aG}{v:AV}{x:Value}(h:C1 c G lk w v x)(cI:∀ b,St c G.S b->St c' G.S b):C1 c' G lk w v x:=by
 cases v with
 | dH v=>obtain⟨b,o,cs,h1,h2,h3⟩:=h;exact⟨b,o,cs,h1,cI b h2,h3⟩
 | me v=>obtain⟨f,jP,l,h1,h2,h3⟩:=h;exact⟨f,jP,l,h1,hP ▸ h2,h3.imp λ _ _ _ q=>q.ctx cI⟩
 | _=>exact h
theorem TR.ctx{c c':Ctx}(hP:c'.P=c.P){G:Gh}{lk:Nat->Option aG}{v:AV}{x:Value}(h:TR c G lk w v x)(cI:∀ b,St c G.S b->St c' G.S b):TR c' G lk w v x:=by
 cases v with
 | aD id=>exact (show C1 c G lk w (.aD id) x from h).ctx hP cI
 | dH v=>exact (show C1 c G lk w (.dH v) x from h).ctx hP cI
 | agg cs=>obtain⟨l,h1,h2⟩:=h;exact⟨l,h1,h2.imp λ _ _ _ q=>q.ctx hP cI⟩
 | aT v=>exact h
 | any=>trivial
 | _=>exact h.elim
theorem CR.ctx{c c':Ctx}(hP:c'.P=c.P){G:Gh}{lk:Nat->Option aG}{v:AV}{x:Value}(h:CR c G lk w v x)(cI:∀ b,St c G.S b->St c' G.S b):CR c' G lk w v x:=by
 cases v with
 | aT v=>exact h
 | agg cs=>obtain⟨l,h1,h2⟩:=h;exact⟨l,h1,h2.imp λ _ _ _ q=>q.ctx hP cI⟩
 | any=>exact (show C1 c G lk w (.any) x from h).ctx hP cI
 | fO=>exact (show C1 c G lk w (.fO) x from h).ctx hP cI
 | nil=>exact (show C1 c G lk w (.nil) x from h).ctx hP cI
 | dH v=>exact (show C1 c G lk w (.dH v) x from h).ctx hP cI
 | ptr i o=>exact (show C1 c G lk w (.ptr i o) x from h).ctx hP cI
 | row i=>exact (show C1 c G lk w (.row i) x from h).ctx hP cI
 | gp i j o=>exact (show C1 c G lk w (.gp i j o) x from h).ctx hP cI
 | mI vs=>exact (show C1 c G lk w (.mI vs) x from h).ctx hP cI
 | fn f=>exact (show C1 c G lk w (.fn f) x from h).ctx hP cI
 | aD i=>exact (show C1 c G lk w (.aD i) x from h).ctx hP cI
 | sub i j o z=>exact (show C1 c G lk w (.sub i j o z) x from h).ctx hP cI
 | gQ i j o z=>exact (show C1 c G lk w (.gQ i j o z) x from h).ctx hP cI
 | dO f cs=>exact (show C1 c G lk w (.dO f cs) x from h).ctx hP cI
 | me v=>exact (show C1 c G lk w (.me v) x from h).ctx hP cI
 | mp i=>exact (show C1 c G lk w (.mp i) x from h).ctx hP cI
theorem VR.ctx{c c':Ctx}(hP:c'.P=c.P){G:Gh}{lk:Nat->Option aG}{v:AV}{x:Value}(h:VR c G lk w v x)(cI:∀ b,St c G.S b->St c' G.S b):VR c' G lk w v x:=by
 cases v with
 | aT v=>exact h
 | agg cs=>obtain⟨l,h1,h2⟩:=h;exact⟨l,h1,h2.imp λ _ _ _ q=>q.ctx hP cI⟩
 | mI vs=>obtain⟨l,h1,h2⟩:=h;exact⟨l,h1,h2.imp λ _ _ _ q=>q.ctx hP cI⟩
 | dO f cs=>obtain⟨l,h1,h2⟩:=h;exact⟨l,h1,h2.imp λ _ _ _ q=>q.ctx hP cI⟩
 | any=>exact (show C1 c G lk w (.any) x from h).ctx hP cI
 | fO=>exact (show C1 c G lk w (.fO) x from h).ctx hP cI
 | nil=>exact (show C1 c G lk w (.nil) x from h).ctx hP cI
 | dH v=>exact (show C1 c G lk w (.dH v) x from h).ctx hP cI
 | ptr i o=>exact (show C1 c G lk w (.ptr i o) x from h).ctx hP cI
 | row i=>exact (show C1 c G lk w (.row i) x from h).ctx hP cI
 | gp i j o=>exact (show C1 c G lk w (.gp i j o) x from h).ctx hP cI
 | fn f=>exact (show C1 c G lk w (.fn f) x from h).ctx hP cI
 | aD i=>exact (show C1 c G lk w (.aD i) x from h).ctx hP cI
 | sub i j o z=>exact (show C1 c G lk w (.sub i j o z) x from h).ctx hP cI
 | gQ i j o z=>exact (show C1 c G lk w (.gQ i j o z) x from h).ctx hP cI
 | me v=>exact (show C1 c G lk w (.me v) x from h).ctx hP cI
 | mp i=>exact (show C1 c G lk w (.mp i) x from h).ctx hP cI
theorem OR.ctx{c c':Ctx}(hP:c'.P=c.P){G:Gh}{lk:Nat->Option aG}{id:Nat}{o:aG}(h:OR c G lk w id o)(cI:∀ b,St c G.S b->St c' G.S b):OR c' G lk w id o:=by
 cases o with
 | box cs=>obtain⟨b,l,t,h1,h2,h3⟩:=h;exact⟨b,l,t,h1,h2,h3.imp λ _ _ _ q=>q.ctx hP cI⟩
 | row e τ xs=>exact h
 | aD τ xs=>exact h
 | map m=>exact h
def Ctx.fz(c:Ctx)(w:World)(S:Nat->Prop)(Z:Nat->Prop):Ctx :=
 { c with w0:=w,X:=λ b=>((c.w0.heap.size<=b/\b<w.heap.size)\/c.X b)/\¬ Z b,S0:=S,Z:=λ b=>Z b\/c.Z b }
theorem Inv.fz{c:Ctx}{G:Gh}{s:ai}{a:Act}(h:Inv c G s a w){Z:Nat->Prop}(hZ:∀ b,Z b->yF c G s.ah w b):Inv (c.fz w G.S Z) G s a w:=by
 have cI:∀ b,St c G.S b->St (c.fz w G.S Z) G.S b:=λ b hb=>by
  rcases hb with hb|⟨h1,h2,h3⟩
  .exact .inl hb
  .refine .inr ⟨b1c h1 h.bd.size,λ q=>q.1.elim (λ q=>by omega) h2,λ q=>q.elim (λ z=>(hZ b z).1.elim (λ q=>by omega) h2) h3⟩
 exact {
  defers:=h.defers,size:=h.size
  bd:=bV.refl _ _
  oB:=⟨λ b hb=>hb.1.elim (λ q=>q.2) λ q=>b1c (h.oB.1 b q) h.bd.size,λ g hg=>by
   obtain⟨_,h2,h3,_⟩:=h.oB.2 g hg;obtain⟨g1,g2⟩:=h.sOk.2 g hg;exact⟨g1,λ q=>q.1.elim (λ q=>by omega) h2,h.eV g g1,g2⟩⟩
  gh:=λ b _ _=>b2L
  sX:=λ b hb=>hb
  eV:=h.eV
  aE:=λ i=>(h.aE i).ctx (c:=c) (c':=c.fz w G.S Z) rfl cI
  aR:=λ id o ho=>(h.aR id o ho).ctx (c:=c) (c':=c.fz w G.S Z) rfl cI
  place:=λ id o b ho hb=>by
   obtain⟨h1,h2,h3⟩:=h.place id o b ho hb;exact⟨.inr ⟨h1.imp (λ q=>⟨q,h3⟩) (λ q=>q),λ z=>(hZ b z).2.2.2.1 id o ho hb⟩,h2,h3⟩
  apart:=h.apart
  aW:={
   tr:=h.aW.tr,nd:=h.aW.nd,ap:=h.aW.ap
   pl:=λ id τ xs b ht hb=>by
    obtain⟨h1,h2,h3,h4⟩:=h.aW.pl id τ xs b ht hb;exact⟨.inr ⟨h1.imp (λ q=>⟨q,h3⟩) (λ q=>q),λ z=>(hZ b z).2.2.2.2 id τ xs ht hb⟩,h2,h3,h4⟩ }
  root:=h.root,mG:=h.mG,ep:=h.ep,hH:=h.hH }
theorem Inv.b0h{c:Ctx}{G:Gh}{s:ai}{a:Act}{G':Gh}{s':ai}{a':Act}(h:Inv c G s a w){Z:Nat->Prop}(hZ:∀ b,Z b->yF c G s.ah w b)(h':Inv (c.fz w G.S Z) G' s' a' w') :
  Inv c G' s' a' w'/\∀ b,Z b->w'.heap[b]?=w.heap[b]?/\yF c G' s'.ah w' b:=by
 have cI:∀ b,St (c.fz w G.S Z) G'.S b->St c G'.S b:=λ b hb=>by
  rcases hb with hb|⟨h1,h2,h3⟩
  .exact .inl hb
  .have hz:¬ Z b:=λ z=>h3 (.inl z);refine .inr ⟨?_,λ q=>h2 ⟨.inr q,hz⟩,λ q=>h3 (.inr q)⟩;rcases b1R b c.w0.heap.size with q|q
   .exact q
   .exact absurd ⟨.inl ⟨q,h1⟩,hz⟩ h2
 have back:∀ b,(w.heap.size<=b\/(c.fz w G.S Z).X b)->c.w0.heap.size<=b\/c.X b:=λ b hb=>by
  have:=h.bd.size;exact hb.elim (λ q => .inl (by omega)) λ q=>q.1.elim (λ q => .inl q.1) .inr
 refine⟨{
  defers:=h'.defers,size:=h'.size
  bd:=h.bd.trans h'.bd λ i hi hx=>hx.1.elim (λ q=>by omega) (λ q=>q)
  oB:=h.oB
  gh:=λ b hb hx=>(h'.gh b (b1c hb h.bd.size) (λ q=>q.1.elim (λ q=>by omega) hx)).trans (h.gh b hb hx)
  sX:=λ b hb=>h'.sX b (h.sX b hb)
  eV:=h'.eV
  aE:=λ i=>(h'.aE i).ctx (c:=c.fz w G.S Z) (c':=c) rfl cI
  aR:=λ id o ho=>(h'.aR id o ho).ctx (c:=c.fz w G.S Z) (c':=c) rfl cI
  place:=λ id o b ho hb=>by
   obtain⟨h1,h2,h3⟩:=h'.place id o b ho hb;exact⟨back b h1,h2,h3⟩
  apart:=h'.apart
  aW:={
   tr:=h'.aW.tr,nd:=h'.aW.nd,ap:=h'.aW.ap
   pl:=λ id τ xs b ht hb=>by
    obtain⟨h1,h2,h3,h4⟩:=h'.aW.pl id τ xs b ht hb;exact⟨back b h1,h2,h3,h4⟩ }
  root:=h'.root,mG:=h'.mG,ep:=h'.ep,hH:=h'.hH },λ b z=>?_⟩
 obtain⟨z1,z2,z3,z4,z5⟩:=hZ b z;have U9:¬ (c.fz w G.S Z).X b:=λ q=>q.2 z;have lH:¬ (w.heap.size<=b\/(c.fz w G.S Z).X b):=λ q=>q.elim (λ q=>by omega) U9;exact⟨h'.bd.block b z3 U9,z1,λ q=>z2 ((h'.gh b z3 U9).1 q),b1c z3 h'.bd.size,λ i o cU hb=>lH (h'.place i o b cU hb).1,λ j τ xs hj hb=>lH (h'.aW.pl j τ xs b hj hb).1⟩
end
theorem Ak{α β:Type}{f g:α->β}{l:Array α}(h:∀ x∈l.toList,f x=g x):l.map f=l.map g:=by
 apply b4w;rw[b2K,b2K];exact b4E h
theorem execOp_congr{o:Oper}{ρ ρ':Operand->Value}{l:List Operand}(h:Zj o.op=some l)(he:∀ x∈l,ρ x=ρ' x):execOp ρ o=execOp ρ' o:=by
 have parts:∀ ps:Array (Nat×Operand),l=ps.toList.map (·.2)->(ps.map λ (i,x)=>(i,ρ x))=ps.map λ (i,x)=>(i,ρ' x):=λ ps hl=>Ak λ x hx=>by
  obtain⟨i,x⟩:=x;simp only;rw[he x (by rw[hl];exact b0S.2 ⟨(i,x),hx,rfl⟩)]
 unfold Zj at h;split at h;case h_21=>cases h
 case h_20 T x l hh m bL =>
  simp only[b0L] at h;subst h;have key:∀ q:Option Operand,(∀ y∈q.toList,ρ y=ρ' y)->q.map ρ=q.map ρ':=λ q hq=>by
   cases q with
   | none=>rfl
   | some y=>rw[b3A,b3A,hq y (by simp)]
  simp only[execOp,bL,he x (by simp),key l (λ y hy=>he y (by simp at hy;simp[hy])),key hh (λ y hy=>he y (by simp at hy;simp[hy])),key m (λ y hy=>he y (by simp at hy;simp[hy]))]
 case h_18 c bL =>
  split at h;case h_3=>cases h
  case h_1 f hc =>
   simp only[b0L] at h;subst h;have ha:c.args.map ρ=c.args.map ρ':=Ak λ x hx=>he x (by simp[hx]);simp only[execOp,bL,resolve,hc,ha,he f (by simp)]
  case h_2 b hc =>
   simp only[b0L] at h;subst h;have ha:c.args.map ρ=c.args.map ρ':=Ak λ x hx=>he x hx;simp only[execOp,bL,resolve,hc,ha]
 all_goals
  rename_i bL
  simp only[b0L] at h
  first
   | (have:=parts _ h.symm;simp only[execOp,bL,this];done)
   | (subst h;simp only[execOp,bL];done)
   | (subst h;simp only[execOp,bL,b3L];done)
   | (subst h;simp only[b1e,b3r,b4y,b4m,forall_eq] at he;simp only[execOp,bL,he];done)
   | (subst h;simp only[b1e,b3r,b4y,b4m,forall_eq] at he;simp only[execOp,bL,he.1,he.2];done)
   | (subst h;simp only[b1e,b3r,b4y,b4m,forall_eq] at he;simp only[execOp,bL,he.1,he.2.1,he.2.2];done)
theorem a0P{u v:TV}(h:AS u v):u=v:=by
 unfold AS at h;split at h
 .rename_i x hx;have:=TV.bj hx;rw[this,h]
 .exact h.elim
theorem R3{v u:AV}(h:NH v u):v=u:=by
 unfold NH at h;split at h
 .rw[a0P h]
 .rw[a0P h]
 .rw[h]
 .rw[h]
 .rw[h.1,h.2]
 .rfl
 .rfl
 .exact h.elim
theorem I1{c:Ctx}{G:Gh}{lk:Nat->Option aG}{a:Act}{w:World}{o:Oper}{v:AV}{x:Value}(hr:(execOp a.eval o).run c.P w = .ok (.value x) w)(hv:VR c G lk w v x) :
  ∃ x,(execOp a.eval o).run c.P w = .ok (.value x) w/\VR c G lk w v x:=⟨x,hr,hv⟩
theorem a1W{c:Ctx}{G:Gh}{sl:Nat->AV}{n:Nat}{lk:Nat->Option aG}{a:Act}{w:World}(hE:bU c.P c.E)(hI:bH c G sl n lk a w){lk':Nat->Option aG}(cY:∀ id o,lk' id=some o->lk id=some o){ev:Operand->AV}(dx:∀ x,VR c G lk w (ev x) (a.eval x))
  {o:Oper} {vc:Vc} {v:AV} {ob:Option aG} (hq:MY c.E lk' ev o=some (vc,v,ob)) (fZ:vc.ok) (YX:reads o.op=true) :
  ∃ x,(execOp a.eval o).run c.P w = .ok (.value x) w/\VR c G lk w v x:=by
 unfold MY at hq;split at hq;case h_1 x bL =>
  simp only[b0L,b0O] at hq;obtain⟨rfl,rfl,rfl⟩:=hq;exact I1 (by simp[execOp,bL]) (dx x)
 case h_8 T ad bL =>
  split at hq
  .rename_i τ r hT;split at hq
   .rename_i u hu;simp only[b0L,b0O] at hq;obtain⟨rfl,rfl,rfl⟩:=hq;obtain⟨b,o',cs,h1,h2,h3,h4⟩:=uP hI.aR cY hu (dx ad);refine I1 ?_ h4;simp only[execOp,bL,h1,b1u,qT hE hT h2 h3,b1j,b1w]
   .cases hq
  .cases hq
 case h_9 x bL =>
  have key:∀ u,ev x=u->(∃ b o,a.eval x = .pointer (some ⟨b,o,none⟩))->vc = .none->v=u->ob=none->∃ x,(execOp a.eval o).run c.P w = .ok (.value x) w/\VR c G lk w v x:=by
   rintro u hu ⟨b,o',hx⟩ _ rfl rfl;refine I1 (x:=a.eval x) ?_ (hu ▸ dx x);simp only[execOp,bL,hx,b1w]
  have hx:=dx x;split at hq
  .rename_i u hu;simp only[b0L,b0O] at hq;rw[hu] at hx;obtain⟨b,o',cs,h1,_⟩:=hx;exact key _ hu ⟨b,o',h1⟩ hq.1.symm hq.2.1.symm hq.2.2.symm
  .rename_i id off hu;simp only[b0L,b0O] at hq;rw[hu] at hx;obtain⟨b,_,h1,_⟩:=hx;exact key _ hu ⟨b,off,h1⟩ hq.1.symm hq.2.1.symm hq.2.2.symm
  .rename_i id i off hu;simp only[b0L,b0O] at hq;rw[hu] at hx;obtain⟨b,_,_,_,_,_,_,_,_,h1⟩:=hx;exact key _ hu ⟨b,_,h1⟩ hq.1.symm hq.2.1.symm hq.2.2.symm
  .cases hq
 case h_10 T x i bL =>
  split at hq
  .rename_i s r hT;have hx:=dx x;split at hq
   .rename_i u hu;rw[hu] at hx;split at hq
    .rename_i y hy;have e:=TV.bj hy;subst e;split at hq
     .rename_i f hf;simp only[b0L,b0O] at hq;obtain⟨rfl,rfl,rfl⟩:=hq;obtain⟨b,o',cs,h1,h2,h3,h4⟩:=hx;have bX:i<s.jw.length:=by
       have:=(b1K.1 hf).1;rw[<-aY.Bz s y,b1o];exact this
      refine I1 (x := .pointer (some ⟨b,o'+s.iK i,none⟩)) ?_ ?_
      .simp only[execOp,bL,h1,b1u,pb hE hT bX,b1j,b1w]
      .refine⟨b,o'+s.iK i,(cs.drop (s.iK i)).take f.τ.size,rfl,h2,h3.part _ _,?_⟩;exact HV hf h4
     .cases hq
    .cases hq
   .rename_i id off hu;rw[hu] at hx;split at hq
    .rename_i bX;simp only[Option.some.injEq,Prod.mk.injEq] at hq;obtain⟨rfl,rfl,rfl⟩:=hq;have bX:i<s.jw.length:=by simpa [Nat.blt_eq] using bX
     obtain⟨b,h1,h2,h3⟩:=hx;refine I1 (x := .pointer (some ⟨b,off+s.iK i,none⟩)) ?_ ⟨b,h1,rfl,h3⟩;simp only[execOp,bL,h2,b1u,pb hE hT bX,b1j,b1w]
    .cases hq
   .rename_i id k off hu;rw[hu] at hx;split at hq
    .rename_i bX;simp only[Option.some.injEq,Prod.mk.injEq] at hq;obtain⟨rfl,rfl,rfl⟩:=hq;have bX:i<s.jw.length:=by simpa [Nat.blt_eq] using bX
     obtain⟨b,m,cap,e,τ,xs,h1,h2,h3,h4⟩:=hx;refine I1 (x := .pointer (some ⟨b,k * τ.size+(off+s.iK i),none⟩)) ?_ ⟨b,m,cap,e,τ,xs,h1,h2,h3,rfl⟩;simp only[execOp,bL,h4,b1u,pb hE hT bX,b1j,b1w,b3H]
    .cases hq
   .cases hq
  .cases hq
 case h_12 T x ix bL =>
  split at hq
  .rename_i τ r hT;split at hq
   .rename_i k i hi;have xO:=dx ix;rw[hi] at xO;obtain⟨xO,_⟩:=xO;simp only[b0T,b1b] at xO;have hx:=dx x;split at hq
    .rename_i u hu;rw[hu] at hx;split at hq
     .rename_i xs pX;have e:=TV.bj pX;subst e;simp only[b0L,b0O] at hq;obtain⟨rfl,rfl,rfl⟩:=hq;obtain⟨h0,h1⟩:=fZ;obtain⟨ad,cap,h2,h3,h4,h5⟩:=oJ hx;rcases h5 with h5|⟨b,o',h5,h6,h7⟩
      .subst h5;simp only[b1n] at h1;omega
      .subst h5;have bX:i.toNat<xs.length:=by omega
       obtain⟨cs,m1,m2,m3⟩:=eH.at_ (n:=τ.size) _ b o' h7 (by
        intro d hd;obtain⟨y,_,rfl⟩:=b0S.1 hd;exact Ty.dn τ y) i.toNat (τ.bc (xs.getD i.toNat τ.zero)) (by simp[List.getD,bX])
       refine I1 (x := .pointer (some ⟨b,o'+i.toNat * τ.size,none⟩)) ?_ ⟨b,_,cs,rfl, .inl h6,m3,m2⟩;simp only[execOp,bL,h2,xO,b1u,vk hE hT h0 h1,b1j,b1w]
     .cases hq
    .rename_i id hu;rw[hu] at hx;split at hq
     .rename_i e' bw xs hl;split at hq
      .rename_i nH;have nH:=b1z nH;subst nH;simp only[b0L,b0O] at hq;obtain⟨rfl,rfl,rfl⟩:=hq;obtain⟨h0,h1⟩:=fZ;obtain⟨h2,_,_⟩:=hx;have so:=cY _ _ hl;obtain⟨l,m1,_,_⟩:=hI.aR _ _ so;have bX:i.toNat<xs.length:=by omega
       rcases m1.2 with ⟨_,hn⟩|⟨g,cap,cur,hv,_⟩
       .omega
       .refine I1 (x := .pointer (some ⟨g,0+i.toNat * bw.size,none⟩)) ?_ ⟨g,_,cap,e',bw,xs,hv,so,bX,by simp⟩;simp only[execOp,bL,h2,hv,xO,b1u,vk hE hT h0 h1,b1j,b1w]
      .cases hq
     .cases hq
    .cases hq
   .cases hq
  .cases hq
 case h_24=>cases hq
 all_goals
  rename_i bL
  rw[bL] at YX
  cases YX
theorem V7{c:Ctx}{G:Gh}{s:ai}{a:Act}{w:World}(hE:bU c.P c.E)(h:Inv c G s a w){o:Oper}{vc:Vc}{v:AV}(hq:rop c.E s o=some (vc,v))(fZ:vc.ok) :
  ∃ x,(execOp a.eval o).run c.P w = .ok (.value x) w/\VR c G s.ah w v x:=by
 unfold rop at hq;split at hq
 .rename_i hr;split at hq
  .rename_i vc' v' WU;simp only[b0L,b0O] at hq;obtain⟨rfl,rfl⟩:=hq;exact a1W hE h (λ _ _ h=>h) (bI h) WU fZ hr
  .cases hq
 .cases hq
theorem R4:∀ {v u:List AV},Uk v u->v=u
 | [],[],_=>rfl
 | a::Z9,b::bs,h=>by rw[R3 h.1,R4 h.2]
 | [],_::_,h=>h.elim
 | _::_,[],h=>h.elim
theorem a0Z{v u:AV}(h:Yt v u):v=u:=by
 unfold Yt at h;split at h
 .rw[R4 h]
 .exact R3 h
structure rO(D:List Nat)(a b:Act):Prop where
 size:a.tmps.size=b.tmps.size
 da:a.defers=[]
 db:b.defers=[]
 at':∀ t,t∉D->a.tmps.getD t undef=b.tmps.getD t undef
theorem rO.put{D D':List Nat}{a b:Act}(h:rO D a b){d:Option Nat}{x:Value}(hD:∀ t,t∈D->t∉D'->d=some t):rO D' (a.put d x) (b.put d x) where
 size:=by cases d<;>simp[Act.put,h.size]
 da:=by cases d<;>exact h.da
 db:=by cases d<;>exact h.db
 at' t ht:=by
  rw[fV,fV,h.size];by_cases hd:d=some t
  .by_cases hl:t<b.tmps.size
   .rw[b1q ⟨hd,hl⟩,b1q ⟨hd,hl⟩]
   .rw[b0Y (λ q=>hl q.2),b0Y (λ q=>hl q.2)];have h1:a.tmps.getD t undef=undef:=by rw[b1I,b2j (by rw[h.size];omega)];rfl
    have h2:b.tmps.getD t undef=undef:=by rw[b1I,b2j (by omega)];rfl
    rw[h1,h2]
  .rw[b0Y (λ q=>hd q.1),b0Y (λ q=>hd q.1)];refine h.at' t λ hm=>hd (hD t hm ht)
theorem rO.exec{D:List Nat}{a b:Act}(h:rO D a b){o:Oper}(hu:jC D o=true):execOp a.eval o=execOp b.eval o:=by
 unfold jC at hu;split at hu
 .rename_i l hl;rw[b1L] at hu;refine execOp_congr hl λ x hx=>?_;have:=hu x hx;cases x with
  | tmp t=>exact h.at' t (by simpa using this)
  | _=>rfl
 .cases hu
theorem rI{D D':List Nat}{o:Oper}(h:jC D o=true)(hs:∀ t∈D',t∈D):jC D' o=true:=by
 unfold jC at h ⊢;split at h
 .rename_i l hl;rw[b1L] at h ⊢;intro x hx;have:=h x hx;cases x with
  | tmp t =>
   simp only[b1i,List.contains_eq_mem,b0M] at this ⊢;exact λ q=>this (hs t q)
  | _=>rfl
 .cases h
section
variable {c:Ctx} {G:Gh} {s:ai} {a:Act} {w w':World}
theorem a4d{P:Program}{o:Oper}{b:Act}{N N':Act->World->Prop}{Q:Exit->Act->World->Prop}(he:execOp a.eval o=execOp b.eval o)(hN:∀ x w',N (b.put o.dst x) w'->N' (a.put o.dst x) w')
  (hd:∀ b' w',N b' w'->b'.defers=[]) (h:o.wp P b w N (λ _ _ _=>False)):o.wp P a w N' Q:=by
 unfold Oper.wp at *
 rw[he];generalize (execOp b.eval o).run P w=r at *
 cases r with
 | ok n w' =>
  cases n<;>simp only[Oper.upon] at h ⊢;case value v=>exact hN _ _ h
  case skip=>exact hN _ _ h
  case defer d =>
   have:=hd _ _ h;cases hh:o.dst<;>simp[Act.put,hh] at this
  case enter f args=>exact Calls.mono h (λ e w'' q=>by cases e<;>first|exact hN _ _ q|exact q.elim λ _ q=>q.elim λ _ q=>q.elim|exact q.elim)
  case row r args=>exact Rows.mono h (λ _ _ q=>hN _ _ q)
 | halt x w'=>cases x<;>simp only[Oper.upon] at h ⊢
theorem exists_least{p:Nat->Prop}:∀ n,p n->∃ k,p k/\∀ j,j<k->¬ p j:=by
 intro n;induction n using Nat.strongRecOn with
 | _ n ih =>
  intro h;by_cases hq:∃ j,j<n/\p j
  .obtain⟨j,h1,h2⟩:=hq;exact ih j h1 h2
  .exact⟨n,h,λ j hj hp=>hq ⟨j,hj,hp⟩⟩
theorem rO.eq{a b:Act}(h:rO [] a b):a=b:=by
 obtain⟨ta,da⟩:=a;obtain⟨tb,db⟩:=b;obtain⟨h1,h2,h3,h4⟩:=h;simp only at h1 h2 h3 h4;subst h2 h3;congr 1;apply Array.ext h1;intro i hi hj;have:=h4 i (by simp);simpa [Array.getD_eq_getD_getElem?,Array.getElem?_eq_getElem hi,Array.getElem?_eq_getElem hj] using this
theorem kg{R:List (Nat×Oper)}{t:Nat}:t∈dstsOf R↔∃ r∈R,r.2.dst=some t:=by
 simp[dstsOf,b2M]
theorem a3R(h:Inv c G s a w){d:Nat}{x:Value}(hv:VR c G s.ah w (s.aE.getD d .any) x):Inv c G s (a.put (some d) x) w:=by
 have:=bH.put (d:=some d) h hv;unfold Inv;have e:oK s.aE.length s.sl (some d) (s.aE.getD d .any)=s.sl:=by
  funext i;unfold oK;split
  .rename_i hi;obtain⟨h1,_⟩:=hi;simp only[b0L] at h1;subst h1;rfl
  .rfl
 rwa [e] at this
theorem pJ{E:Env}{K:Prop}:∀ {R:List (Nat×Oper)},lq E R s K->(∀ r∈R,∃ d vc,r.2.dst=some d/\rop E s r.2=some (vc,s.aE.getD d .any)/\Vc.ok vc)/\K
 | [],h=>⟨by simp,h⟩
 | r::rs,h=>by
  simp only[lq] at h;split at h
  .rename_i d vc v hd hr;have h1:=Vc.oM h;obtain⟨k1,k2⟩:=pJ h1.2.2;refine⟨λ q hq=>?_,k2⟩;rcases b1e.1 hq with rfl|hq
   .exact⟨d,vc,hd,by rw[hr,a0Z h1.2.1],h1.1⟩
   .exact k1 q hq
  .exact h.elim
theorem Sp(hE:bU c.P c.E){K:ai->Prop}:∀ {R:List (Nat×Oper)} {s:ai} {a:Act},Inv c G s a w->NI c.E R K s->∃ t b,Inv c G t b w/\rO (dstsOf R) a b/\K t
 | [],s,a,hI,h=>⟨s,a,hI,⟨rfl,hI.defers,hI.defers,λ _ _=>rfl⟩,h⟩
 | r::rs,s,a,hI,h=>by
  simp only[NI] at h;split at h
  .rename_i d vc v hd hr;have h1:=Vc.oM h;obtain⟨x,_,hx⟩:=V7 hE hI hr h1.1;obtain⟨t,b,k1,k2,k3⟩:=Sp hE (Inv.put (d:=some d) hI hx) (Jv hx h1.2);refine⟨t,b,k1,⟨by rw[<-k2.size];simp[Act.put],hI.defers,k2.db,λ i hi=>?_⟩,k3⟩;have gU:d≠i:=λ e=>hi (kg.2 ⟨r,by simp,by rw[hd,e]⟩);rw[<-k2.at' i λ hm=>hi (by
    obtain⟨q,hq,hqd⟩:=kg.1 hm;exact kg.2 ⟨q,by simp[hq],hqd⟩),fV,if_neg (λ q=>gU (by simpa using q.1))]
  .exact h.elim
theorem Zn{E:Env}{o:Oper}{K:ai->Prop}{T:TypeId}{d:Nat}{τ:Ty}{r:Nat×Nat}(bL:o.op = .alloc T)(hd:o.dst=some d)(hT:ah E.ty T=some (τ,r)) :
  p8 E o K s↔(d<400000/\K (s.lay (some d) (.ptr d 0) (some (.box (zeroCells τ))))):=by
 have h1:pU E s o=[]:=by
  unfold pU;rw[bL];split<;>rfl
 have h2:Yv E s o=none:=by
  unfold Yv;rw[hd,bL];simp only;split<;>rfl
 have h3:YB E s o=none:=by unfold YB;rw[bL]
 have h4:Zi E s o=none:=by unfold Zi;rw[bL]
 obtain⟨r1,r2⟩:=r;have h5:MY E s.ah s.eval o=some (.none, .ptr d 0,some (.box (zeroCells τ))):=by
  unfold MY;rw[bL];simp only[hd,hT]
 unfold p8;have h6:Zp E s o=none:=by unfold Zp;rw[hd,bL]
 have h7:Zf E s o=none:=by unfold Zf;rw[bL]
 simp only[h1,b4u,h6,h2,h3,h4,h7,h5,Vc.and,bL,Wk,hd,xL];cases hb:Nat.blt d 400000 with
 | true=>simp only[b4h] at hb;simp[hb]
 | false=>simp only[Bool.eq_false_iff,ne_eq,b4h] at hb;simp[hb]
structure PE where
 i:Nat
 d:Nat
 x:Value
 b:Nat
 cs:List AV
noncomputable instance:DecidableEq PE:=λ _ _=>Classical.propDecidable _
structure EI(c:Ctx)(G:Gh)(lk:Nat->Option aG)(X:List (Nat×Oper))(a:Act)(w:World)(p:PE):Prop where
 ex:∃ o T τ r,(p.i,o)∈X/\o.op = .alloc T/\o.dst=some p.d/\ah c.E.ty T=some (τ,r)/\p.cs=zeroCells τ
 val:a.tmps.getD p.d undef=if p.d<a.tmps.size then p.x else undef
 ptr:p.x = .pointer (some ⟨p.b,0,none⟩)
 lt:p.d<400000
 new:∃ l t,w.heap[p.b]?=some (.cells l.toArray t (0,0))/\∀ (c:Ctx) (G:Gh) (lk:Nat->Option aG) (w:World),bf (C1 c G lk w) p.cs l
 fr:yF c G lk w p.b
theorem EI.put{lk:Nat->Option aG}{X:List (Nat×Oper)}{p:PE}(h:EI c G lk X a w p){d:Option Nat}{x:Value}(hd:d≠some p.d):EI c G lk X (a.put d x) w p :=
 ⟨h.ex,by rw[fV,b0Y (λ q=>hd q.1),kN];exact h.val,h.ptr,h.lt,h.new,h.fr⟩
theorem a0S(h:Inv c G s a w){p:PE}{X:List (Nat×Oper)}{a2:Act}(hp:EI c G s.ah X a2 w p) :
  Inv c ⟨G.S,λ i=>if i=p.d then p.x else G.η i,G.φ⟩ (s.lay (some p.d) (.ptr p.d 0) (some (.box p.cs))) (a.put (some p.d) p.x) w:=by
 obtain⟨l,t,h1,h2⟩:=hp.new;refine Inv.a2K h hp.lt ⟨p.b,l,t,hp.ptr,h1,h2 _ _ _ _⟩ ⟨_,rfl,rfl⟩ λ b hb=>?_;rw[hp.ptr] at hb;simp only[gi,b0L] at hb;subst hb;obtain⟨q1,q2,q3,q4,q5⟩:=hp.fr;exact⟨q1,q2,q3,λ i o' _ ho=>q4 i o' ho,q5⟩
theorem a0R{p:PE}{X:List (Nat×Oper)}{a2:Act}(hp:EI c G s.ah X a2 w p){b:Nat}(hb:yF c G s.ah w b)(gU:b≠p.b) :
  yF c ⟨G.S,λ i=>if i=p.d then p.x else G.η i,G.φ⟩ (s.lay (some p.d) (.ptr p.d 0) (some (.box p.cs))).ah w b:=by
 have cY:(s.lay (some p.d) (.ptr p.d 0) (some (.box p.cs))).ah=λ i=>if i=p.d then some ((aG.box p.cs).kill p.d) else (if i=p.d then none else (s.cF p.d).ah i):=by
  funext i;show ah ((p.d,(aG.box p.cs).kill p.d)::cf p.d (s.cF p.d).aR) i=_;rw[eK,gq];rfl
 obtain⟨q1,q2,q3,q4,q5⟩:=hb;rw[cY];refine⟨q1,q2,q3,λ i o ho e=>?_,λ j τ xs hj rU=>?_⟩
 .by_cases hi:i=p.d
  .simp only[b1q hi] at e;rw[hp.ptr] at e;simp only[gi,b0L] at e;exact gU e.symm
  .simp only[b0Y hi] at e ho;rw[fN] at ho;simp only[b1M] at ho;obtain⟨o',dj,_⟩:=ho;exact q4 i o' dj e
 .by_cases hi:j=p.d
  .simp only[b1q hi] at hj;cases hj
  .simp only[b0Y hi] at hj;rw[fN] at hj;exact q5 j τ xs (oh hj) rU
theorem Yz(hE:bU c.P c.E)(h:Inv c G s a w){a2:Act}{o:Oper}{T:TypeId}{d i:Nat}{τ:Ty}{r:Nat×Nat}(bL:o.op = .alloc T)(hd:o.dst=some d)(hT:ah c.E.ty T=some (τ,r))(Mp:d<400000){X:List (Nat×Oper)}(hX:(i,o)∈X) :
  ∃ w' p,p.i=i/\p.d=d/\p.b=w.heap.size/\(execOp a2.eval o).run c.P w = .ok (.value p.x) w'/\Inv c G s a w'/\EI c G s.ah X (a2.put (some d) p.x) w' p/\bV (λ _=>False) w w':=by
 obtain⟨r1,r2⟩:=r;obtain⟨inf,z,h1,h2,h3,h4⟩:=(hE.info hT).ex;refine⟨w.alloc (.cells z.cells T),⟨i,d, .pointer (some ⟨w.heap.size,0,none⟩),w.heap.size,zeroCells τ⟩,rfl,rfl,rfl,?_,h.alloc _,?_,jY w _⟩
 .simp[execOp,bL,Instr.alloc,zeroValue,typeInfo,h1,h3,newVar,newRow]
 .refine⟨⟨o,T,τ,_,hX,bL,hd,hT,rfl⟩,?_,rfl,Mp,⟨z.cells.toList,T,by simpa using heap_alloc_new w _,λ _ _ _ _=>pK h4⟩,?_⟩
  .simp only[fV,kN,b1N];split
   .rfl
   .rename_i bX;first|rfl|(rw[b1I,b2j (by omega)];rfl)
  .refine⟨.inl h.bd.size,λ q=>by have:=h.eV _ q;simp only at this;omega,by simp,λ j o' hj hb=>by have:=(h.place j o' _ hj hb).2.2;simp only at this;omega,λ j τ xs hj hb=>by have:=(h.aW.pl j τ xs _ hj hb).2.2.1;simp only at this;omega⟩
theorem W1{E:Env}{o:Oper}(h:Pu E o=true):reads o.op=true:=by
 unfold Pu at h;rw[Bool.and_eq_true] at h;exact h.1
theorem GI{E:Env}{o:Oper}(h:reads o.op=true):en E o=false:=by
 unfold en;generalize I3 E o=q;generalize o.op=op at *
 cases op<;>first|rfl|cases h
theorem K6(cD:List Nat)(x:Nat×Oper):∀ l,(OT cD x l).Perm (x::l)
 | [] => .refl _
 | y::ys=>by
  unfold OT;split
  .exact .refl _
  .exact ((K6 cD x ys).cons y).trans (.swap x y ys)
theorem oH(E:Env)(cD:List Nat):∀ l,(MB E cD l).Perm l
 | [] => .refl _
 | x::xs=>by
  unfold MB;split
  .exact (K6 cD x _).trans ((oH E cD xs).cons x)
  .exact (oH E cD xs).cons x
structure XE where
 i:Nat
 d:Nat
 x:Value
 o:Oper
noncomputable instance:DecidableEq XE:=λ _ _=>Classical.propDecidable _
structure XOk(E:Env)(P:Program)(X:List (Nat×Oper))(a:Act)(e:XE):Prop where
 mem:(e.i,e.o)∈X
 dst:e.o.dst=some e.d
 val:a.tmps.getD e.d undef=if e.d<a.tmps.size then e.x else undef
 run:(oT e.o.op=true/\∀ w,(execOp a.eval e.o).run P w = .ok (.value e.x) w)\/((yQ e.o.op=true/\I3 E e.o=true)/\∃ p,e.x = .slice p 0 0)
theorem XOk.lz{E:Env}{P:Program}{X:List (Nat×Oper)}{a:Act}{e:XE}(h:XOk E P X a e):en E e.o=true:=by
 rcases h.run with ⟨q,_⟩|⟨⟨q,q'⟩,_⟩
 .simp[en,q]
 .simp[en,q,q']
theorem O2{op:Op}(h:yQ op=true):∃ T,op = .buildSlice T 0 #[]:=by
 unfold yQ at h;split at h
 .rename_i T len ps;simp only[b0R] at h;have h1:=b0P h.1;have h2:ps = #[]:=b3e (b0P h.2);exact⟨T,by rw[h1,h2]⟩
 .cases h
theorem a2e{o:Oper}(h:yQ o.op=true)(D:List Nat):jC D o=true:=by
 obtain⟨T,h⟩:=O2 h;simp[jC,Zj,h]
theorem XOk.put{E:Env}{P:Program}{X:List (Nat×Oper)}{e:XE}(h:XOk E P X a e)(hda:a.defers=[]){d:Option Nat}{x:Value}(hd:d≠some e.d)(hu:∀ t,d=some t->jC [t] e.o=true):XOk E P X (a.put d x) e :=
 ⟨h.mem,h.dst,by rw[fV,b0Y (λ q=>hd q.1),kN];exact h.val,h.run.imp (λ hr=>⟨hr.1,λ w=>by
  cases d with
  | none=>exact hr.2 w
  | some t =>
   have hA:rO [t] (a.put (some t) x) a:=⟨kN a _ x,by rw[oE];exact hda,hda,λ u hu=>by rw[fV,if_neg (λ q=>hu (by simpa using q.1.symm))]⟩;rw[hA.exec (hu t rfl)];exact hr.2 w⟩) id⟩
theorem YC(h:Inv c G s a w){o:Oper}{t:Operand}{i:Nat}(bL:o.op = .extract t i)(hc:By s o.op=true):∃ x,∀ w',(execOp a.eval o).run c.P w' = .ok (.value x) w':=by
 rw[bL] at hc;simp only[By] at hc;split at hc
 .rename_i vs hv;have hx:=bI h t;rw[hv] at hx;obtain⟨l,h1,h2⟩:=hx;have bX:i<l.length:=by rw[<-h2.length];exact b1r hc
  refine⟨l[i],λ w'=>?_⟩;have h3:l[i]?=some l[i]:=b1p bX;simp[execOp,bL,Instr.extract,h1,h3]
 .cases hc
theorem V8{E:Env}{o:Oper}{K:ai->Prop}{t:Operand}{i d:Nat}(bL:o.op = .extract t i)(hd:o.dst=some d)(hr:p8 E o K s) :
  ∃ vs v,s.eval t = .mI vs/\vs[i]?=some v/\known v (K (s.put (some d) v)):=by
 have h1:pU E s o=[]:=by
  unfold pU;rw[bL];split<;>rfl
 have h2:Yv E s o=none:=by
  unfold Yv;rw[hd,bL];simp only;split<;>rfl
 have h3:YB E s o=none:=by unfold YB;rw[bL]
 have h4:Zi E s o=none:=by unfold Zi;rw[bL]
 have h6:Zp E s o=none:=by unfold Zp;rw[hd,bL]
 have h7:Zf E s o=none:=by unfold Zf;rw[bL]
 unfold p8 at hr;split at hr
 .exact hr.elim
 simp only[h1,b4u,h6,h2,h3,h4,h7] at hr;split at hr
 .rename_i vc v ob hq;unfold MY at hq;rw[bL] at hq;simp only at hq;split at hq
  .rename_i vs hv;split at hq
   .rename_i u hu;simp only[Option.some.injEq,Prod.mk.injEq] at hq;obtain⟨rfl,rfl,rfl⟩:=hq;refine⟨vs,u,hv,hu,?_⟩;simpa [Vc.and,bL,Wk,hd,ai.lay] using hr
   .cases hq
  .cases hq
 .exact hr.elim
theorem YD(h:Inv c G s a w){o:Oper}{t:Operand}{i:Nat}(bL:o.op = .extract t i){vs:List AV}{v:AV}(h1:s.eval t = .mI vs)(h2:vs[i]?=some v){x:Value}(hx:(execOp a.eval o).run c.P w = .ok (.value x) w):VR c G s.ah w v x:=by
 have hv:=bI h t;rw[h1] at hv;obtain⟨l,k1,k2⟩:=hv;obtain⟨y,k3,k4⟩:=k2.at_ i v h2;have:(execOp a.eval o).run c.P w = .ok (.value y) w:=by simp[execOp,bL,Instr.extract,k1,k3]
 rw[this] at hx;simp only[Result.ok.injEq,Next.value.injEq,b1b] at hx;subst hx;cases v<;>first|exact k4|exact k4.elim|trivial
theorem a0I{E:Env}{o:Oper}{K:ai->Prop}{d:Nat}(hn:yQ o.op=true/\I3 E o=true)(ha:ui E o=true)(hd:o.dst=some d)(hr:p8 E o K s) :
  ∃ τ,K (s.put (some d) (.aT ⟨.slice τ,[]⟩)):=by
 obtain⟨hn,tm⟩:=hn;obtain⟨T,bL⟩:=O2 hn;unfold ui at ha;simp only[bL,hd,tm] at ha;split at ha
 .rename_i d' τ r GU hT;simp only[b0L] at GU;subst GU;have ha:Nat.blt d 400000=true/\E.ro.contains d=true/\E.own.contains d=false:=by
   have ha:(Nat.blt d 400000&&(E.ro.contains d && !E.own.contains d))=true:=ha;simp only[b0R,b1i] at ha;exact⟨ha.1,ha.2.1,ha.2.2⟩
  obtain⟨h4,hro,wU⟩:=ha;have h1:pU E s o=[]:=by
   unfold pU;simp only[hd,wU,bL];simp
  have h2:Yv E s o=none:=by
   unfold Yv;simp only[hd,wU]
  have h3:YB E s o=none:=by unfold YB;rw[bL]
  have h4':Zi E s o=none:=by unfold Zi;rw[bL]
  have h6:Zp E s o=none:=by unfold Zp;rw[hd,bL]
  have h7:Zf E s o=none:=by unfold Zf;rw[bL]
  obtain⟨r1,r2⟩:=r;have h8:MY E s.ah s.eval o=some (.none, .aT ⟨.slice τ,[]⟩,none):=by
   unfold MY;rw[bL];simp only[hd,hT,hro];rfl
  unfold p8 at hr;simp only[h1,List.foldl_nil,h6,h2,h3,h4',h7,h8,Vc.and,bL,Wk,hd,xL,h4] at hr;exact⟨τ,hr⟩
 .simp at ha
theorem ZY(hE:bU c.P c.E)(h:Inv c G s a w){a2:Act}{o:Oper}{d:Nat}(hn:yQ o.op=true/\I3 c.E o=true)(ha:ui c.E o=true)(hd:o.dst=some d) :
  ∃ w' x,(execOp a2.eval o).run c.P w = .ok (.value x) w'/\Inv c G s a w'/\(∃ p,x = .slice p 0 0)/\bV (λ _=>False) w w':=by
 obtain⟨hn,tm⟩:=hn;obtain⟨T,bL⟩:=O2 hn;unfold ui at ha;simp only[bL,hd,tm] at ha;split at ha
 .rename_i d' τ r GU hT;obtain⟨r1,r2⟩:=r;obtain⟨k1,_,inf,z,k2,k3,k4,k5,k6⟩:=hE.slice hT;refine⟨w.alloc (.cells #[] r2), .slice (some ⟨w.heap.size,0,none⟩) 0 0,?_,h.alloc _,⟨_,rfl⟩,jY w _⟩;have hz:(Array.range 0).map (λ _=>(default:Value)) = #[]:=by apply b3e;simp
  simp[execOp,bL,Instr.buildSlice,b1Q k1,sizeOf,typeInfo,k2,Instr.fill,newRow,hz]
 .simp at ha
theorem qK(E:Env){X:List (Nat×Oper)}{x:Nat×Oper}{t:Nat}(hx:x∈X)(ha:en E x.2=true)(hd:x.2.dst=some t):t∈wA E X :=
 b2M.2 ⟨x,hx,by simp[ha,hd]⟩
theorem XW{E:Env}{cD:List Nat}{n:Nat}{R:List (Nat×Oper)}{K:ai->Prop}{s:ai}:mb E cD n R [] K s=K s:=by cases n<;>rfl
theorem MD{E:Env}{cD:List Nat}{n:Nat}{R:List (Nat×Oper)}{x:Nat×Oper}{xs:List (Nat×Oper)}{K:ai->Prop}{s:ai}(h:mb E cD n R (x::xs) K s) :
  ∃ m,Za E cD (x::xs) s=true/\(((jC (dstsOf (R.filter λ r => !Nat.testBit (cD.getD x.1 0) r.1)++wA E xs) x.2&&xs.all λ y=>en E y.2||Nat.testBit (cD.getD y.1 0) x.1)=true /\
    p8 E x.2 (λ s'=>lq E (R.filter λ r => !Nat.testBit (cD.getD x.1 0) r.1) s' (mb E cD m (R.filter λ r => !Nat.testBit (cD.getD x.1 0) r.1) xs K s')) s) \/
   (en E x.2=false/\DH (Uu E cD (x::xs)) (λ y=>match jC (dstsOf (R.filter λ r => !Nat.testBit (cD.getD y.1 0) r.1)++wA E ((x::xs).filter λ z => !Nat.beq z.1 y.1)) y.2 with
      | true=>p8 E y.2 (λ s'=>lq E (R.filter λ r => !Nat.testBit (cD.getD y.1 0) r.1) s' (mb E cD m (R.filter λ r => !Nat.testBit (cD.getD y.1 0) r.1) ((x::xs).filter λ z => !Nat.beq z.1 y.1) K s')) s
      | false=>False) (x::xs))):=by
 cases n with
 | zero=>exact h.elim
 | succ n =>
  simp only[mb] at h;refine⟨n,?_⟩;split at h
  .rename_i h1;refine⟨h1,?_⟩;split at h
   .rename_i h2;exact .inl ⟨h2,h⟩
   .split at h
    .exact h.elim
    .rename_i h3;exact .inr ⟨h3,h⟩
  .exact h.elim
theorem VB{E:Env}{cD:List Nat}{n:Nat}{R:List (Nat×Oper)}{x:Nat×Oper}{xs:List (Nat×Oper)}{K:ai->Prop}{s:ai}(hz:en E x.2=true)(h:mb E cD n R (x::xs) K s) :
  ∃ m,p8 E x.2 (λ s'=>lq E (R.filter λ r => !Nat.testBit (cD.getD x.1 0) r.1) s' (mb E cD m (R.filter λ r => !Nat.testBit (cD.getD x.1 0) r.1) xs K s')) s:=by
 obtain⟨m,_,h|h⟩:=MD h
 .exact⟨m,h.2⟩
 .rw[hz] at h;cases h.1
theorem EW{p:Nat×Oper->Bool}{f:Nat×Oper->Prop}:∀ {l:List (Nat×Oper)},DH p f l->∀ y∈l,p y=true->f y
 | [],_,y,hy,_=>by cases hy
 | x::l,h,y,hy,hp=>by
  unfold DH at h;split at h
  .rcases b1e.1 hy with rfl|hy
   .exact h.1
   .exact EW h.2 y hy hp
  .rename_i h0;rcases b1e.1 hy with rfl|hy
   .rw[hp] at h0;cases h0
   .exact EW h y hy hp
theorem a2M{a b:Nat}:Nat.beq a b=false↔a≠b:=by
 constructor
 .intro h e;subst e;rw[Nat.beq_refl] at h;cases h
 .intro h;cases hb:Nat.beq a b
  .rfl
  .exact absurd (b0P hb) h
theorem UJ{x:Nat×Oper}{xs:List (Nat×Oper)}(h:x.1∉xs.map (·.1)):((x::xs).filter λ z => !Nat.beq z.1 x.1)=xs:=by
 rw[b4n,b0Y (by simp)];refine List.filter_eq_self.2 λ z hz=>?_;have:z.1≠x.1:=λ e=>h (b0S.2 ⟨z,hz,e⟩);rw[a2M.2 this];rfl
theorem Xy{i:Nat}{o:Oper}:∀ {X:List (Nat×Oper)},(i,o)∈X->(X.map (·.1)).Nodup->(X.filter λ z => !Nat.beq z.1 i).length+1=X.length
 | [],h,_=>by cases h
 | x::xs,h,hn=>by
  simp only[b1J,b1G] at hn;rcases b1e.1 h with e|h
  .subst e;rw[UJ (x:=(i,o)) hn.1];rfl
  .have gU:x.1≠i:=λ e=>hn.1 (b0S.2 ⟨_,h,e.symm⟩);rw[b4n,b1q (by rw[a2M.2 gU];rfl),b0Z,b0Z,Xy h hn.2]
theorem a1K{E:Env}{cD:List Nat}{n:Nat}{R X:List (Nat×Oper)}{y:Nat×Oper}{K:ai->Prop}{s:ai}(h:mb E cD n R X K s)(hy:y∈X)(dt:(X.map (·.1)).Nodup)(hc:Uu E cD X y=true)
  (hh:∀ x xs,X=x::xs->en E x.2=true->Nat.testBit (cD.getD y.1 0) x.1=false) :
  ∃ m,jC (dstsOf (R.filter λ r => !Nat.testBit (cD.getD y.1 0) r.1)++wA E (X.filter λ z => !Nat.beq z.1 y.1)) y.2=true /\
   p8 E y.2 (λ s'=>lq E (R.filter λ r => !Nat.testBit (cD.getD y.1 0) r.1) s' (mb E cD m (R.filter λ r => !Nat.testBit (cD.getD y.1 0) r.1) (X.filter λ z => !Nat.beq z.1 y.1) K s')) s:=by
 match X,hy,dt,hc,hh,h with
 | x::xs,hy,dt,hc,hh,h =>
  obtain⟨m,_,h|h⟩:=MD h
  .obtain⟨h1,h2⟩:=h;simp only[b0R,b1L,b2y] at h1;have e:y=x:=by
    rcases b1e.1 hy with e|hy
    .exact e
    .simp only[Uu,b0R,b1i,b1L,b2y] at hc;rcases h1.2 y hy with q|q
     .rw[hc.1] at q;cases q
     .rcases hc.2 x (by simp) with k|k
      .rw[hh x xs rfl k] at q;cases q
      .rw[k] at q;cases q
   subst e;simp only[b1J,b1G] at dt;rw[UJ dt.1];exact⟨m,h1.1,h2⟩
  .have:=EW h.2 y hy hc;split at this
   .rename_i hu;exact⟨m,hu,this⟩
   .exact this.elim
theorem a0q(
          hE:bU c.P c.E) {ops:Array Oper} {hi:Nat} {Seg:List (Nat×Oper)} (e9:backward ops.toList=true) (hhi:hi<=ops.size)
  (uD:∀ j o,hi<=j->ops.toList[j]?=some o->∀ k,k<hi->Nat.testBit ((cq ops.toList []).getD j 0) k=true)
  (a6v:∀ x∈Seg,x.2.guard=none) (TN:∀ x∈Seg,ui c.E x.2=true) (a5a:∀ x∈Seg,oT x.2.op=true->jC (dstsOf (Seg.filter λ y => !Nat.testBit ((cq ops.toList []).getD x.1 0) y.1)++wA c.E Seg) x.2=true) (a4X:∀ x∈Seg,∀ y∈Seg,∀ t,x.2.dst=some t->y.2.dst=some t->x.1=y.1) {K:ai->Prop} {Q':Exit->Act->World->Prop}
  (K2:∀ (fuel:Nat) (G:Gh) (s:ai) (a:Act) (w:World) (listed:Array Bool),ops.size=hi+fuel->listed.size=ops.size->(∀ k,k<ops.size->(listed.getD k false=true↔k<hi))->Inv c G s a w->K s->wpAny c.P .any ops Q' fuel listed a w) :
  ∀ (N fuel:Nat) (Rc X:List (Nat×Oper)) (R:List Nat) (PL:List PE) (SL:List XE) (G:Gh) (t:ai) (a b:Act) (w:World) (listed:Array Bool),fuel+X.length<=N->fuel+PL.length+SL.length=R.length+X.length+(ops.size - hi)->listed.size=ops.size ->
   (∀ i∈R,i<hi/\∃ o,ops.toList[i]?=some o/\(i,o)∈Rc/\(i,o)∈Seg/\rF c.E (cq ops.toList []) Seg (i,o)=true/\jC (dstsOf (Seg.filter λ y => !Nat.testBit ((cq ops.toList []).getD i 0) y.1)) o=true)->(∀ x∈X,x.1<hi/\ops.toList[x.1]?=some x.2/\x∈Seg)->R.Nodup->(X.map (·.1)).Nodup->(∀ i∈R,∀ x∈X,i≠x.1) ->
   (PL.map PE.i++SL.map XE.i).Nodup->(PL.map PE.b).Nodup->(∀ p∈PL,EI c G t.ah X a w p)->(∀ e∈SL,XOk c.E c.P X a e) ->
   (∀ k,k<ops.size->(listed.getD k false=true↔k<hi/\k∉R/\((∀ x∈X,x.1≠k)\/k∈PL.map PE.i++SL.map XE.i)))->(∀ k,k<ops.size->listed.getD k false=true->∀ o,ops.toList[k]?=some o->∀ e∈o.after.toList,Region.binds .any e=true->listed.getD e.on false=true) ->
   Inv c G t b w->rO (R.filterMap (cS ops.toList)++(PL.map PE.d++SL.map XE.d)) a b->(∀ i∈R,∀ o,ops.toList[i]?=some o->∃ d vc,o.dst=some d/\rop c.E t o=some (vc,t.aE.getD d .any)/\Vc.ok vc) ->
   ∀ n,mb c.E (cq ops.toList []) n Rc X K t->wpAny c.P .any ops Q' fuel listed a w:=by
 intro N;induction N with
 | zero =>
  intro fuel Rc X R PL SL G t a b w listed hN hf dh hR hX H8 OC Oz SR YJ rp rT hl E9 hI hA hs nn hK;have h2:X=[]:=b1X (by omega);subst h2;have h3:PL=[]:=by
   cases PL with
   | nil=>rfl
   | cons p PL=>obtain⟨o,T,τ,r,hm,_⟩:=(rp p (by simp)).ex;cases hm
  subst h3;have h4:SL=[]:=by
   cases SL with
   | nil=>rfl
   | cons p SL=>have hm:=(rT p (by simp)).mem;cases hm
  subst h4;have h1:R=[]:=List.eq_nil_of_length_eq_zero (by simp at hf;omega);subst h1;have rr:a=b:=rO.eq (by simpa using hA);subst rr;exact K2 fuel G t a w listed (by simp at hf;omega) dh (λ k hk=>by rw[hl k hk];simp) hI (by rw[XW] at hK;exact hK)
 | succ N ih =>
  intro fuel Rc X R PL SL G t a b w listed hN hf dh hR hX H8 OC Oz SR YJ rp rT hl E9 hI hA hs nn hK;by_cases Mq:R=[]/\X=[]
  .obtain⟨rfl,rfl⟩:=Mq;have h3:PL=[]:=by
    cases PL with
    | nil=>rfl
    | cons p PL=>obtain⟨o,T,τ,r,hm,_⟩:=(rp p (by simp)).ex;cases hm
   subst h3;have h4:SL=[]:=by
    cases SL with
    | nil=>rfl
    | cons p SL=>have hm:=(rT p (by simp)).mem;cases hm
   subst h4;have rr:a=b:=rO.eq (by simpa using hA);subst rr;exact K2 fuel G t a w listed (by simp at hf;omega) dh (λ k hk=>by rw[hl k hk];simp) hI (by rw[XW] at hK;exact hK)
  have a1u:∀ i o,i<ops.size->ops.toList[i]?=some o->listed.getD i false=true->∀ k,Nat.testBit ((cq ops.toList []).getD i 0) k=true->listed.getD k false=true/\k<ops.size:=λ i o hi ho hli k hk =>
   Ht (l:=ops.toList) (D:=λ k=>listed.getD k false=true/\k<ops.size) (λ k hk o' dj e he hb=>⟨E9 k hk.2 hk.1 o' dj e he hb,by
    have:=cB e9 k o' dj e he hb;have:=hk.2;omega⟩) i o ho (λ e he hb=>⟨E9 i hi hli o ho e he hb,by
    have:=cB e9 i o ho e he hb;omega⟩) k hk
  by_cases TM:∃ x0 xs p,X=x0::xs/\p∈PL/\p.i=x0.1
  .obtain⟨x0,xs,p,rfl,hp,hpi⟩:=TM;obtain⟨o,T,τ,r,hm,bL,Mw,hT,oR⟩:=(rp p hp).ex;have hx0:x0=(p.i,o):=by
    have h1:=(hX x0 (by simp)).2.1;have h2:=(hX _ hm).2.1;rw[<-hpi,h2] at h1;simp only[b0L] at h1;rw[h1,hpi]
   subst hx0;obtain⟨mm,hK⟩:=VB (by simp[en,sr,bL]) hK;rw[Zn bL Mw hT,<-oR] at hK;obtain⟨k1,k2⟩:=pJ hK.2;have UU:=hX _ hm;have hlp:listed.getD p.i false=true:=(hl p.i (by have:=UU.1;simp only at this;omega)).2 ⟨UU.1,λ q=>Oz _ q _ hm rfl, .inr (b0Q.2 (.inl (b0S.2 ⟨p,hp,rfl⟩)))⟩;have gT:∀ j∈R,∃ o',ops.toList[j]?=some o'/\(j,o')∈Rc.filter λ r => !Nat.testBit ((cq ops.toList []).getD p.i 0) r.1:=λ j hj=>by
    obtain⟨q1,o',q2,q3,_,_⟩:=hR j hj;refine⟨o',q2,b2i.2 ⟨q3,?_⟩⟩;simp only[b1i];cases hb:Nat.testBit ((cq ops.toList []).getD p.i 0) j with
    | false=>rfl
    | true=>exact absurd hj ((hl j (by omega)).1 (a1u p.i o (by have:=UU.1;simp only at this;omega) UU.2.1 hlp j hb).1).2.1
   have a5f:∀ q∈PL.erase p,q∈PL/\q.i≠p.i/\q.b≠p.b:=λ q hq=>by
    have a2H:=b2s hq;have QC:=b4z hp;have n1:=(QC.map PE.i).nodup_iff.1 (b1k.1 SR).1;have n2:=(QC.map PE.b).nodup_iff.1 YJ;simp only[b1J,b1G] at n1 n2;exact⟨a2H,λ e=>n1.1 (b0S.2 ⟨q,hq,e⟩),λ e=>n2.1 (b0S.2 ⟨q,hq,e⟩)⟩
   have a8i:(PL.erase p).length+1=PL.length:=by
    have:=b2Q hp;have:=b2V hp;omega
   simp only[b1J,b1G] at OC;refine ih fuel _ xs R (PL.erase p) SL _ _ a (b.put (some p.d) p.x) w listed (by simp at hN;omega) (by simp at hf;omega) dh (λ j hj=>?_) (λ y hy=>hX y (by simp[hy])) H8 OC.2 (λ j hj y hy=>Oz j hj y (by simp[hy])) ?_ ?_ (λ q hq=>?_) (λ e he=>?_) (λ k hk=>?_) E9 (a0S hI (rp p hp)) ?_ (λ j hj o' dj=>?_) _ k2
   .obtain⟨q1,o',q2,q3,q4,q7⟩:=hR j hj;obtain⟨o2,q5,q6⟩:=gT j hj;have e:o'=o2:=by rw[q2] at q5;simpa using q5
    subst e;exact⟨q1,o',q2,q6,q4,q7⟩
   .exact SR.sublist ((b3s _ b3W).append (List.Sublist.refl _))
   .exact YJ.sublist (b3s _ b3W)
   .obtain⟨Ki,Ig,hq3⟩:=a5f q hq;obtain⟨o2,T2,pL,r2,m1,m2,m3,m4,m5⟩:=(rp q Ki).ex;refine⟨⟨o2,T2,pL,r2,?_,m2,m3,m4,m5⟩,(rp q Ki).val,(rp q Ki).ptr,(rp q Ki).lt,(rp q Ki).new,a0R (rp p hp) (rp q Ki).fr hq3⟩;rcases b1e.1 m1 with e|m1
    .simp only[b0O] at e;exact absurd e.1 Ig
    .exact m1
   .have h3:=rT e he;refine⟨?_,h3.dst,h3.val,h3.run⟩;rcases b1e.1 h3.mem with q|q
    .simp only[b0O] at q;rcases h3.run with ⟨q',_⟩|⟨⟨q',_⟩,_⟩<;>(rw[q.2,bL] at q';cases q')
    .exact q
   .rw[hl k hk];constructor
    .rintro⟨q1,q2,q3⟩;refine⟨q1,q2,?_⟩;by_cases CH:k=p.i
     .subst CH;exact .inl λ y hy e=>OC.1 (b0S.2 ⟨y,hy,e⟩)
     .rcases q3 with q3|q3
      .exact .inl λ y hy=>q3 y (by simp[hy])
      .rcases b0Q.1 q3 with q3|q3
       .obtain⟨q,hq,rfl⟩:=b0S.1 q3;exact .inr (b0Q.2 (.inl (b0S.2 ⟨q,(b2Y (λ e=>CH (by rw[e]))).2 hq,rfl⟩)))
       .exact .inr (b0Q.2 (.inr q3))
    .rintro⟨q1,q2,q3⟩;refine⟨q1,q2,?_⟩;by_cases CH:k=p.i
     .subst CH;exact .inr (b0Q.2 (.inl (b0S.2 ⟨p,hp,rfl⟩)))
     .rcases q3 with q3|q3
      .refine .inl λ y hy=>?_;rcases b1e.1 hy with rfl|hy
       .exact λ e=>CH e.symm
       .exact q3 y hy
      .rcases b0Q.1 q3 with q3|q3
       .obtain⟨q,hq,rfl⟩:=b0S.1 q3;exact .inr (b0Q.2 (.inl (b0S.2 ⟨q,b2s hq,rfl⟩)))
       .exact .inr (b0Q.2 (.inr q3))
   .refine⟨by rw[kN];exact hA.size,hA.da,by rw[oE];exact hA.db,λ u hu=>?_⟩;by_cases hud:u=p.d
    .subst hud;rw[(rp p hp).val,fV,<-hA.size];by_cases bX:p.d<a.tmps.size
     .rw[b1q bX,b1q ⟨rfl,bX⟩]
     .rw[b0Y bX,b0Y (λ q=>bX q.2),b1I,b2j (by rw[<-hA.size];omega)];rfl
    .rw[fV,if_neg (λ q=>hud (by simpa using q.1.symm))];refine hA.at' u λ hm=>hu ?_;rcases List.mem_append.1 hm with hm|hm
     .exact b0Q.2 (.inl hm)
     .rcases b0Q.1 hm with hm|hm
      .obtain⟨q,hq,rfl⟩:=b0S.1 hm;exact b0Q.2 (.inr (b0Q.2 (.inl (b0S.2 ⟨q,(b2Y (λ e=>hud (by rw[e]))).2 hq,rfl⟩))))
      .exact b0Q.2 (.inr (b0Q.2 (.inr hm)))
   .obtain⟨o2,q5,q6⟩:=gT j hj;rw[q5] at dj;simp only[b0L] at dj;subst dj;exact k1 (j,o2) q6
  by_cases OD:∃ x0 xs e,X=x0::xs/\e∈SL/\e.i=x0.1
  .obtain⟨x0,xs,e,rfl,he,hei⟩:=OD;have YI:=rT e he;have hx0:x0=(e.i,e.o):=by
    have h1:=(hX x0 (by simp)).2.1;have h2:=(hX _ YI.mem).2.1;rw[<-hei,h2] at h1;simp only[b0L] at h1;rw[h1,hei]
   subst hx0;obtain⟨mm,hK⟩:=VB YI.lz hK;have UU:=hX _ YI.mem;have hlp:listed.getD e.i false=true:=(hl e.i (by have:=UU.1;simp only at this;omega)).2 ⟨UU.1,λ q=>Oz _ q _ YI.mem rfl, .inr (b0Q.2 (.inr (b0S.2 ⟨e,he,rfl⟩)))⟩;have a4U:=a1u e.i e.o (by have:=UU.1;simp only at this;omega) UU.2.1 hlp;have gT:∀ j∈R,∃ o',ops.toList[j]?=some o'/\(j,o')∈Rc.filter λ r => !Nat.testBit ((cq ops.toList []).getD e.i 0) r.1:=λ j hj=>by
    obtain⟨q1,o',q2,q3,_,_⟩:=hR j hj;refine⟨o',q2,b2i.2 ⟨q3,?_⟩⟩;simp only[b1i];cases hb:Nat.testBit ((cq ops.toList []).getD e.i 0) j with
    | false=>rfl
    | true=>exact absurd hj ((hl j (by omega)).1 (a4U j hb).1).2.1
   have hDu:∀ u,u∈R.filterMap (cS ops.toList)++(PL.map PE.d++SL.map XE.d)->u∈dstsOf (Seg.filter λ y => !Nat.testBit ((cq ops.toList []).getD e.i 0) y.1)++wA c.E Seg:=λ u hu=>by
    rcases b0Q.1 hu with hu|hu
    .obtain⟨j,hj,GW⟩:=List.mem_filterMap.1 hu;obtain⟨q1,o',q2,_,q3,_⟩:=hR j hj;refine List.mem_append.2 (.inl (kg.2 ⟨(j,o'),List.mem_filter.2 ⟨q3,?_⟩,by simpa [cS,q2] using GW⟩));simp only[Bool.not_eq_true'];cases hb:Nat.testBit ((cq ops.toList []).getD e.i 0) j with
     | false=>rfl
     | true=>exact absurd hj ((hl j (by omega)).1 (a4U j hb).1).2.1
    .rcases b0Q.1 hu with hu|hu
     .obtain⟨p,hp,rfl⟩:=b0S.1 hu;obtain⟨o2,T,τ,r,hm,Va,Mw,_⟩:=(rp p hp).ex;exact b0Q.2 (.inr (qK c.E (hX _ hm).2.2 (by simp[en,sr,Va]) Mw))
     .obtain⟨q,hq,rfl⟩:=b0S.1 hu;exact b0Q.2 (.inr (qK c.E (hX _ (rT q hq).mem).2.2 (rT q hq).lz (rT q hq).dst))
   obtain⟨v,S3,hK⟩:∃ v,VR c G t.ah w v e.x/\lq c.E (Rc.filter λ r => !Nat.testBit ((cq ops.toList []).getD e.i 0) r.1) (t.put (some e.d) v) (mb c.E (cq ops.toList []) mm (Rc.filter λ r => !Nat.testBit ((cq ops.toList []).getD e.i 0) r.1) xs K (t.put (some e.d) v)):=by
    rcases YI.run with ⟨hx,hr⟩|⟨hx,p,hp⟩
    .obtain⟨tt,ix,bL⟩:∃ tt ix,e.o.op = .extract tt ix:=by
      have:=hx;unfold oT at this;split at this
      .exact⟨_,_,by assumption⟩
      .cases this
     obtain⟨vs,v,hv1,hv2,hK⟩:=V8 bL YI.dst hK;have c9:=hr w;rw[hA.exec (rI (a5a _ UU.2.2 hx) hDu)] at c9;have S3:=YD hI bL hv1 hv2 c9;exact⟨v,S3,Jv S3 hK⟩
    .obtain⟨τ,hK⟩:=a0I hx (TN _ UU.2.2) YI.dst hK;refine⟨_,?_,hK⟩;rw[hp];exact⟨p,0,rfl,b1E _,by simp[maxLen],by simp, .inl rfl⟩
   obtain⟨k1,k2⟩:=pJ hK;have a5f:∀ q∈SL.erase e,q∈SL/\q.i≠e.i:=λ q hq=>by
    have a2H:=b2s hq;have QC:=b4z he;have n1:=(QC.map XE.i).nodup_iff.1 (b1k.1 SR).2.1;simp only[b1J,b1G] at n1;exact⟨a2H,λ q'=>n1.1 (b0S.2 ⟨q,hq,q'⟩)⟩
   have a8i:(SL.erase e).length+1=SL.length:=by
    have:=b2Q he;have:=b2V he;omega
   simp only[b1J,b1G] at OC;refine ih fuel _ xs R PL (SL.erase e) _ _ a (b.put (some e.d) e.x) w listed (by simp at hN;omega) (by simp at hf;omega) dh (λ j hj=>?_) (λ y hy=>hX y (by simp[hy])) H8 OC.2 (λ j hj y hy=>Oz j hj y (by simp[hy])) ?_ YJ (λ q hq=>?_) (λ q hq=>?_) (λ k hk=>?_) E9 (Inv.put (d:=some e.d) hI S3) ?_ (λ j hj o' dj=>?_) _ k2
   .obtain⟨q1,o',q2,q3,q4,q7⟩:=hR j hj;obtain⟨o2,q5,q6⟩:=gT j hj;have e:o'=o2:=by rw[q2] at q5;simpa using q5
    subst e;exact⟨q1,o',q2,q6,q4,q7⟩
   .exact SR.sublist ((List.Sublist.refl _).append (b3s _ b3W))
   .obtain⟨o2,T2,pL,r2,m1,m2,m3,m4,m5⟩:=(rp q hq).ex;refine⟨⟨o2,T2,pL,r2,?_,m2,m3,m4,m5⟩,(rp q hq).val,(rp q hq).ptr,(rp q hq).lt,(rp q hq).new,(rp q hq).fr⟩;rcases b1e.1 m1 with e'|m1
    .simp only[b0O] at e';rcases YI.run with ⟨q',_⟩|⟨⟨q',_⟩,_⟩<;>(rw[<-e'.2,m2] at q';cases q')
    .exact m1
   .obtain⟨Ki,Ig⟩:=a5f q hq;have h3:=rT q Ki;refine⟨?_,h3.dst,h3.val,h3.run⟩;rcases b1e.1 h3.mem with e'|e'
    .simp only[b0O] at e';exact absurd e'.1 Ig
    .exact e'
   .rw[hl k hk];constructor
    .rintro⟨q1,q2,q3⟩;refine⟨q1,q2,?_⟩;by_cases CH:k=e.i
     .subst CH;exact .inl λ y hy e=>OC.1 (b0S.2 ⟨y,hy,e⟩)
     .rcases q3 with q3|q3
      .exact .inl λ y hy=>q3 y (by simp[hy])
      .rcases b0Q.1 q3 with q3|q3
       .exact .inr (b0Q.2 (.inl q3))
       .obtain⟨q,hq,rfl⟩:=b0S.1 q3;exact .inr (b0Q.2 (.inr (b0S.2 ⟨q,(b2Y (λ e=>CH (by rw[e]))).2 hq,rfl⟩)))
    .rintro⟨q1,q2,q3⟩;refine⟨q1,q2,?_⟩;by_cases CH:k=e.i
     .subst CH;exact .inr (b0Q.2 (.inr (b0S.2 ⟨e,he,rfl⟩)))
     .rcases q3 with q3|q3
      .refine .inl λ y hy=>?_;rcases b1e.1 hy with rfl|hy
       .exact λ e=>CH e.symm
       .exact q3 y hy
      .rcases b0Q.1 q3 with q3|q3
       .exact .inr (b0Q.2 (.inl q3))
       .obtain⟨q,hq,rfl⟩:=b0S.1 q3;exact .inr (b0Q.2 (.inr (b0S.2 ⟨q,b2s hq,rfl⟩)))
   .refine⟨by rw[kN];exact hA.size,hA.da,by rw[oE];exact hA.db,λ u hu=>?_⟩;by_cases hud:u=e.d
    .subst hud;rw[YI.val,fV,<-hA.size];by_cases bX:e.d<a.tmps.size
     .rw[b1q bX,b1q ⟨rfl,bX⟩]
     .rw[b0Y bX,b0Y (λ q=>bX q.2),b1I,b2j (by rw[<-hA.size];omega)];rfl
    .rw[fV,if_neg (λ q=>hud (by simpa using q.1.symm))];refine hA.at' u λ hm=>hu ?_;rcases List.mem_append.1 hm with hm|hm
     .exact b0Q.2 (.inl hm)
     .rcases b0Q.1 hm with hm|hm
      .exact b0Q.2 (.inr (b0Q.2 (.inl hm)))
      .obtain⟨q,hq,rfl⟩:=b0S.1 hm;exact b0Q.2 (.inr (b0Q.2 (.inr (b0S.2 ⟨q,(b2Y (λ e=>hud (by rw[e]))).2 hq,rfl⟩))))
   .obtain⟨o2,q5,q6⟩:=gT j hj;rw[q5] at dj;simp only[b0L] at dj;subst dj;exact k1 (j,o2) q6
  have a4T:∀ p∈PL,∃ x∈X,x.1=p.i:=λ p hp=>by
   obtain⟨o,T,τ,r,hm,_⟩:=(rp p hp).ex;exact⟨_,hm,rfl⟩
  have Z7:∀ p∈SL,∃ x∈X,x.1=p.i:=λ p hp=>⟨_,(rT p hp).mem,rfl⟩;have hun:∃ k,k<hi/\¬ (listed.getD k false=true):=by
   rcases R with _|⟨i,R⟩
   .rcases X with _|⟨x,X⟩
    .exact absurd ⟨rfl,rfl⟩ Mq
    .have:=(hX x (by simp)).1;refine⟨x.1,this,λ hh=>((hl x.1 (by omega)).1 hh).2.2.elim (λ q=>q x (by simp) rfl) λ q=>?_⟩;rcases b0Q.1 q with q|q
     .obtain⟨p,hp,e⟩:=b0S.1 q;exact TM ⟨x,X,p,rfl,hp,e⟩
     .obtain⟨p,hp,e⟩:=b0S.1 q;exact OD ⟨x,X,p,rfl,hp,e⟩
   .have:=(hR i (by simp)).1;exact⟨i,this,λ hh=>((hl i (by omega)).1 hh).2.1 (by simp)⟩
  have OO:PL.length+SL.length<R.length+X.length:=by
   rcases R with _|⟨i,R⟩
   .rcases X with _|⟨x,X⟩
    .exact absurd ⟨rfl,rfl⟩ Mq
    .have wV:(PL.map PE.i++SL.map XE.i) ⊆ X.map (·.1):=λ k hk=>by
      rcases b0Q.1 hk with hk|hk
      .obtain⟨p,hp,rfl⟩:=b0S.1 hk;obtain⟨y,hy,e⟩:=a4T p hp;rcases b1e.1 hy with rfl|hy
       .exact absurd ⟨_,_,p,rfl,hp,e.symm⟩ TM
       .exact b0S.2 ⟨y,hy,e⟩
      .obtain⟨p,hp,rfl⟩:=b0S.1 hk;obtain⟨y,hy,e⟩:=Z7 p hp;rcases b1e.1 hy with rfl|hy
       .exact absurd ⟨_,_,p,rfl,hp,e.symm⟩ OD
       .exact b0S.2 ⟨y,hy,e⟩
     have:=b3g SR wV;simp at this ⊢;omega
   .have wV:(PL.map PE.i++SL.map XE.i) ⊆ X.map (·.1):=λ k hk=>by
     rcases b0Q.1 hk with hk|hk
     .obtain⟨p,hp,rfl⟩:=b0S.1 hk;obtain⟨y,hy,e⟩:=a4T p hp;exact b0S.2 ⟨y,hy,e⟩
     .obtain⟨p,hp,rfl⟩:=b0S.1 hk;obtain⟨y,hy,e⟩:=Z7 p hp;exact b0S.2 ⟨y,hy,e⟩
    have:=b3g SR wV;simp at this ⊢;omega
  obtain⟨fuel,rfl⟩:∃ f,fuel=f+1:=⟨fuel - 1,by omega⟩;obtain⟨k1,QB⟩:=hun;obtain⟨k0,⟨a2F,wT⟩,a0h⟩:=exists_least (p:=λ k=>k<hi/\¬ (listed.getD k false=true)) k1 QB;have a0e:ops[k0]?=some (ops[k0]'(by omega)):=b1W (by omega);constructor
  .intro zR;have:k0∈Region.ready .any ops listed:=(mem_ready dh).2 ⟨_,a0e,by
    cases hb:listed.getD k0 false with
    | false=>rfl
    | true=>exact absurd hb wT,λ e he hb=>by
    have bX:=cB e9 k0 ops[k0] (by simp) e he hb;exact b3B λ hh=>a0h e.on bX ⟨by omega,hh⟩⟩
   rw[zR] at this;cases this
  .intro i rW;obtain⟨o,cU,h1,h2⟩:=(mem_ready dh).1 rW;have K4:=(Array.getElem?_eq_some_iff.1 cU).1;have gn:ops.toList[i]?=some o:=by simpa using cU
   have F9:=Ht (l:=ops.toList) (D:=λ k=>listed.getD k false=true/\k<ops.size) (λ k hk o' dj e he hb=>⟨E9 k hk.2 hk.1 o' dj e he hb,by
    have:=cB e9 k o' dj e he hb;have:=hk.2;omega⟩) i o gn (λ e he hb=>⟨h2 e he hb,by
    have:=cB e9 i o gn e he hb;omega⟩)
   have wS:i<hi:=by
    rcases b1R i hi with h|h
    .exact h
    .exact absurd (F9 k0 (uD i o h gn k0 a2F)).1 wT
   have zT:∀ k,(listed.setIfInBounds i true).getD k false=true↔listed.getD k false=true\/k=i:=λ k=>xp (by omega);have a0a:∀ k,k<ops.size->(listed.setIfInBounds i true).getD k false=true->∀ o,ops.toList[k]?=some o->∀ e∈o.after.toList,Region.binds .any e=true->(listed.setIfInBounds i true).getD e.on false=true:=by
    intro k hk OM o' dj e he hb;rw[zT] at OM ⊢;rcases OM with OM|rfl
    .exact .inl (E9 k hk OM o' dj e he hb)
    .rw[gn] at dj;simp only[b0L] at dj;subst dj;exact .inl (h2 e he hb)
   have a5i:¬ (listed.getD i false=true):=by rw[h1];simp
   have a2I:=a5i;rw[hl i K4] at a2I;have hXi:i∉R->∃ x∈X,x.1=i:=λ Mu=>b3B λ hh=>a2I ⟨wS,Mu, .inl λ x hx e=>hh ⟨x,hx,e⟩⟩;have XI:∀ p∈PL,p.i≠i:=λ p hp e=>by
    obtain⟨x,hx,hxe⟩:=a4T p hp;exact a2I ⟨wS,λ q=>Oz i q x hx (by rw[hxe,e]), .inr (b0Q.2 (.inl (b0S.2 ⟨p,hp,e⟩)))⟩
   have XJ:∀ p∈SL,p.i≠i:=λ p hp e=>by
    obtain⟨x,hx,hxe⟩:=Z7 p hp;exact a2I ⟨wS,λ q=>Oz i q x hx (by rw[hxe,e]), .inr (b0Q.2 (.inr (b0S.2 ⟨p,hp,e⟩)))⟩
   have OA:(i,o)∈Seg:=by
    by_cases Mu:i∈R
    .obtain⟨_,o',dj,_,hm,_⟩:=hR i Mu;rw[gn] at dj;simp only[b0L] at dj;subst dj;exact hm
    .obtain⟨x,hx,hxi⟩:=hXi Mu;have:=(hX x hx).2.1;rw[hxi,gn] at this;simp only[b0L] at this;have e:x=(i,o):=by rw[<-hxi,this]
     rw[<-e];exact (hX x hx).2.2
   have hg:o.guard=none:=a6v _ OA;have hPd:∀ p∈PL,o.dst≠some p.d:=λ p hp e=>by
    obtain⟨o2,T,τ,r,hm,bL,Mw,_⟩:=(rp p hp).ex;have hsg:=(hX _ hm).2.2;exact XI p hp (a4X _ hsg _ OA p.d Mw e)
   have hSd:∀ p∈SL,o.dst≠some p.d:=λ p hp e=>XJ p hp (a4X _ (hX _ (rT p hp).mem).2.2 _ OA p.d (rT p hp).dst e);have hSu:∀ p∈SL,∀ t,o.dst=some t->jC [t] p.o=true:=λ p hp t ht=>by
    have hm:=hX _ (rT p hp).mem;have hlp:listed.getD p.i false=true:=(hl p.i (by have:=hm.1;simp only at this;omega)).2 ⟨hm.1,λ q=>Oz _ q _ (rT p hp).mem rfl, .inr (b0Q.2 (.inr (b0S.2 ⟨p,hp,rfl⟩)))⟩;rcases (rT p hp).run with ⟨hex,_⟩|⟨Fa,_⟩;rotate_left
    .exact a2e Fa.1 _
    refine rI (a5a _ hm.2.2 hex) λ u hu=>?_;simp only[b1x] at hu;subst hu;refine b0Q.2 (.inl (kg.2 ⟨_,b2i.2 ⟨OA,?_⟩,ht⟩));simp only[b1i];cases hb:Nat.testBit ((cq ops.toList []).getD p.i 0) i with
    | false=>rfl
    | true=>exact absurd (a1u p.i p.o (by have:=hm.1;simp only at this;omega) hm.2.1 hlp i hb).1 a5i
   have hw:Region.wanted o (yielded ops a.tmps)=true:=by simp[Region.wanted,hg]
   unfold wpOp;simp only[cU];rw[if_pos hw];refine .inl ?_;by_cases Mu:i∈R
   ·
    obtain⟨_,o',dj,a2H,_,tm,hu⟩:=hR i Mu;rw[gn] at dj;simp only[b0L] at dj;subst dj;obtain⟨d,vc,hd,hr,fZ⟩:=hs i Mu o gn;obtain⟨x,hx,hvx⟩:=V7 hE hI hr fZ;have hu:jC (R.filterMap (cS ops.toList)++(PL.map PE.d++SL.map XE.d)) o=true:=rI hu λ t ht=>by
     rcases b0Q.1 ht with ht|ht
     .obtain⟨j,hj,GW⟩:=List.mem_filterMap.1 ht;obtain⟨q1,o',q2,_,q3,_⟩:=hR j hj;refine kg.2 ⟨(j,o'),List.mem_filter.2 ⟨q3,?_⟩,by simpa [cS,q2] using GW⟩;simp only[Bool.not_eq_true'];cases hb:Nat.testBit ((cq ops.toList []).getD i 0) j with
      | false=>rfl
      | true=>exact absurd hj ((hl j (by omega)).1 (F9 j hb).1).2.1
     .obtain⟨zi,zo,hm,hlz,Mw⟩:∃ zi zo,(zi,zo)∈X/\en c.E zo=true/\zo.dst=some t:=by
       rcases b0Q.1 ht with ht|ht
       .obtain⟨p,hp,rfl⟩:=b0S.1 ht;obtain⟨o2,T,τ,r,hm,bL,Mw,_⟩:=(rp p hp).ex;exact⟨_,o2,hm,by simp[en,sr,bL],Mw⟩
       .obtain⟨p,hp,rfl⟩:=b0S.1 ht;exact⟨_,p.o,(rT p hp).mem,(rT p hp).lz,(rT p hp).dst⟩
      have hsg:=(hX _ hm).2.2;by_cases hb:Nat.testBit ((cq ops.toList []).getD i 0) zi=true
      .simp only[rF,b0R,b1L,b2y,b1i] at tm;rcases tm.2 _ hsg with q|q
       .rw[GI (W1 q)] at hlz;cases hlz
       .rw[hb] at q;cases q
      .exact kg.2 ⟨_,List.mem_filter.2 ⟨hsg,by simpa using hb⟩,Mw⟩
    unfold Oper.wp;rw[hA.exec hu,hx];show wpAny c.P .any ops Q' fuel _ (a.put o.dst x) w;have hfl:(R.erase i).length+1=R.length:=by
     have:=b2Q Mu;have:=b2V Mu;omega
    have wV:∀ t,t∈(R.erase i).filterMap (cS ops.toList)->t∈R.filterMap (cS ops.toList):=λ t ht=>by
     obtain⟨q,hq,hqd⟩:=b2M.1 ht;exact b2M.2 ⟨q,b2s hq,hqd⟩
    refine ih fuel Rc X (R.erase i) PL SL G t (a.put o.dst x) (b.put o.dst x) w _ (by omega) (by omega) (by rw[b2l];exact dh) (λ j hj=>?_) hX (H8.erase i) OC (λ j hj=>Oz j (b2s hj)) SR YJ (λ p hp=>(rp p hp).put (hPd p hp)) (λ e he=>(rT e he).put hA.da (hSd e he) (hSu e he)) (λ k hk=>?_) a0a (by rw[hd];exact a3R hI hvx) (hA.put λ q hq WU=>?_) (λ j hj=>hs j (b2s hj)) _ hK
    .exact hR j (b2s hj)
    .rw[zT,hl k hk,H8.mem_erase_iff];constructor
     .rintro (⟨q1,q2,q3⟩|rfl)
      .exact⟨q1,λ q=>q2 q.2,q3⟩
      .exact⟨wS,λ q=>q.1 rfl, .inl λ x hx=>(Oz _ Mu x hx).symm⟩
     .rintro⟨q1,q2,q3⟩;by_cases Kh:k=i
      .exact .inr Kh
      .exact .inl ⟨q1,λ q=>q2 ⟨Kh,q⟩,q3⟩
    .rcases b0Q.1 hq with hq|hq
     .obtain⟨j,hj,GW⟩:=b2M.1 hq;by_cases xP:j=i
      .subst xP;rw[<-GW];simp[cS,gn]
      .exact absurd (b0Q.2 (.inl (b2M.2 ⟨j,H8.mem_erase_iff.2 ⟨xP,hj⟩,GW⟩))) WU
     .exact absurd (b0Q.2 (.inr hq)) WU
   .obtain⟨x,hx,hxi⟩:=hXi Mu;have hxo:x=(i,o):=by
     have:=(hX x hx).2.1;rw[hxi,gn] at this;simp only[b0L] at this;rw[<-hxi,this]
    subst hxo;have hZ:∀ b,(∃ p∈PL,p.b=b)->yF c G t.ah w b:=λ b ⟨p,hp,e⟩=>e ▸ (rp p hp).fr;by_cases hal:sr o.op=true
    ·
     have SS:=TN _ OA;obtain⟨T,bL⟩:∃ T,o.op = .alloc T:=by
      unfold sr at hal;split at hal
      .exact⟨_,by assumption⟩
      .cases hal
     unfold ui at SS;simp only[bL,Bool.and_eq_true,Option.isSome_iff_exists] at SS;obtain⟨⟨d,hd⟩,Mp,⟨⟨τ,r⟩,hT⟩⟩:=SS;simp only[hd,xL,Nat.blt_eq] at Mp;obtain⟨w',p,hpi,hpd,hpb,c9,A5,hpo,CH⟩:=Yz hE hI (a2:=a) bL hd hT Mp hx;unfold Oper.wp;rw[c9];show wpAny c.P .any ops Q' fuel _ (a.put o.dst p.x) w';rw[hd];refine ih fuel Rc X R (p::PL) SL G t (a.put (some d) p.x) b w' _ (by omega) (by simp;omega) (by rw[Array.size_setIfInBounds];exact dh) hR hX H8 OC Oz ?_ ?_ (λ q hq=>?_) (λ e he=>(rT e he).put hA.da (by rw[<-hd];exact hSd e he) (by rw[<-hd];exact hSu e he)) (λ k hk=>?_) a0a A5 ?_ hs _ hK
     .simp only[b1J,b1Z,b1G];refine⟨λ hm=>?_,SR⟩;rcases b0Q.1 hm with hm|hm
      .obtain⟨q,hq,e⟩:=b0S.1 hm;exact XI q hq (by rw[e,hpi])
      .obtain⟨q,hq,e⟩:=b0S.1 hm;exact XJ q hq (by rw[e,hpi])
     .simp only[b1J,b1G];refine⟨λ hm=>?_,YJ⟩;obtain⟨q,hq,e⟩:=b0S.1 hm;have:=(rp q hq).fr.2.2.1;rw[e,hpb] at this;exact b3c _ this
     .rcases b1e.1 hq with rfl|hq
      .exact hpo
      .have h3:=(rp q hq).put (d:=some d) (x:=p.x) (by rw[<-hd];exact hPd q hq);have bX:=h3.fr.2.2.1;refine⟨h3.ex,h3.val,h3.ptr,h3.lt,?_,h3.fr.grow CH.size⟩;obtain⟨l,ty,q1,q2⟩:=h3.new;exact⟨l,ty,by rw[CH.block q.b bX (λ h=>h)];exact q1,q2⟩
     .rw[zT,hl k hk,b1J,b1Z,b1e,hpi];constructor
      .rintro (⟨q1,q2,q3⟩|rfl)
       .exact⟨q1,q2,q3.imp id .inr⟩
       .exact⟨wS,Mu, .inr (.inl rfl)⟩
      .rintro⟨q1,q2,q3⟩;by_cases Kh:k=i
       .exact .inr Kh
       .exact .inl ⟨q1,q2,q3.imp id λ q=>q.resolve_left Kh⟩
     .refine⟨by rw[kN];exact hA.size,by rw[oE];exact hA.da,hA.db,λ u hu=>?_⟩;simp only[List.map_cons,List.cons_append,List.mem_append,List.mem_cons,hpd] at hu;rw[fV,if_neg (λ q=>hu (.inr (.inl (by simpa using q.1.symm))))];exact hA.at' u λ hm=>hu ((List.mem_append.1 hm).imp id λ q => .inr (List.mem_append.1 q))
    by_cases hex:oT o.op=true
    ·
     obtain⟨tt,ix,bL⟩:∃ tt ix,o.op = .extract tt ix:=by
      have:=hex;unfold oT at this;split at this
      .exact⟨_,_,by assumption⟩
      .cases this
     have a9u:By t o.op=true:=by
      obtain⟨x0,xs,rfl⟩:∃ x0 xs,X=x0::xs:=by
       cases X with
       | nil=>cases hx
       | cons x0 xs=>exact⟨x0,xs,rfl⟩
      obtain⟨_,h3,_⟩:=MD hK;unfold Za at h3;rw[List.all_eq_true] at h3;have h4:=h3 _ hx;rw[Bool.or_eq_true] at h4;rcases h4 with h4|h4
      .exact h4
      .rw[List.any_eq_true] at h4;obtain⟨y,hy,h4⟩:=h4;rw[b0R,b1i] at h4;have h5:=(F9 y.1 h4.2).1;have h6:=(hX y hy).1;rcases ((hl y.1 (by omega)).1 h5).2.2 with h7|h7
       .exact absurd rfl (h7 y hy)
       .have hyl:en c.E y.2=true:=by
         have e0:=(hX y hy).2.1;rcases b0Q.1 h7 with h7|h7
         .obtain⟨p,hp,e⟩:=b0S.1 h7;obtain⟨o2,T,τ,r,hm,Va,Mw,_⟩:=(rp p hp).ex;have e1:=(hX _ hm).2.1;simp only at e1;rw[e,e0] at e1;simp only[b0L] at e1;rw[e1];simp[en,sr,Va]
         .obtain⟨p,hp,e⟩:=b0S.1 h7;have e1:=(hX _ (rT p hp).mem).2.1;simp only at e1;rw[e,e0] at e1;simp only[b0L] at e1;rw[e1];simp[(rT p hp).lz]
        rw[hyl] at h4;exact absurd h4.1 (by simp)
     obtain⟨x,c9⟩:=YC hI bL a9u;have SS:=a5a _ OA hex;obtain⟨d,hd⟩:∃ d,o.dst=some d:=by
      have:=TN _ OA;simp only[ui,bL,Option.isSome_iff_exists] at this;exact this
     have hDu:∀ u,u∈R.filterMap (cS ops.toList)++(PL.map PE.d++SL.map XE.d)->u∈dstsOf (Seg.filter λ y => !Nat.testBit ((cq ops.toList []).getD i 0) y.1)++wA c.E Seg:=λ u hu=>by
      rcases b0Q.1 hu with hu|hu
      .obtain⟨j,hj,GW⟩:=List.mem_filterMap.1 hu;obtain⟨q1,o',q2,_,q3,_⟩:=hR j hj;refine List.mem_append.2 (.inl (kg.2 ⟨(j,o'),List.mem_filter.2 ⟨q3,?_⟩,by simpa [cS,q2] using GW⟩));simp only[Bool.not_eq_true'];cases hb:Nat.testBit ((cq ops.toList []).getD i 0) j with
       | false=>rfl
       | true=>exact absurd hj ((hl j (by omega)).1 (F9 j hb).1).2.1
      .rcases b0Q.1 hu with hu|hu
       .obtain⟨p,hp,rfl⟩:=b0S.1 hu;obtain⟨o2,T,τ,r,hm,Va,Mw,_⟩:=(rp p hp).ex;exact b0Q.2 (.inr (qK c.E (hX _ hm).2.2 (by simp[en,sr,Va]) Mw))
       .obtain⟨q,hq,rfl⟩:=b0S.1 hu;exact b0Q.2 (.inr (qK c.E (hX _ (rT q hq).mem).2.2 (rT q hq).lz (rT q hq).dst))
     have a5k:∀ w',(execOp a.eval o).run c.P w' = .ok (.value x) w':=λ w'=>by
      rw[hA.exec (rI SS hDu)];exact c9 w'
     have a8j:jC [d] o=true:=rI SS λ u hu=>by
      simp only[b1x] at hu;subst hu;exact b0Q.2 (.inr (qK c.E OA (by simp[en,hex]) hd))
     unfold Oper.wp;rw[a5k w];show wpAny c.P .any ops Q' fuel _ (a.put o.dst x) w;rw[hd];refine ih fuel Rc X R PL (⟨i,d,x,o⟩::SL) G t (a.put (some d) x) b w _ (by omega) (by simp;omega) (by rw[Array.size_setIfInBounds];exact dh) hR hX H8 OC Oz ?_ YJ (λ q hq=>(rp q hq).put (by rw[<-hd];exact hPd q hq)) (λ e he=>?_) (λ k hk=>?_) a0a hI ?_ hs _ hK
     .rw[b1J];refine (List.perm_middle.nodup_iff).2 (b1G.2 ⟨λ hm=>?_,SR⟩);rcases b0Q.1 hm with hm|hm
      .obtain⟨q,hq,e⟩:=b0S.1 hm;exact XI q hq e
      .obtain⟨q,hq,e⟩:=b0S.1 hm;exact XJ q hq e
     .rcases b1e.1 he with rfl|he
      .refine⟨hx,hd,?_, .inl ⟨hex,λ w'=>?_⟩⟩
       .simp only[fV,kN,b1N];split
        .rfl
        .rename_i bX;first|rfl|(rw[b1I,b2j (by omega)];rfl)
       .have hA':rO [d] (a.put (some d) x) a:=⟨kN a _ x,by rw[oE];exact hA.da,hA.da,λ u hu=>by rw[fV,if_neg (λ q=>hu (by simpa using q.1.symm))]⟩;show (execOp (a.put (some d) x).eval o).run c.P w'=_;rw[hA'.exec a8j];exact a5k w'
      .exact (rT e he).put hA.da (by rw[<-hd];exact hSd e he) (by rw[<-hd];exact hSu e he)
     .rw[zT,hl k hk,b1J];constructor
      .rintro (⟨q1,q2,q3⟩|rfl)
       .refine⟨q1,q2,q3.imp (λ q=>q) λ q=>?_⟩;rcases b0Q.1 q with q|q
        .exact b0Q.2 (.inl q)
        .exact b0Q.2 (.inr (b2t _ q))
       .exact⟨wS,Mu, .inr (b0Q.2 (.inr (b3f ..)))⟩
      .rintro⟨q1,q2,q3⟩;by_cases Kh:k=i
       .exact .inr Kh
       .refine .inl ⟨q1,q2,q3.imp (λ q=>q) λ q=>?_⟩;rcases b0Q.1 q with q|q
        .exact b0Q.2 (.inl q)
        .exact b0Q.2 (.inr ((b1e.1 q).resolve_left Kh))
     .refine⟨by rw[kN];exact hA.size,by rw[oE];exact hA.da,hA.db,λ u hu=>?_⟩;simp only[List.map_cons,List.mem_append,List.mem_cons] at hu;rw[fV,if_neg (λ q=>hu (.inr (.inr (.inl (by simpa using q.1.symm)))))];exact hA.at' u λ hm=>hu ((List.mem_append.1 hm).imp (λ q=>q) λ q=>(List.mem_append.1 q).imp (λ q=>q) .inr)
    by_cases Fa:yQ o.op=true/\I3 c.E o=true
    ·
     have SS:=TN _ OA;obtain⟨d,hd⟩:∃ d,o.dst=some d:=by
      obtain⟨T,bL⟩:=O2 Fa.1;unfold ui at SS;rw[bL,Fa.2] at SS;cases hd:o.dst with
      | some d=>exact⟨d,rfl⟩
      | none=>rw[hd] at SS;simp at SS
     obtain⟨w',x,c9,A5,hxv,CH⟩:=ZY hE hI (a2:=a) Fa SS hd;unfold Oper.wp;rw[c9];show wpAny c.P .any ops Q' fuel _ (a.put o.dst x) w';rw[hd];refine ih fuel Rc X R PL (⟨i,d,x,o⟩::SL) G t (a.put (some d) x) b w' _ (by omega) (by simp;omega) (by rw[Array.size_setIfInBounds];exact dh) hR hX H8 OC Oz ?_ YJ (λ q hq=>?_) (λ e he=>?_) (λ k hk=>?_) a0a A5 ?_ hs _ hK
     .rw[b1J];refine (List.perm_middle.nodup_iff).2 (b1G.2 ⟨λ hm=>?_,SR⟩);rcases b0Q.1 hm with hm|hm
      .obtain⟨q,hq,e⟩:=b0S.1 hm;exact XI q hq e
      .obtain⟨q,hq,e⟩:=b0S.1 hm;exact XJ q hq e
     .have h3:=(rp q hq).put (d:=some d) (x:=x) (by rw[<-hd];exact hPd q hq);have bX:=h3.fr.2.2.1;refine⟨h3.ex,h3.val,h3.ptr,h3.lt,?_,h3.fr.grow CH.size⟩;obtain⟨l,ty,q1,q2⟩:=h3.new;exact⟨l,ty,by rw[CH.block q.b bX (λ h=>h)];exact q1,q2⟩
     .rcases b1e.1 he with rfl|he
      .refine⟨hx,hd,?_, .inr ⟨Fa,hxv⟩⟩;simp only[fV,kN,b1N];split
       .rfl
       .rename_i bX;first|rfl|(rw[b1I,b2j (by omega)];rfl)
      .exact (rT e he).put hA.da (by rw[<-hd];exact hSd e he) (by rw[<-hd];exact hSu e he)
     .rw[zT,hl k hk,b1J];constructor
      .rintro (⟨q1,q2,q3⟩|rfl)
       .refine⟨q1,q2,q3.imp (λ q=>q) λ q=>?_⟩;rcases b0Q.1 q with q|q
        .exact b0Q.2 (.inl q)
        .exact b0Q.2 (.inr (b2t _ q))
       .exact⟨wS,Mu, .inr (b0Q.2 (.inr (b3f ..)))⟩
      .rintro⟨q1,q2,q3⟩;by_cases Kh:k=i
       .exact .inr Kh
       .refine .inl ⟨q1,q2,q3.imp (λ q=>q) λ q=>?_⟩;rcases b0Q.1 q with q|q
        .exact b0Q.2 (.inl q)
        .exact b0Q.2 (.inr ((b1e.1 q).resolve_left Kh))
     .refine⟨by rw[kN];exact hA.size,by rw[oE];exact hA.da,hA.db,λ u hu=>?_⟩;simp only[List.map_cons,List.mem_append,List.mem_cons] at hu;rw[fV,if_neg (λ q=>hu (.inr (.inr (.inl (by simpa using q.1.symm)))))];exact hA.at' u λ hm=>hu ((List.mem_append.1 hm).imp (λ q=>q) λ q=>(List.mem_append.1 q).imp (λ q=>q) .inr)
    ·
     have a9H:en c.E o=false:=by
      simp only[en,Bool.or_eq_false_iff];exact⟨by simpa using hal,by simpa using hex,by
       cases q1:yQ o.op
       .rfl
       .cases q2:I3 c.E o
        .rfl
        .exact absurd ⟨q1,q2⟩ Fa⟩
     have hlz:∀ z∈X,Nat.testBit ((cq ops.toList []).getD i 0) z.1=true->en c.E z.2=true/\z.1∈PL.map PE.i++SL.map XE.i:=λ z hz hb=>by
      have h3:=(F9 z.1 hb).1;have h4:=(hX z hz).1;rcases ((hl z.1 (by omega)).1 h3).2.2 with h5|h5
      .exact absurd rfl (h5 z hz)
      .refine⟨?_,h5⟩;have e0:=(hX z hz).2.1;rcases b0Q.1 h5 with h7|h7
       .obtain⟨p,hp,e⟩:=b0S.1 h7;obtain⟨o2,T,τ,r,hm,Va,Mw,_⟩:=(rp p hp).ex;have e1:=(hX _ hm).2.1;simp only at e1;rw[e,e0] at e1;simp only[b0L] at e1;rw[e1];simp[en,sr,Va]
       .obtain⟨p,hp,e⟩:=b0S.1 h7;have e1:=(hX _ (rT p hp).mem).2.1;simp only at e1;rw[e,e0] at e1;simp only[b0L] at e1;rw[e1];exact (rT p hp).lz
     obtain⟨mm,hu0,hK⟩:=a1K (y:=(i,o)) hK hx OC (by
      simp only[Uu,a9H,b0U,b2n,b1L,b2y,b1i];intro z hz;cases hb:Nat.testBit ((cq ops.toList []).getD i 0) z.1 with
      | false=>exact .inr rfl
      | true=>exact .inl (hlz z hz hb).1) (λ x0 xs e hz=>by
      cases hb:Nat.testBit ((cq ops.toList []).getD i 0) x0.1 with
      | false=>rfl
      | true =>
       rcases b0Q.1 (hlz x0 (by rw[e];simp) hb).2 with h5|h5
       .obtain⟨p,hp,e'⟩:=b0S.1 h5;exact absurd ⟨x0,xs,p,e,hp,e'⟩ TM
       .obtain⟨p,hp,e'⟩:=b0S.1 h5;exact absurd ⟨x0,xs,p,e,hp,e'⟩ OD)
     have hxm:∀ z,z∈X->z.1≠i->z∈X.filter λ z => !Nat.beq z.1 i:=λ z hz gU=>List.mem_filter.2 ⟨hz,by rw[a2M.2 gU];rfl⟩;have a2J:∀ z,z∈(X.filter λ z => !Nat.beq z.1 i)->z∈X/\z.1≠i:=λ z hz=>⟨(List.mem_filter.1 hz).1,a2M.1 (by simpa using (List.mem_filter.1 hz).2)⟩;have xQ:(X.filter λ z => !Nat.beq z.1 i).length+1=X.length:=Xy hx OC;generalize pX:(X.filter λ z => !Nat.beq z.1 i)=xs at *
     have hxn:(xs.map (·.1)).Nodup:=by rw[<-pX];exact OC.sublist (b3s _ b4F)
     .simp only at hu0 hK;have gT:∀ j∈R,∃ o',ops.toList[j]?=some o'/\(j,o')∈Rc.filter λ r => !Nat.testBit ((cq ops.toList []).getD i 0) r.1:=λ j hj=>by
       obtain⟨q1,o',q2,q3,_,_⟩:=hR j hj;refine⟨o',q2,b2i.2 ⟨q3,?_⟩⟩;simp only[b1i];cases hb:Nat.testBit ((cq ops.toList []).getD i 0) j with
       | false=>rfl
       | true=>exact absurd hj ((hl j (by omega)).1 (F9 j hb).1).2.1
      have hu:jC (R.filterMap (cS ops.toList)++(PL.map PE.d++SL.map XE.d)) o=true:=rI hu0 λ t ht=>by
       rcases b0Q.1 ht with ht|ht
       .obtain⟨j,hj,GW⟩:=List.mem_filterMap.1 ht;obtain⟨o',q2,q3⟩:=gT j hj;exact List.mem_append.2 (.inl (kg.2 ⟨(j,o'),q3,by simpa [cS,q2] using GW⟩))
       .rcases b0Q.1 ht with ht|ht
        .obtain⟨p,hp,rfl⟩:=b0S.1 ht;obtain⟨o2,T,τ,r,hm,bL,Mw,_⟩:=(rp p hp).ex;exact b0Q.2 (.inr (qK c.E (hxm _ hm (XI p hp)) (by simp[en,sr,bL]) Mw))
        .obtain⟨p,hp,rfl⟩:=b0S.1 ht;exact b0Q.2 (.inr (qK c.E (hxm _ (rT p hp).mem (XJ p hp)) ((rT p hp).lz) (rT p hp).dst))
      have hIz:=hI.fz hZ;refine a4d (hA.exec hu) ?_ ?_ (Pw (c:=c.fz w G.S λ b=>∃ p∈PL,p.b=b) hE hIz hK (Q:=λ _ _ _=>False))
      .rintro x w' ⟨G',s',a9l,hsr⟩;obtain⟨A5,jF⟩:=hI.b0h hZ a9l;obtain⟨k1,k2⟩:=pJ hsr;refine ih fuel _ xs R PL SL G' s' (a.put o.dst x) (b.put o.dst x) w' _ (by omega) (by omega) (by rw[b2l];exact dh) (λ j hj=>?_) (λ y hy=>hX y (a2J y hy).1) H8 hxn (λ j hj y hy=>Oz j hj y (a2J y hy).1) SR YJ (λ p hp=>?_) (λ e he=>?_) (λ k hk=>?_) a0a A5 (hA.put λ q hq WU=>absurd hq WU) (λ j hj o' dj=>?_) _ k2
       .obtain⟨q1,o',q2,q3,q4,q7⟩:=hR j hj;obtain⟨o2,q5,q6⟩:=gT j hj;have e:o'=o2:=by rw[q2] at q5;simpa using q5
        subst e;exact⟨q1,o',q2,q6,q4,q7⟩
       .have h3:=(rp p hp).put (d:=o.dst) (x:=x) (hPd p hp);obtain⟨e1,e2⟩:=jF p.b ⟨p,hp,rfl⟩;refine⟨?_,h3.val,h3.ptr,h3.lt,?_,e2⟩
        .obtain⟨o2,T,τ,r,hm,m2,m3,m4,m5⟩:=h3.ex;exact⟨o2,T,τ,r,hxm _ hm (XI p hp),m2,m3,m4,m5⟩
        .obtain⟨l,ty,q1,q2⟩:=h3.new;exact⟨l,ty,by rw[e1];exact q1,q2⟩
       .have h3:=(rT e he).put (x:=x) hA.da (hSd e he) (hSu e he);exact⟨hxm _ h3.mem (XJ e he),h3.dst,h3.val,h3.run⟩
       .rw[zT,hl k hk];constructor
        .rintro (⟨q1,q2,q3⟩|rfl)
         .exact⟨q1,q2,q3.imp (λ q y hy=>q y (a2J y hy).1) λ q=>q⟩
         .exact⟨wS,Mu, .inl λ y hy e=>(a2J y hy).2 e⟩
        .rintro⟨q1,q2,q3⟩;by_cases Kh:k=i
         .exact .inr Kh
         .refine .inl ⟨q1,q2,q3.imp (λ q y hy=>?_) λ q=>q⟩;by_cases e:y.1=i
          .rw[e];exact Ne.symm Kh
          .exact q y (hxm y hy e)
       .obtain⟨o2,q5,q6⟩:=gT j hj;rw[q5] at dj;simp only[b0L] at dj;subst dj;exact k1 (j,o2) q6
      .rintro b' w' ⟨G',s',A5,_⟩;exact A5.defers
end
theorem BL{cD:List Nat}{p:Nat}(h:Vl cD p=true){j k:Nat}(hj:p<=j)(hl:j<cD.length)(hk:k<p):Nat.testBit (cD.getD j 0) k=true:=by
 unfold Vl at h;rw[List.all_eq_true] at h;have hm:cD[j]∈cD.drop p:=by
  rw[List.mem_iff_getElem?];refine⟨j - p,?_⟩;rw[b2B,show p+(j - p)=j by omega,b1p hl]
 have h1:=Nat.eq_of_beq_eq_true (h _ hm);rw[List.getD_eq_getElem?_getD,List.getElem?_eq_getElem hl,Option.getD_some];have h2:Nat.testBit (cD[j] % 2 ^ p) k=true:=by rw[h1,Nat.testBit_two_pow_sub_one];simpa using hk
 rw[Nat.testBit_mod_two_pow] at h2;simp only[b0R] at h2;exact h2.2
theorem Yb{l:List Oper}{es:List Qa}{lo m bits:Nat}{s0:ai}{π π':List Nat}(uE:∀ j k t,lo<=j->j<m->lo<=k->k<m->cS l j=some t->cS l k=some t->j=k)
  (hπ:∀ k∈π,lo<=k/\k<m) (Vk:∀ k∈π',lo<=k/\k<m) (hn:π.Nodup) (CI:π'.Nodup) (ha:∀ k,lo<=k->k<m->Nat.testBit bits k=true->k∈π/\k∈π') (t:Nat) (hh:hidden l m bits t=false) :
  (fk l es s0 π).sl t=(fk l es s0 π').sl t/\(fk l es s0 π).ah t=(fk l es s0 π').ah t:=by
 by_cases hex:∃ k,lo<=k/\k<m/\cS l k=some t
 .obtain⟨k,cY,hk,hd⟩:=hex;have hb:Nat.testBit bits k=true:=by
   have:=hh;unfold hidden at this;rw[List.any_eq_false] at this;have:=this k (by simpa using hk);simp only[hd] at this;simp only[Nat.beq_refl] at this;simpa using this
  obtain⟨h1,h2⟩:=ha k cY hk hb;obtain⟨e1,e2⟩:=AM l es t k hd π s0 h1 hn (λ j hj gU GW=>gU (uE j k t (hπ j hj).1 (hπ j hj).2 cY hk GW hd));obtain⟨e3,e4⟩:=AM l es t k hd π' s0 h2 CI (λ j hj gU GW=>gU (uE j k t (Vk j hj).1 (Vk j hj).2 cY hk GW hd));exact⟨e1.trans e3.symm,e2.trans e4.symm⟩
 .have lH:∀ k,lo<=k->k<m->cS l k≠some t:=λ k hl hk hd=>hex ⟨k,hl,hk,hd⟩;obtain⟨e1,e2⟩:=kh l es t π s0 (λ k hk=>lH k (hπ k hk).1 (hπ k hk).2);obtain⟨e3,e4⟩:=kh l es t π' s0 (λ k hk=>lH k (Vk k hk).1 (Vk k hk).2);exact⟨e1.trans e3.symm,e2.trans e4.symm⟩
def iM(lo i:Nat):List Nat:=List.range' lo (i - lo)
theorem Ey{lo i k:Nat}:k∈iM lo i↔lo<=k/\k<i:=by
 unfold iM;rw[List.mem_range'_1];omega
theorem M3(lo i:Nat):(iM lo i).Nodup:=List.nodup_range'
theorem a3T{lo i:Nat}(h:lo<=i):iM lo (i+1)=iM lo i++[i]:=by
 unfold iM;rw[show i+1 - lo=(i - lo)+1 by omega,List.range'_1_concat,show lo+(i - lo)=i by omega]
theorem Wn{E:Env}{l:List Oper}{m lo:Nat}{cD:List Nat}{s0:ai}:∀ (r:List Oper) (i:Nat) (es CC:List Qa) (s s':ai),Trace E l m cD i r es s s'->(∀ j o,r[j]?=some o->l[i+j]?=some o)->CC.length=i->lo<=i ->
  s=fk l (CC++es) s0 (iM lo i) ->
  (∀ j o,r[j]?=some o->T3 E l m (cD.getD (i+j) 0) (fk l (CC++es) s0 (iM lo (i+j))) o ((CC++es).getD (i+j) ⟨false, .any,none⟩))/\s'=fk l (CC++es) s0 (iM lo (i+r.length))
 | [],i,[],CC,s,s',h,_,_,_,hs=>by
  have h:s=s':=h;subst h;exact⟨by simp,by simpa using hs⟩
 | o::r,i,e::es,CC,s,s',h,hl,h0,hlo,hs=>by
  obtain⟨h1,h2⟩:=h;have ho:l[i]?=some o:=hl 0 o rfl;have a0d:(CC++e::es).getD i ⟨false, .any,none⟩=e:=by simp[b1f,<-h0]
  have cI:s.od o.dst e.v e.ob=fk l ((CC++[e])++es) s0 (iM lo (i+1)):=by
   rw[b1P,a3T hlo,zf,b3l,a0d,<-hs];simp[cS,ho]
  have ih:=Wn r (i+1) es (CC++[e]) _ s' h2 (λ j p hj=>by
   have:=hl (j+1) p (by simpa using hj);rwa [show i+(j+1)=i+1+j by omega] at this) (by simp[h0]) (by omega) cI
  rw[b1P,b3l] at ih;refine⟨λ j p hj=>?_,by rw[ih.2];congr 2;simp;omega⟩;cases j with
  | zero =>
   simp at hj;subst hj;rw[b2I,a0d,<-hs];exact h1
  | succ j =>
   have:=ih.1 j p (by simpa using hj);rwa [show i+1+j=i+(j+1) by omega] at this
 | [],_,_::_,_,_,_,h,_,_,_,_=>h.elim
 | _::_,_,[],_,_,_,h,_,_,_,_=>h.elim
theorem VO:∀ (l π:List Nat),l.Nodup->(∀ k∈l,k∈π)->l.length<=π.length
 | [],_,_,_=>by simp
 | x::l,π,hn,h=>by
  have CI:=b1G.1 hn;have hx:=h x (by simp);have h1:=VO l (π.erase x) CI.2 (λ k hk=>by
   have gU:k≠x:=λ e=>by subst e;exact CI.1 hk
   exact (b2Y gU).2 (h k (by simp[hk])))
  have h3:=b2Q hx;have:0<π.length:=b2V hx;simp only[b0Z];omega
theorem VN{lo m:Nat}(π:List Nat)(hn:π.Nodup)(h:∀ k∈π,lo<=k/\k<m):π.length<=m - lo:=by
 have h1:(List.range lo++π).Nodup:=by
  rw[b1k];refine⟨b3J,hn,λ x hx y hy e=>?_⟩;simp at hx;have:=(h y hy).1;omega
 have h2:=ze (max lo m) (List.range lo++π) h1 (λ k hk=>by
  rcases b0Q.1 hk with hk|hk
  .simp at hk;omega
  .have:=(h k hk).2;omega)
 rw[b1l,List.length_range] at h2;cases π with
 | nil=>simp
 | cons k r =>
  have:=h k (by simp);omega
section
variable {c:Ctx} {G:Gh} {s:ai} {a:Act} {w w':World}
theorem a5H(hE:bU c.P c.E){ops:Array Oper}{j:Nat}(e9:backward ops.toList=true)(hj:j<ops.size)(hcut:∀ i,j<i->i<ops.size->Nat.testBit ((cq ops.toList []).getD i 0) j=true)
  {P:ai->Prop} {Q':Exit->Act->World->Prop} {fuel:Nat} {kn:List (Nat×Bool)} {listed:Array Bool} (dh:listed.size=ops.size) (hl:∀ k,k<ops.size->(listed.getD k false=true↔k<j))
  (hI:Inv c G s a w) (hr:iA c.E ops [ops[j]] kn P s)
  (zP:∀ G s a w (listed:Array Bool),listed.size=ops.size->(∀ k,k<ops.size->(listed.getD k false=true↔k<j+1))->Inv c G s a w->P s->wpAny c.P .any ops Q' fuel listed a w):wpAny c.P .any ops Q' (fuel+1) listed a w:=by
 have ho:ops[j]?=some ops[j]:=b1W hj;constructor
 .intro zR;have:j∈Region.ready .any ops listed:=(mem_ready dh).2 ⟨_,ho,by
   cases hb:listed.getD j false with
   | false=>rfl
   | true=>have:=(hl j hj).1 hb;omega,λ e he hb=>by
   have:=cB e9 j ops[j] (by simp) e he hb;exact (hl e.on (by omega)).2 this⟩
  rw[zR] at this;cases this
 .intro i hi;obtain⟨o,cU,h1,h2⟩:=(mem_ready dh).1 hi;have K4:=(b2e.1 cU).1;have YT:j<=i:=by
   rcases b1R i j with h|h
   .have:=(hl i K4).2 h;rw[h1] at this;cases this
   .exact h
  have DV:i=j:=by
   rcases b1R j i with h|h
   .have gT:=Ht (l:=ops.toList) (D:=λ k=>k<j) (λ k hk o' dj e he hb=>by
     have:=cB e9 k o' dj e he hb;omega) i o (by simpa using cU) (λ e he hb=>by
      have bX:=cB e9 i o (by simpa using cU) e he hb;exact (hl e.on (by omega)).1 (h2 e he hb)) j (hcut i h K4)
    omega
   .omega
  subst DV;have zT:∀ k,k<ops.size->((listed.setIfInBounds i true).getD k false=true↔k<i+1):=λ k hk=>by
   rw[xp (by omega),hl k hk];omega
  unfold wpOp;simp only[ho];have pW:=EO hE hI hr;split at pW
  .rename_i hw;rw[b1q hw];exact .inl (b2q (λ a' w' ⟨G',s',tp,h1,h2⟩=>zP G' s' a' w' _ (by rw[b2l];exact dh) zT h1 h2) (pW Q'))
  .rename_i hw;rw[b0Y hw];obtain⟨G',s',tp,h1,h2⟩:=pW;exact zP G' s' _ w _ (by rw[b2l];exact dh) zT h1 h2
theorem a4o(hE:bU c.P c.E){ops:Array Oper}{lo m:Nat}{es:List Qa}{s0:ai}(e9:backward ops.toList=true)(hm:m<=ops.size)
  (uD:∀ j o,m<=j->ops.toList[j]?=some o->∀ k,k<m->Nat.testBit ((cq ops.toList []).getD j 0) k=true)
  (a9F:∀ j o,lo<=j->ops.toList[j]?=some o->∀ k,k<lo->Nat.testBit ((cq ops.toList []).getD j 0) k=true)
  (uE:∀ j k t,lo<=j->j<m->k<m->cS ops.toList j=some t->cS ops.toList k=some t->j=k)
  (a4Z:∀ i o,lo<=i->i<m->ops.toList[i]?=some o->T3 c.E ops.toList m ((cq ops.toList []).getD i 0) (fk ops.toList es s0 (iM lo i)) o (es.getD i ⟨false, .any,none⟩))
  (Mp:∀ i o,lo<=i->i<m->ops.toList[i]?=some o->xL o.dst=true) (vK:∀ i o t,lo<=i->i<m->ops.toList[i]?=some o->zB o.op=true->o.dst=some t->s0.ah t=none)
  {Q':Exit->Act->World->Prop}
  (K2:∀ (fuel:Nat) (G:Gh) (a:Act) (w:World) (listed:Array Bool),ops.size=m+fuel->listed.size=ops.size->(∀ k,k<ops.size->(listed.getD k false=true↔k<m))->Inv c G (fk ops.toList es s0 (iM lo m)) a w->wpAny c.P .any ops Q' fuel listed a w) :
  ∀ (fuel:Nat) (π:List Nat) (G:Gh) (a:Act) (w:World) (listed:Array Bool),ops.size=lo+π.length+fuel->π.Nodup->(∀ k∈π,lo<=k/\k<m)->listed.size=ops.size->(∀ k,k<ops.size->(listed.getD k false=true↔k<lo\/k∈π)) ->
   (∀ k∈π,∀ o,ops.toList[k]?=some o->∀ e∈o.after.toList,Region.binds .any e=true->e.on<lo\/e.on∈π)->lo<=m->Inv c G (fk ops.toList es s0 π) a w->wpAny c.P .any ops Q' fuel listed a w:=by
 have a4Y:∀ j k t,lo<=j->j<m->lo<=k->k<m->cS ops.toList j=some t->cS ops.toList k=some t->j=k:=λ j k t h1 h2 _ h4=>uE j k t h1 h2 h4;have fin:∀ (fuel:Nat) (π:List Nat) (G:Gh) (a:Act) (w:World) (listed:Array Bool),ops.size=lo+π.length+fuel->π.Nodup->(∀ k∈π,lo<=k/\k<m)->listed.size=ops.size->(∀ k,k<ops.size->(listed.getD k false=true↔k<lo\/k∈π)) ->
   lo<=m->(∀ k,lo<=k->k<m->k∈π)->Inv c G (fk ops.toList es s0 π) a w->wpAny c.P .any ops Q' fuel listed a w:=by
  intro fuel π G a w listed hf hn bX dh hl YW ph hI;have hlen:=VN π hn bX;have YT:m - lo<=π.length:=by
   have h2:(iM lo m).length<=π.length:=VO (iM lo m) π (M3 lo m) λ k hk=>ph k (Ey.1 hk).1 (Ey.1 hk).2;simpa [iM] using h2
  have heq:∀ t,(fk ops.toList es s0 π).sl t=(fk ops.toList es s0 (iM lo m)).sl t/\(fk ops.toList es s0 π).ah t=(fk ops.toList es s0 (iM lo m)).ah t:=λ t =>
   Yb (bits:=2 ^ m - 1) a4Y bX (λ k hk=>Ey.1 hk) hn (M3 lo m) (λ k cY hk _=>⟨ph k cY hk,Ey.2 ⟨cY,hk⟩⟩) t (by
    unfold hidden;rw[List.any_eq_false];intro k hk;simp only[List.mem_range] at hk;split
    .split
     .simp[b3n,hk]
     .simp
    .simp)
  refine K2 fuel G a w listed (by omega) dh (λ k hk=>?_) ?_
  .rw[hl k hk];constructor
   .rintro (h|h)
    .omega
    .exact (bX k h).2
   .intro h;rcases b1R k lo with h'|h'
    .exact .inl h'
    .exact .inr (ph k h' h)
  .unfold Inv at hI ⊢;rw[OZ] at hI ⊢;rw[<-funext λ t=>(heq t).1,<-funext λ t=>(heq t).2];exact hI
 intro fuel;induction fuel with
 | zero =>
  intro π G a w listed hf hn bX dh hl zO YW hI;refine fin 0 π G a w listed hf hn bX dh hl YW (λ k cY hk=>?_) hI;cases hb:decide (k∈π) with
  | true=>exact b1z hb
  | false =>
   have:=VN (lo:=lo) (m:=m) (k::π) (b1G.2 ⟨b2C hb,hn⟩) (λ j hj=>by
    rcases b1e.1 hj with rfl|hj
    .exact⟨cY,hk⟩
    .exact bX j hj)
   simp at this;omega
 | succ fuel ih =>
  intro π G a w listed hf hn bX dh hl zO YW hI;by_cases ph:∀ k,lo<=k->k<m->k∈π
  .exact fin (fuel+1) π G a w listed hf hn bX dh hl YW ph hI
  ·
   have hex:∃ k,lo<=k/\k<m/\k∉π/\∀ j,lo<=j->j<k->j∈π:=by
    have:∀ n,(∃ k,k<n/\lo<=k/\k<m/\k∉π)->∃ k,lo<=k/\k<m/\k∉π/\∀ j,lo<=j->j<k->j∈π:=by
     intro n;induction n with
     | zero=>rintro⟨k,hk,_⟩;omega
     | succ n ihn =>
      rintro⟨k,hk,OM,hkm,CH⟩;by_cases hs:∃ k,k<n/\lo<=k/\k<m/\k∉π
      .exact ihn hs
      .refine⟨k,OM,hkm,CH,λ j WT hj=>?_⟩;cases hb:decide (j∈π) with
       | true=>exact b1z hb
       | false=>exact absurd ⟨j,by omega,WT,by omega,b2C hb⟩ hs
    refine this m ?_;obtain⟨k,hk⟩:=b4x.1 ph;have h2:=b4f.1 hk;have h3:=b4f.1 h2.2;exact⟨k,h3.1,h2.1,h3.1,h3.2⟩
   obtain⟨k0,b0I,a2F,wT,a0h⟩:=hex;have a0e:ops[k0]?=some (ops[k0]'(by omega)):=b1W (by omega);constructor
   .intro zR;have:k0∈Region.ready .any ops listed:=(mem_ready dh).2 ⟨_,a0e,by
     cases hb:listed.getD k0 false with
     | false=>rfl
     | true =>
      rcases (hl k0 (by omega)).1 hb with h|h
      .omega
      .exact absurd h wT,λ e he hb=>by
     have a0g:=cB e9 k0 ops[k0] (by simp) e he hb;refine (hl e.on (by omega)).2 ?_;rcases b1R e.on lo with h|h
     .exact .inl h
     .exact .inr (a0h e.on h a0g)⟩
    rw[zR] at this;cases this
   .intro i hi;obtain⟨o,cU,h1,h2⟩:=(mem_ready dh).1 hi;have K4:=(Array.getElem?_eq_some_iff.1 cU).1;have gn:ops.toList[i]?=some o:=by simpa using cU
    have Fa:¬ (i<lo\/i∈π):=λ hh=>by
     have:=(hl i K4).2 hh;rw[h1] at this;cases this
    have yP:i∉π:=λ h=>Fa (.inr h);have hil:lo<=i:=by
     rcases b1R i lo with h|h
     .exact absurd (.inl h) Fa
     .exact h
    have U2:∀ e∈o.after.toList,Region.binds .any e=true->e.on<lo\/e.on∈π:=λ e he hb=>by
     have a0g:=cB e9 i o gn e he hb;exact (hl e.on (by omega)).1 (h2 e he hb)
    have F9:=Ht (l:=ops.toList) (D:=λ k=>k<lo\/k∈π) (λ k hk o' dj e he hb=>by
     rcases hk with hk|hk
     .have:=cB e9 k o' dj e he hb;exact .inl (by omega)
     .exact zO k hk o' dj e he hb) i o gn U2
    have wS:i<m:=by
     rcases b1R i m with h|h
     .exact h
     .rcases F9 k0 (uD i o h gn k0 a2F) with h|h
      .omega
      .exact absurd h wT
    have OE:=Ht (l:=ops.toList) (D:=λ k=>k<i) (λ k hk o' dj e he hb=>by
     have:=cB e9 k o' dj e he hb;omega) i o gn (λ e he hb=>cB e9 i o gn e he hb)
    have My:=λ t hh=>Yb (l:=ops.toList) (es:=es) (s0:=s0) (lo:=lo) (m:=m) (bits:=(cq ops.toList []).getD i 0) (π:=π) (π':=iM lo i) a4Y bX (λ k hk=>by have:=Ey.1 hk;omega) hn (M3 lo i)
     (λ k cY hk hb=>⟨by
      rcases F9 k hb with h|h
      .omega
      .exact h,Ey.2 ⟨cY,OE k hb⟩⟩) t hh
    obtain⟨hg,c9,a1B⟩:=a4Z i o hil wS gn;have dx:WK ops.toList m ((cq ops.toList []).getD i 0) (fk ops.toList es s0 (iM lo i))=WK ops.toList m ((cq ops.toList []).getD i 0) (fk ops.toList es s0 π):=by
     funext x;cases x with
     | tmp t =>
      simp only[WK];split
      .rfl
      .rename_i hh;exact ((My t hh).1).symm
     | _=>rfl
    have cY:S6 ops.toList m ((cq ops.toList []).getD i 0) (fk ops.toList es s0 (iM lo i))=S6 ops.toList m ((cq ops.toList []).getD i 0) (fk ops.toList es s0 π):=by
     funext t;simp only[S6];split
     .rfl
     .rename_i hh;exact ((My t hh).2).symm
    have hg':jN ops.toList ((cq ops.toList []).getD i 0) (fk ops.toList es s0 π) o (es.getD i ⟨false, .any,none⟩).Kz:=by
     unfold jN at hg ⊢;split
     .rename_i CI;simpa [CI] using hg
     .rename_i g want CI;simp only[CI] at hg;obtain⟨t,b,q1,q2,q3,q4⟩:=hg;refine⟨t,b,q1,q2,?_,q4⟩;have hgm:g<m:=Nat.lt_trans (OE g q2) wS;have hh:hidden ops.toList m ((cq ops.toList []).getD i 0) t=false:=by
       unfold hidden;rw[List.any_eq_false];intro k hk;simp only[List.mem_range] at hk;split
       .rename_i d hd;split
        .rename_i Ia;have Ia:=b0P Ia;subst Ia;rcases b1R k lo with OM|OM
         .rw[a9F i o hil gn k OM];simp
         .have:=uE k g d OM hk hgm hd q1;subst this;rw[q2];simp
        .simp
       .simp
      exact ((My t hh).1).trans q3
    have hw:=K0 (ops:=ops) rfl hI hg';have zP:∀ (G':Gh) (a':Act) (w':World),Inv c G' (fk ops.toList es s0 (π++[i])) a' w'->wpAny c.P .any ops Q' fuel (listed.setIfInBounds i true) a' w':=by
     intro G' a' w' A5;refine ih (π++[i]) G' a' w' _ (by simp;omega) ?_ ?_ (by rw[b2l];exact dh) ?_ ?_ YW A5
     .rw[b1k];exact⟨hn,by simp,λ x hx y hy=>by simp at hy;subst hy;exact λ e=>yP (e ▸ hx)⟩
     .intro k hk;rcases b0Q.1 hk with hk|hk
      .exact bX k hk
      .simp at hk;omega
     .intro k hk;rw[xp (by omega),hl k hk];simp[or_assoc]
     .intro k hk o' dj e he hb;rcases b0Q.1 hk with hk|hk
      .exact (zO k hk o' dj e he hb).imp id (b2R _)
      .simp at hk;subst hk;rw[gn] at dj;simp only[b0L] at dj;subst dj;exact (U2 e he hb).imp id (b2R _)
    have QA:cS ops.toList i=o.dst:=by simp[cS,gn]
    unfold wpOp;simp only[cU];cases OP:(es.getD i ⟨false, .any,none⟩).Kz with
    | true =>
     rw[OP] at hw;rw[b1q hw];obtain⟨vc,hq,fZ⟩:=c9 OP;rw[dx,cY] at hq;refine .inl (b2q ?_ (MZ hE hI (lk':=S6 ops.toList m ((cq ops.toList []).getD i 0) (fk ops.toList es s0 π)) ?_ ?_ hq fZ))
     .intro a' w' hd;obtain⟨G',so⟩:=Sk hI (Mp i o hil wS gn) (λ t ob Ia SZ=>by
       rw[SZ] at hq;have hcr:=Ps hq;have h0:=vK i o t hil wS gn hcr Ia;have DW:=(kh ops.toList es t π s0 (λ k hk hkd=>by
        have:=uE k i t (bX k hk).1 (bX k hk).2 wS hkd (by rw[QA];exact Ia);subst this;exact yP hk)).2
       rw[DW,h0]) hd
      refine zP G' a' w' ?_;rw[zf,QA];exact so
     .intro id ob bm;unfold S6 at bm;split at bm
      .cases bm
      .exact bm
     .intro x;cases x with
      | tmp t =>
       simp only[WK];split
       .trivial
       .exact bI hI (.tmp t)
      | const v=>exact bI hI (.const v)
      | global g=>exact bI hI (.global g)
      | func f=>exact bI hI (.func f)
    | false =>
     rw[OP] at hw;rw[hw];obtain⟨hv,SZ⟩:=a1B OP;refine zP G _ w ?_;rw[zf,QA,hv,SZ,QJ];exact Inv.put (v := .fO) hI rfl
theorem I8{α:Type}{l:List α}{lo hi j:Nat}{o:α}(h:((l.take hi).drop lo)[j]?=some o):l[lo+j]?=some o/\lo+j<hi:=by
 rw[b2B,b2p] at h;split at h
 .rename_i bX;exact⟨h,bX⟩
 .cases h
theorem nB{α:Type}{l:List α}{lo hi i:Nat}{o:α}(h:l[i]?=some o)(h1:lo<=i)(h2:i<hi):((l.take hi).drop lo)[i - lo]?=some o:=by
 rw[b2B,b2p,show lo+(i - lo)=i by omega,b1q h2,h]
theorem xK:∀ {l:List (Option Nat)},zG l=true->∀ (i j t:Nat),l[i]?=some (some t)->l[j]?=some (some t)->i=j
 | [],_,i,j,t,h,_=>by simp at h
 | none::r,h,i,j,t,hi,hj=>by
  cases i with
  | zero=>simp at hi
  | succ i =>
   cases j with
   | zero=>simp at hj
   | succ j=>rw[xK (l:=r) h i j t (by simpa using hi) (by simpa using hj)]
 | some d::r,h,i,j,t,hi,hj=>by
  simp only[zG] at h;split at h
  .cases h
  .rename_i Z8;rw[b4e] at Z8;have no:∀ k:Nat,r[k]?=some (some d)->False:=λ k hk=>by
    have:=Z8 _ (b2o hk);simp at this
   cases i with
   | zero =>
    simp at hi;subst hi;cases j with
    | zero=>rfl
    | succ j=>exact (no j (by simpa using hj)).elim
   | succ i =>
    cases j with
    | zero =>
     simp at hj;subst hj;exact (no i (by simpa using hi)).elim
    | succ j=>rw[xK (l:=r) h i j t (by simpa using hi) (by simpa using hj)]
theorem KZ{l:List Oper}{lo hi:Nat}(h:H0 l lo hi=true):∀ j k t,lo<=j->j<hi->k<hi->cS l j=some t->cS l k=some t->j=k:=by
 unfold H0 at h;rw[Bool.and_eq_true,Bool.and_eq_true] at h;obtain⟨⟨_,h1⟩,h2⟩:=h;have hd:=xK h1;have get:∀ j t,cS l j=some t->∃ o,l[j]?=some o/\o.dst=some t:=by
  intro j t h;unfold cS at h;simp only[Option.bind_eq_some_iff] at h;exact h
 intro j k t hj hjh hkh OL hkt;obtain⟨o,ho,hot⟩:=get j t OL;obtain⟨o',dj,a7w⟩:=get k t hkt;have g1:=nB ho hj hjh;rcases b1R k lo with hk|hk
 .rw[b1L] at h2;have hm:o'∈l.take lo:=b2o (by rw[b2p,b1q hk];exact dj);have:=h2 o' hm;rw[a7w] at this;simp only[b1i] at this;rw[b4e] at this;have:=this o (b2o g1);rw[hot] at this;simp at this
 .have g2:=nB dj hk hkh;have:=hd (j - lo) (k - lo) t (by rw[b2F,g1];simp[hot]) (by rw[b2F,g2];simp[a7w]);omega
theorem Z4{l:List Oper}{lo hi:Nat}(h:H0 l lo hi=true){i:Nat}{o:Oper}(h1:lo<=i)(h2:i<hi)(ho:l[i]?=some o):xL o.dst=true:=by
 unfold H0 at h;rw[Bool.and_eq_true,Bool.and_eq_true] at h;exact List.all_eq_true.1 h.1.1 o (List.mem_of_getElem? (nB ho h1 h2))
theorem ID{i:Nat}{o:Oper}:∀ {l:List Oper} {lo:Nat},(i,o)∈qn lo l↔∃ j,i=lo+j/\l[j]?=some o
 | [],lo=>by simp[qn]
 | x::l,lo=>by
  simp only[qn,b1e,b0O,ID (l:=l)];constructor
  .rintro (⟨rfl,rfl⟩|⟨j,rfl,h⟩)
   .exact⟨0,rfl,rfl⟩
   .exact⟨j+1,by omega,by simpa using h⟩
  .rintro⟨j,rfl,h⟩;cases j with
   | zero=>simp at h;exact .inl ⟨rfl,h.symm⟩
   | succ j=>exact .inr ⟨j,by omega,by simpa using h⟩
theorem Ln:∀ (l:List Oper) (lo:Nat),((qn lo l).map (·.1)).Nodup
 | [],lo=>b2c
 | x::l,lo=>by
  simp only[qn,b1J,b1G];refine⟨λ h=>?_,Ln l (lo+1)⟩;obtain⟨⟨i,o⟩,h1,h2⟩:=b0S.1 h;obtain⟨j,h3,_⟩:=ID.1 h1;simp only at h2;omega
theorem rO.mono{D D':List Nat}{a b:Act}(h:rO D a b)(hs:∀ t∈D,t∈D'):rO D' a b:=⟨h.size,h.da,h.db,λ t ht=>h.at' t λ q=>ht (hs t q)⟩
theorem Sv:∀ (l:List Oper) (lo:Nat),(qn lo l).length=l.length
 | [],lo=>rfl
 | x::l,lo=>by simp[qn,Sv l]
theorem Oh{α:Type}(p:α->Bool):∀ l:List α,(l.filter p).length+(l.filter λ x => !p x).length=l.length
 | []=>rfl
 | x::l=>by
  have:=Oh p l;cases h:p x<;>simp[b4n,h]<;>omega
theorem a0K(hE:bU c.P c.E){ops:Array Oper}(e9:backward ops.toList=true){Q:ai->Prop}{Q':Exit->Act->World->Prop}(hQ:∀ G s a w,Inv c G s a w->Q s->Q' .normal a w) :
  ∀ (a2w:List Nat) (lo:Nat) (kn:List (Nat×Bool)) (fuel:Nat) (G:Gh) (s:ai) (a:Act) (w:World) (listed:Array Bool),ops.size=lo+fuel->listed.size=ops.size->(∀ k,k<ops.size->(listed.getD k false=true↔k<lo))->Inv c G s a w ->
   zu c.E ops ops.toList (cq ops.toList []) a2w lo kn Q s->wpAny c.P .any ops Q' fuel listed a w:=by
 obtain⟨r,ha1,ha2,_⟩:=Bi ops.toList [];have UY:(cq ops.toList []).length=ops.size:=by rw[ha1];simpa using ha2
 intro a2w;induction a2w with
 | nil =>
  intro lo kn fuel G s a w listed hf dh hl hI hr;simp only[zu] at hr;split at hr
  .rename_i hb;have hb:=Nat.eq_of_beq_eq_true hb;have hlo:lo=ops.size:=by simpa using hb
   have h0:fuel=0:=by omega
   subst h0;refine⟨?_,hQ _ _ _ _ hI hr⟩;apply b3h.2;intro i hi;obtain⟨o,ho,h1,_⟩:=(mem_ready dh).1 hi;have bX:=(b2e.1 ho).1;have:=(hl i bX).2 (by omega);rw[h1] at this;cases this
  .exact hr.elim
 | cons hi a2w ih =>
  intro lo kn fuel G s a w listed hf dh hl hI hr;simp only[zu] at hr;split at hr;case h_2=>exact hr.elim
  case h_1 hc =>
  simp only[b0R,b4h,Nat.ble_eq,b1S] at hc;obtain⟨Qz,hc0,hc2,YQ⟩:=hc;split at hr
  .rename_i hb;have hb:=b0P hb;subst hb;have bX:lo<ops.size:=by omega
   obtain⟨fuel,rfl⟩:∃ f,fuel=f+1:=⟨fuel - 1,by omega⟩;have Ie:(ops.toList.take (lo+1)).drop lo=[ops[lo]]:=by
    rw[List.drop_take,show lo+1 - lo=1 by omega,List.drop_eq_getElem_cons (by simpa using bX)];simp
   rw[Ie] at hr;refine a5H hE e9 bX (λ i h1 h2=>BL Qz (by omega) (by omega) (by omega)) dh hl hI hr ?_;intro G s a w listed dh hl hI hp;exact ih (lo+1) kn fuel G s a w listed (by omega) dh hl hI hp
  .split at hr;case h_3=>exact hr.elim
   case h_1 Kg hal =>
    unfold a2o at hr;split at hr;case h_2=>exact hr.elim
    case h_1 lE =>
    have BJ:∀ i o,(i,o)∈qn lo ((ops.toList.take hi).drop lo)↔lo<=i/\i<hi/\ops.toList[i]?=some o:=λ i o=>by
     rw[ID];constructor
     .rintro⟨j,rfl,h⟩;obtain⟨h1,h2⟩:=I8 h;exact⟨by omega,h2,h1⟩
     .rintro⟨h1,h2,h3⟩;exact⟨i - lo,by omega,nB h3 h1 h2⟩
    have dt:=Ln ((ops.toList.take hi).drop lo) lo;have Kk:(qn lo ((ops.toList.take hi).drop lo)).length=hi - lo:=by rw[Sv];simp;omega
    have BH:∀ x∈qn lo ((ops.toList.take hi).drop lo),∀ y∈qn lo ((ops.toList.take hi).drop lo),∀ t,x.2.dst=some t->y.2.dst=some t->x.1=y.1:=λ x hx y hy t hxt hyt=>by
     have h1:=(BJ x.1 x.2).1 hx;have h2:=(BJ y.1 y.2).1 hy;exact KZ Kg x.1 y.1 t h1.1 h1.2.1 h2.2.1 (by simp[cS,h1.2.2,hxt]) (by simp[cS,h2.2.2,hyt])
    generalize qn lo ((ops.toList.take hi).drop lo)=iM at *
    simp only[a5B,b0R,b1L] at lE;obtain⟨t,b,q1,q2,q3⟩:=Sp hE hI hr;obtain⟨q4,q5⟩:=pJ q3;have a5l:∀ p:Nat×Oper->Bool,((iM.filter p).map (·.1)).Nodup:=λ p=>dt.sublist (b3s _ b4F);have a8k:∀ x∈iM,∀ y∈iM,x.1=y.1->x=y:=λ x hx y hy e=>by
     obtain⟨x1,x2⟩:=x;obtain⟨y1,y2⟩:=y;simp only at e;subst e;have h1:=((BJ _ _).1 hx).2.2;rw[((BJ _ _).1 hy).2.2] at h1;simp only[b0L] at h1;rw[h1]
    refine a0q hE (hi:=hi) (Seg:=iM) e9 YQ ?_ (λ x hx=>by simpa using (lE.1 x hx).1) (λ x hx=>(lE.1 x hx).2) ?_ BH (λ fuel G s a w listed hf dh hl hI hp=>ih hi kn fuel G s a w listed (by omega) dh hl hI hp) (fuel+(MB c.E (cq ops.toList []) (iM.filter λ r => !rF c.E (cq ops.toList []) iM r)).length) fuel (iM.filter (rF c.E (cq ops.toList []) iM)) (MB c.E (cq ops.toList []) (iM.filter λ r => !rF c.E (cq ops.toList []) iM r))
     ((iM.filter (rF c.E (cq ops.toList []) iM)).map (·.1)) [] [] G t a b w listed (b1E _) ?_ dh ?_ ?_ (a5l _) ((((oH _ _ _).map (·.1)).nodup_iff).2 (a5l _)) ?_ b2c b2c (λ p hp=>by cases hp) (λ p hp=>by cases hp) ?_ ?_ ?_ ?_ ?_ iM.length ?_
    .intro j o hj ho k hk;have:=(List.getElem?_eq_some_iff.1 ho).1;exact BL Qz hj (by rw[UY];simpa using this) hk
    .intro x hx he;have:=lE.2 x hx;simpa [he] using this
    .rw[b1o,(oH _ _ _).length_eq,Oh,Kk,b1n,b1n];omega
    .intro i rW;obtain⟨⟨i',o⟩,h1,rfl⟩:=b0S.1 rW;obtain⟨h2,h3⟩:=b2i.1 h1;have h4:=(BJ _ _).1 h2;refine⟨h4.2.1,o,h4.2.2,h1,h2,?_⟩;have:=lE.2 _ h2;rw[h3] at this;have gU:oT o.op=false:=by
      have:=GI (E:=c.E) (o:=o) (by simp only[rF,Pu,b0R] at h3;exact h3.1.1);simp only[en,Bool.or_eq_false_iff] at this;exact this.2.1
     exact⟨h3,by simpa [gU] using this⟩
    .intro x hx;have hx:=(oH _ _ _).mem_iff.1 hx;have h2:=(b2i.1 hx).1;have h4:=(BJ _ _).1 h2;exact⟨h4.2.1,h4.2.2,h2⟩
    .intro i rW x hx e;have hx:=(oH _ _ _).mem_iff.1 hx;obtain⟨y,h1,rfl⟩:=b0S.1 rW;obtain⟨h2,h3⟩:=b2i.1 h1;obtain⟨h4,h5⟩:=b2i.1 hx;have:=a8k _ h2 _ h4 e;subst this;rw[h3] at h5;cases h5
    .intro k hk;rw[hl k hk];constructor
     .intro h;refine⟨by omega,λ hm=>?_, .inl λ x hx e=>?_⟩
      .obtain⟨y,h1,rfl⟩:=b0S.1 hm;have:=((BJ _ _).1 (b2i.1 h1).1).1;omega
      .have:=((BJ _ _).1 (b2i.1 ((oH _ _ _).mem_iff.1 hx)).1).1;omega
     .rintro⟨h1,h2,h3⟩;have h3:=h3.resolve_right (by simp);rcases b1R k lo with h|h
      .exact h
      .have hm:(k,ops[k])∈iM:=(BJ _ _).2 ⟨h,h1,by simp⟩;cases hr:rF c.E (cq ops.toList []) iM (k,ops[k]) with
       | true=>exact absurd (b0S.2 ⟨_,b2i.2 ⟨hm,hr⟩,rfl⟩) h2
       | false=>exact absurd rfl (h3 _ ((oH _ _ _).mem_iff.2 (b2i.2 ⟨hm,by simp[hr]⟩)))
    .intro k hk OM o ho e he hb;have h1:=cB e9 k o ho e he hb;have h2:=(hl k hk).1 OM;exact (hl e.on (by omega)).2 (by omega)
    .exact q1
    .refine q2.mono λ d hd=>?_;obtain⟨r,h1,h2⟩:=kg.1 hd;have h4:=(BJ _ _).1 (b2i.1 h1).1;exact b0Q.2 (.inl (b2M.2 ⟨r.1,b0S.2 ⟨r,h1,rfl⟩,by simp[cS,h4.2.2,h2]⟩))
    .intro i rW o ho;obtain⟨⟨i',o'⟩,h1,rfl⟩:=b0S.1 rW;have h4:=((BJ _ _).1 (b2i.1 h1).1).2.2;simp only at ho;rw[h4] at ho;simp only[b0L] at ho;subst ho;exact q4 _ h1
    .exact q5
   case h_2 Kg hal =>
   have uE:=KZ Kg;obtain⟨es,tp,s',GY,hq⟩:=wz hr;have hlen:((ops.toList.take hi).drop lo).length=hi - lo:=by simp;omega
   obtain⟨ht1,ht2⟩:=Wn (lo:=lo) (s0:=((ops.toList.take hi).drop lo).foldl ai.fresh s) ((ops.toList.take hi).drop lo) lo es (List.replicate lo ⟨false, .any,none⟩) _ s' GY (λ j o ho=>(I8 ho).1) (by simp) (Nat.le_refl _) (by simp[iM,fk]);rw[hlen,show lo+(hi - lo)=hi by omega] at ht2;subst ht2;have hI0:Inv c G (((ops.toList.take hi).drop lo).foldl ai.fresh s) a w:=E6 _ hI;refine a4o hE (lo:=lo) (m:=hi) (es:=List.replicate lo ⟨false, .any,none⟩++es) (s0:=((ops.toList.take hi).drop lo).foldl ai.fresh s) e9 YQ ?_ ?_ uE ?_ (λ i o h1 h2 ho=>Z4 Kg h1 h2 ho) ?_ ?_ fuel [] G a w listed (by simp;omega) (by simp) (by simp) dh (by simpa using hl) (by simp) (by omega) hI0
   .intro j o hj ho k hk;have:=(List.getElem?_eq_some_iff.1 ho).1;exact BL Qz hj (by rw[UY];simpa using this) hk
   .intro j o hj ho k hk;have:=(List.getElem?_eq_some_iff.1 ho).1;exact BL hc0 hj (by rw[UY];simpa using this) hk
   .intro i o h1 h2 ho;have:=ht1 (i - lo) o (nB ho h1 h2);rwa [show lo+(i - lo)=i by omega] at this
   .intro i o t h1 h2 ho hcr Ia;exact (CE ((ops.toList.take hi).drop lo) s t).2 o (b2o (nB ho h1 h2)) hcr Ia
   .intro fuel G a w listed hf dh hl hI;exact ih hi tp fuel G _ a w listed (by omega) dh hl hI (Vq hI hq)
theorem SJ(hE:bU c.P c.E)(lE:c.P.follows .mixedOrders=true){id:Nat}{ops:Array Oper}{Q:ai->Prop}{Q':Exit->Act->World->Prop}(hQ:∀ G s a w,Inv c G s a w->Q s->Q' .normal a w)
  (h:Inv c G s a w) (hd:Qe c.E ops Q s):(Code.region id ops true).wp c.P Q' a w:=by
 unfold Qe at hd;simp only at hd;split at hd
 .exact Un hE lE hQ h hd
 .split at hd;case h_2=>exact hd.elim
  case h_1 e9 =>
  refine wp_region_any lE ?_;exact a0K hE e9 hQ _ 0 [] ops.size G s a _ _ (by simp) (by simp) (by intro k hk;simp[hk]) (bH.drew h) hd
end
def Ul{c:Ctx}{G:Gh}{s:ai}{a:Act}{w:World}(hE:bU c.P c.E)(lE:c.P.follows .mixedOrders=true){id:Nat}{ops:Array Oper}{Q:ai->Prop}{Q':Exit->Act->World->Prop}(hQ:∀ G s a w,Inv c G s a w->Q s->Q' .normal a w)
  (h:Inv c G s a w) (hd:ZL c.E ops Q s):(Code.region id ops true).wp c.P Q' a w:=SJ hE lE hQ h hd
theorem pf{u v:TV}(h:AS u v):u=v:=by
 unfold AS at h;split at h
 .rename_i x hx;have:=TV.bj hx;rw[this,h]
 .exact h.elim
theorem Fq:∀ {l:List Nat},nodupB l=true->l.Nodup
 | [],_=>b2c
 | a::r,h=>by
  simp only[nodupB] at h;split at h
  .cases h
  .rename_i hc;exact List.nodup_cons.2 ⟨by simpa using hc,Fq h⟩
theorem CL{α:Type}(f:α->Nat):∀ {l:List α},(l.map f).Nodup->∀ x∈l,∀ y∈l,f x=f y->x=y
 | [],_,x,hx,_,_,_=>by simp at hx
 | a::r,h,x,hx,y,hy,he=>by
  simp only[b1J,b1G] at h;rcases b1e.1 hx with Y0|Y0
  .rcases b1e.1 hy with WV|WV
   .rw[Y0,WV]
   .exact absurd (b0S.2 ⟨y,WV,by rw[<-he,Y0]⟩) h.1
  .rcases b1e.1 hy with WV|WV
   .exact absurd (b0S.2 ⟨x,Y0,by rw[he,WV]⟩) h.1
   .exact CL f h.2 x Y0 y WV he
section
variable {c:Ctx} {G:Gh} {s t:ai} {a:Act} {w w':World}
def j9(G:Gh)(s t:ai)(ρ:List (Nat×Nat))(id:Nat):Value:=match s.ah (ec ρ id) with
 | some _=>G.η (ec ρ id)
 | none=>match cN (t.ah id) with
  | true => .tuple [.slice none 0 0].toArray
  | false => .slice none 0 0
def wo(G:Gh)(s:ai)(ρ:List (Nat×Nat))(id:Nat):List Nat:=match s.ah (ec ρ id) with
 | some _=>G.φ (ec ρ id)
 | none=>[]
theorem sQ{ρ:List (Nat×Nat)}{x:Value}{u v:AV}(h:AV.yo ρ s t u v)(hu:C1 c G s.ah w u x):C1 c ⟨G.S,j9 G s t ρ,wo G s ρ⟩ t.ah w v x:=by
 unfold AV.yo at h;split at h
 .trivial
 .split at h
  .have:=pf h;subst this;exact hu
  .split at h
   .subst h;exact⟨rfl,TG (c:=c) (G:=G) (lk:=s.ah) (τ := .slice _) (v := .nil) rfl (show C1 c G s.ah w .nil x from hu)⟩
   .exact h.elim
  .exact h.elim
 .split at h
  .exact hu
  .exact h.elim
 .split at h
  .have:=pf h;subst this;exact hu
  .exact h.elim
 .split at h
  .split at h
   .rename_i hb;simp only[b0R] at hb;have h1:=b0P hb.1.1;have h2:=b0P hb.1.2;subst h1 h2;obtain⟨b,k1,k2,k3⟩:=hu;refine⟨b,?_,k2,hb.2⟩;simp only[j9];match hl:s.ah (ec ρ _),k3 with
    | some o,_=>exact k1
   .exact h.elim
  .exact h.elim
 .split at h
  .split at h
   .rename_i hb;simp only[b0R] at hb;have h1:=b0P hb.1;subst h1;obtain⟨k1,k2,k3⟩:=hu;refine⟨?_,hb.2,k3⟩;simp only[j9];match hl:s.ah (ec ρ _),k2 with
    | some o,_=>exact k1
   .exact h.elim
  .split at h
   .rename_i hr hn;refine⟨?_,hr,none,0,0,hu⟩;simp only[j9,hn,wJ hr];exact hu
   .exact h.elim
  .exact h.elim
 .split at h
  .split at h
   .rename_i hb;simp only[b0R] at hb;have h1:=b0P hb.1;subst h1;obtain⟨k1,l,k2,k3⟩:=hu;refine⟨hb.2,l,?_,k3⟩;simp only[j9];match hl:s.ah (ec ρ _),k1 with
    | some o,_=>exact k2
   .exact h.elim
  .split at h
   .rename_i hr hn;have hu:x = .slice none 0 0:=hu;refine⟨hr,[],?_,none,0,0,hu⟩;simp only[j9,hn,hr];rw[hu]
   .exact h.elim
  .exact h.elim
 .split at h
  .split at h
   .rename_i hb;have h1:=b0P hb;subst h1;exact hu
   .exact h.elim
  .exact h.elim
 .split at h
  .split at h
   .rename_i hb;simp only[b0R] at hb;have h1:=b0P hb.1;subst h1;obtain⟨k1,k2,k3⟩:=hu;refine⟨?_,hb.2,k3⟩;simp only[j9];match hl:s.ah (ec ρ _),k2 with
    | some o,_=>exact k1
   .exact h.elim
  .exact h.elim
 .exact h.elim
theorem HW{ρ:List (Nat×Nat)}:∀ {us vs:List AV} {l:List Value},KY ρ s t us vs->bf (C1 c G s.ah w) us l->bf (C1 c ⟨G.S,j9 G s t ρ,wo G s ρ⟩ t.ah w) vs l
 | [],[],[],_,_=>trivial
 | u::us,v::vs,x::l,h,hu=>by
  simp only[KY] at h;split at h
  .exact⟨af,HW h hu.2⟩
  .exact⟨sQ h.1 hu.1,HW h.2 hu.2⟩
 | [],_::_,_,h,_=>h.elim
 | _::_,[],_,h,_=>h.elim
 | [],[],_::_,_,h=>h.elim
 | _::_,_::_,[],_,h=>h.elim
theorem a4Q{ρ:List (Nat×Nat)}{x:Value}{u v:AV}(h:AV.a7g ρ s t u v)(hu:CR c G s.ah w u x):CR c ⟨G.S,j9 G s t ρ,wo G s ρ⟩ t.ah w v x:=by
 rcases hu.inv with ⟨z,rfl,h1⟩|⟨cs,l,rfl,rfl,h1⟩|h1
 .cases v with
  | any=>trivial
  | aT z' =>
   have:=pf (show AS z z' from h);subst this;exact hu
  | _=>exact (show False from h).elim
 .cases v with
  | any=>trivial
  | agg vs=>exact⟨l,rfl,HW (show KY ρ s t cs vs from h) h1⟩
  | _=>exact (show False from h).elim
 .cases u with
  | agg cs=>exact (show False from h1).elim
  | _=>exact (sQ (show AV.yo ρ s t _ v by cases v<;>exact h) h1).a0O
theorem UL{ρ:List (Nat×Nat)}:∀ {us vs:List AV} {l:List Value},Z1 ρ s t us vs->bf (CR c G s.ah w) us l->bf (CR c ⟨G.S,j9 G s t ρ,wo G s ρ⟩ t.ah w) vs l
 | [],[],[],_,_=>trivial
 | u::us,v::vs,x::l,h,hu=>by
  simp only[Z1] at h;split at h
  .exact⟨af,UL h hu.2⟩
  .exact⟨a4Q h.1 hu.1,UL h.2 hu.2⟩
 | [],_::_,_,h,_=>h.elim
 | _::_,[],_,h,_=>h.elim
 | [],[],_::_,_,h=>h.elim
 | _::_,_::_,[],_,h=>h.elim
theorem a1o{u v:FV}(h:a2B u v):u=v:=by
 unfold a2B at h;split at h
 .rename_i F hF;have:=FV.bj hF;rw[this,h]
 .exact h.elim
theorem a6q{ρ:List (Nat×Nat)}{x:Value}{u v:AV}(h:AV.fit ρ s t u v)(hu:VR c G s.ah w u x):VR c ⟨G.S,j9 G s t ρ,wo G s ρ⟩ t.ah w v x:=by
 cases u with
 | agg us =>
  obtain⟨l,h1,h2⟩:=hu;cases v with
  | any=>trivial
  | agg vs=>exact⟨l,h1,HW (show KY ρ s t us vs from h) h2⟩
  | aT z =>
   obtain⟨τ,q⟩:=z;simp only[AV.fit] at h;split at h
   .rename_i y hy;have hr:gM w G.S ⟨τ,y⟩ x:=NF (c:=c) (G:=G) (lk:=s.ah) (w:=w) (x:=x) hy ⟨l,h1,h2⟩;have h':y=q:=h;show gM w G.S ⟨τ,q⟩ x;rw[<-h'];exact hr
   .exact h.elim
  | _=>exact (show False from h).elim
 | mI us =>
  cases v with
  | any=>trivial
  | _=>exact (show False from h).elim
 | aT z =>
  cases v with
  | any=>trivial
  | aT z' =>
   have:=pf (show AS z z' from h);subst this;exact hu
  | _=>exact (show False from h).elim
 | dO f us =>
  obtain⟨l,h1,h2⟩:=hu;cases v with
  | any=>trivial
  | dO g vs =>
   simp only[AV.fit] at h;split at h
   .rename_i hb;have hb:=b0P hb;subst hb;exact⟨l,h1,UL h h2⟩
   .exact h.elim
  | _=>exact (show False from h).elim
 | me z =>
  cases v with
  | any=>trivial
  | me z' =>
   have:=a1o (show a2B z z' from h);subst this;exact hu
  | _=>exact (show False from h).elim
 | any=>cases v<;>first|trivial|exact (show False from h).elim
 | fO=>cases v<;>first|trivial|exact (show False from h).elim
 | nil=>exact (sQ (u := .nil) (show AV.yo ρ s t .nil v by cases v<;>exact h) (show C1 c G s.ah w .nil x from hu)).jS
 | dH z=>exact (sQ (u := .dH z) (show AV.yo ρ s t (.dH z) v by cases v<;>exact h) (show C1 c G s.ah w (.dH z) x from hu)).jS
 | ptr i o=>exact (sQ (u := .ptr i o) (show AV.yo ρ s t (.ptr i o) v by cases v<;>exact h) (show C1 c G s.ah w (.ptr i o) x from hu)).jS
 | row i=>exact (sQ (u := .row i) (show AV.yo ρ s t (.row i) v by cases v<;>exact h) (show C1 c G s.ah w (.row i) x from hu)).jS
 | gp i k o=>exact (sQ (u := .gp i k o) (show AV.yo ρ s t (.gp i k o) v by cases v<;>exact h) (show C1 c G s.ah w (.gp i k o) x from hu)).jS
 | fn f=>exact (sQ (u := .fn f) (show AV.yo ρ s t (.fn f) v by cases v<;>exact h) (show C1 c G s.ah w (.fn f) x from hu)).jS
 | mp i=>exact (sQ (u := .mp i) (show AV.yo ρ s t (.mp i) v by cases v<;>exact h) (show C1 c G s.ah w (.mp i) x from hu)).jS
 | aD i=>exact (sQ (u := .aD i) (show AV.yo ρ s t (.aD i) v by cases v<;>exact h) (show C1 c G s.ah w (.aD i) x from hu)).jS
 | sub i k o z=>exact (sQ (u := .sub i k o z) (show AV.yo ρ s t (.sub i k o z) v by cases v<;>exact h) (show C1 c G s.ah w (.sub i k o z) x from hu)).jS
 | gQ i k o z=>exact (sQ (u := .gQ i k o z) (show AV.yo ρ s t (.gQ i k o z) v by cases v<;>exact h) (show C1 c G s.ah w (.gQ i k o z) x from hu)).jS
theorem E5{ρ:List (Nat×Nat)}:∀ {us vs:List AV},DL ρ s t us vs->us.length=vs.length/\∀ i,vs.getD i .any = .any\/AV.fit ρ s t (us.getD i .any) (vs.getD i .any)
 | [],[],_=>⟨rfl,λ i => .inl (by simp)⟩
 | u::us,v::vs,h=>by
  simp only[DL] at h;split at h
  .obtain⟨h1,h2⟩:=E5 h;refine⟨by simp[h1],λ i=>?_⟩;cases i with
   | zero=>exact .inl rfl
   | succ i=>simpa using h2 i
  .obtain⟨h1,h2⟩:=E5 h.2;refine⟨by simp[h1],λ i=>?_⟩;cases i with
   | zero=>exact .inr h.1
   | succ i=>simpa using h2 i
 | [],_::_,h=>h.elim
 | _::_,[],h=>h.elim
def a4k(bw:Ty)(ys:List bw.den)(τ:Ty)(xs:List τ.den):Prop:=∀ (w:World) (η:Value) (fp:List Nat),l6 w η bw ys fp->l6 w η τ xs fp
theorem Zw{bw:Ty}{ys:List bw.den}{τ:Ty}{xs:List τ.den}(h:Zv bw ys τ xs):a4k bw ys τ xs:=by
 unfold Zv at h;split at h
 .rename_i h1 h2;have h1:=b1z h1;have h2:=b1z h2;subst h1 h2;have h:=pf h;rw[TV.a0X] at h;cases h;intro w η fp hT;obtain⟨v,l,a,cap,q1,q2,q3,q4,q5,q6⟩:=hT;have e1:(List.map toO ys).length=ys.length:=b1o _;have e2:((show List J from ys).map toO).map (Ty.bc (.st .oExpr))=ys.map (Ty.bc (.st .expr)):=by
   rw[List.map_map];refine b4E λ x _=>?_;show aY.bc .oExpr (toO x)=aY.bc .expr x;rw[aY.cP,aY.cP];rfl
  refine⟨v,l,a,cap,q1,by rw[q2];exact congrArg (Value.slice a · cap) e1.symm,by exact e1 ▸ q3,q4,by exact e1 ▸ q5,?_⟩;rcases q6 with ⟨rfl,q7,q8⟩|⟨b,f,t,q7,q8,q9,q10,q11⟩
  .exact .inl ⟨rfl,q7,q8⟩
  .exact .inr ⟨b,f,t,q7,q8,q9,q10,e2 ▸ q11⟩
 .have h:=pf h;cases h;exact λ _ _ _ h=>h
def a6g(ρ:List (Nat×Nat))(s t:ai)(id:Nat):aG->Prop
 | .box bs=>∃ Z9,s.ah (ec ρ id)=some (.box Z9)/\KY ρ s t Z9 bs
 | .row e τ xs=>s.ah (ec ρ id)=some (.row e τ xs)\/(s.ah (ec ρ id)=none/\xs=[])
 | .aD τ xs=>(∃ bw ys,s.ah (ec ρ id)=some (.aD bw ys)/\a4k bw ys τ xs)\/(s.ah (ec ρ id)=none/\xs=[])
 | .map m=>s.ah (ec ρ id)=some (.map m)
theorem a0p{a b:MV}(h:a1J a b):a=b:=by
 unfold a1J at h;split at h
 .rename_i f n hf;rw[MV.bj hf];simp only;rw[h.1,h.2]
 .exact h.elim
theorem qw{ρ:List (Nat×Nat)}:∀ {l:List (Nat×aG)},pg ρ s t l->∀ id o,(id,o)∈l->a6g ρ s t id o
 | [],_,id,o,h=>by simp at h
 | (k, .box bs)::r,h,id,o,hm=>by
  simp only[pg] at h;split at h
  .rename_i Z9 ha;rcases b1e.1 hm with e|hm
   .simp only[b0O] at e;obtain⟨rfl,rfl⟩:=e;exact⟨Z9,ha,h.1⟩
   .exact qw h.2 id o hm
  .exact h.elim
 | (k, .row e τ xs)::r,h,id,o,hm=>by
  simp only[pg] at h;split at h
  .rename_i e' bw ys ha;split at h
   .rename_i he;have he:=b0P he;subst he;rcases b1e.1 hm with e1|hm
    .simp only[b0O] at e1;obtain⟨rfl,rfl⟩:=e1;have:=pf h.1;cases this;exact .inl ha
    .exact qw h.2 id o hm
   .exact h.elim
  .rename_i ha;rcases b1e.1 hm with e1|hm
   .simp only[b0O] at e1;obtain⟨rfl,rfl⟩:=e1;exact .inr ⟨ha,h.1⟩
   .exact qw h.2 id o hm
  .exact h.elim
 | (k, .aD τ xs)::r,h,id,o,hm=>by
  simp only[pg] at h;split at h
  .rename_i bw ys ha;rcases b1e.1 hm with e1|hm
   .simp only[b0O] at e1;obtain⟨rfl,rfl⟩:=e1;exact .inl ⟨bw,ys,ha,Zw h.1⟩
   .exact qw h.2 id o hm
  .rename_i ha;rcases b1e.1 hm with e1|hm
   .simp only[b0O] at e1;obtain⟨rfl,rfl⟩:=e1;exact .inr ⟨ha,h.1⟩
   .exact qw h.2 id o hm
  .exact h.elim
 | (k, .map m)::r,h,id,o,hm=>by
  simp only[pg] at h;split at h
  .rename_i m' ha;rcases b1e.1 hm with e1|hm
   .simp only[b0O] at e1;obtain⟨rfl,rfl⟩:=e1;rw[a0p h.1] at ha;exact ha
   .exact qw h.2 id o hm
  .exact h.elim
theorem HY{ρ:List (Nat×Nat)}(h:Inv c G s a w)(hf:Fits ρ s t):∃ G',Inv c G' t a w:=by
 unfold Fits at hf;split at hf;case h_2=>exact hf.elim
 case h_1 hb =>
  rw[b0R] at hb;obtain⟨hb,hb4⟩:=hb;rw[b0R] at hb;obtain⟨hb,U0⟩:=hb;simp only[b0R] at hb;obtain⟨hs,ho⟩:=hf;obtain⟨hlen,Vh⟩:=E5 hs;have qh:=qw ho;have gH:∀ id b,gi (j9 G s t ρ id)=some b->∃ o,s.ah (ec ρ id)=some o/\gi (G.η (ec ρ id))=some b:=by
   intro id b hb;unfold j9 at hb;split at hb
   .rename_i o ho;exact⟨o,ho,hb⟩
   .split at hb<;>cases hb
  refine⟨⟨G.S,j9 G s t ρ,wo G s ρ⟩,?_⟩;exact {
   defers:=h.defers
   size:=h.size.trans hlen
   bd:=h.bd,oB:=h.oB,gh:=h.gh,sX:=h.sX,eV:=h.eV
   aE:=λ i=>by
    rcases Vh i with e|e
    .rw[show t.sl i = .any from e];trivial
    .exact a6q e (h.aE i)
   aR:=λ id o bm=>by
    have hof:=qh id o (iS bm);cases o with
    | box bs =>
     obtain⟨Z9,h1,h2⟩:=hof;obtain⟨b,l,ty,k1,k2,k3⟩:=h.aR _ _ h1;refine⟨b,l,ty,?_,k2,HW h2 k3⟩;simp only[j9,h1];exact k1
    | row e τ xs =>
     rcases hof with h1|⟨h1,rfl⟩
     .obtain⟨l,k1,k2,k3⟩:=h.aR _ _ h1;refine⟨l,?_,k2,k3⟩;simp only[j9,h1];exact k1
     .refine⟨[],?_,rfl,by simp⟩;simp only[j9,h1,wJ (show isRow (t.ah id)=true by rw[bm];rfl)];exact World.ownsRow_nil w 0 e τ.size
    | aD τ xs=>trivial
    | map m =>
     have h1:s.ah (ec ρ id)=some (.map m):=hof;obtain⟨b,es,clock,k1,k2⟩:=h.aR _ _ h1;refine⟨b,es,clock,?_,k2⟩;simp only[j9,h1];exact k1
   place:=λ id o b bm mh=>by
    obtain⟨o',h1,h2⟩:=gH id b mh;exact h.place _ _ b h1 h2
   apart:=λ id er o o' b bm Ib mh a9q=>by
    obtain⟨p,h1,h2⟩:=gH id b mh;obtain⟨p',h3,h4⟩:=gH er b a9q;have:=h.apart _ _ _ _ b h1 h3 h2 h4;have OK:=CL (λ p:Nat×aG=>ec ρ p.1) (Fq hb.2) (id,o) (iS bm) (er,o') (iS Ib) this;exact congrArg Prod.fst OK
   aW:=by
    have QF:∀ id b,b∈wo G s ρ id->(∃ o,s.ah (ec ρ id)=some o)/\b∈G.φ (ec ρ id):=λ id b cO=>by
     unfold wo at cO;split at cO
     .rename_i o ho;exact⟨⟨o,ho⟩,cO⟩
     .simp at cO
    have GY:∀ id τ xs,t.ah id=some (.aD τ xs)->(∃ bw ys,s.ah (ec ρ id)=some (.aD bw ys)/\a4k bw ys τ xs)\/(s.ah (ec ρ id)=none/\xs=[]):=λ id τ xs bm=>qh id _ (iS bm);have gT:∀ id τ xs b,t.ah id=some (.aD τ xs)->b∈wo G s ρ id->∃ bw ys,s.ah (ec ρ id)=some (.aD bw ys)/\b∈G.φ (ec ρ id):=λ id τ xs b bm cO=>by
     obtain⟨⟨o,ho⟩,h2⟩:=QF id b cO;rcases GY id τ xs bm with ⟨bw,ys,h1,_⟩|⟨h1,_⟩
     .exact⟨bw,ys,h1,h2⟩
     .rw[h1] at ho;cases ho
    exact {
     tr:=λ id τ xs bm=>by
      rcases GY id τ xs bm with ⟨bw,ys,h1,hle⟩|⟨h1,rfl⟩
      .simp only[j9,wo,h1];exact hle _ _ _ (h.aW.tr _ _ _ h1)
      .simp only[j9,wo,h1,show cN (t.ah id)=true by rw[bm];rfl];exact⟨_,[],none,0,rfl,rfl,by simp,by simp[maxLen],by simp, .inl ⟨rfl,⟨rfl,rfl⟩,rfl⟩⟩
     nd:=λ id τ xs bm=>by
      rcases GY id τ xs bm with ⟨bw,ys,h1,_⟩|⟨h1,_⟩
      .simp only[wo,h1];exact h.aW.nd _ _ _ h1
      .simp only[wo,h1];exact b2c
     pl:=λ id τ xs b bm cO=>by
      obtain⟨_,_,h1,h2⟩:=gT id τ xs b bm cO;obtain⟨q1,q2,q3,q4⟩:=h.aW.pl _ _ _ b h1 h2;refine⟨q1,q2,q3,λ i o hi uC=>?_⟩;obtain⟨o',k1,k2⟩:=gH i b uC;exact q4 _ o' k1 k2
     ap:=λ id er τ bw xs dw b bm Ib E7 Mn=>by
      obtain⟨_,_,h1,h2⟩:=gT id τ xs b bm E7;obtain⟨_,_,h3,h4⟩:=gT er bw dw b Ib Mn;have:=h.aW.ap _ _ _ _ _ _ b h1 h3 h2 h4;have OK:=CL (λ p:Nat×aG=>ec ρ p.1) (Fq hb.2) (id, .aD τ xs) (iS bm) (er, .aD bw dw) (iS Ib) this;exact congrArg Prod.fst OK }
   root:=λ id v hr ht=>by
    have hrg:=h.mG id v hr;match hl:t.ah id,ht with
    | some (.aD τ xs),_ =>
     have hq:=b1L.1 U0 _ (iS hl);simp only[b2y,b0R,b4h,Nat.ble_eq] at hq;rcases hq with hq|hq|⟨Ki,Ig⟩
     .omega
     .omega
     .have Ki:=Nat.eq_of_beq_eq_true Ki;obtain⟨l,h2⟩:=h.root id v hr Ig;refine⟨l,?_⟩;show j9 G s t ρ id=_;unfold j9;rw[Ki];match hs:s.ah id,Ig with
      | some (.aD ..),_=>exact h2
   mG:=h.mG
   ep:=λ id v hr ht=>by
    have hrg:=h.hH id v hr;match hl:t.ah id,ht with
    | some (.box cs),_ =>
     have hq:=b1L.1 hb4 _ (iS hl);simp only[jG,b0X,b4B,b2y,b0R,b4h] at hq;rcases hq with hq|⟨Ki,Ig⟩
     .omega
     .have Ki:=Nat.eq_of_beq_eq_true Ki;have h2:=h.ep id v hr Ig;show j9 G s t ρ id=_;unfold j9;rw[Ki];match hs:s.ah id,Ig with
      | some (.box ..),_=>exact h2
   hH:=h.hH }
theorem jD(hE:bU c.P c.E)(lE:c.P.follows .mixedOrders=true):∀ (jQ:Code) (Λ:Nat->aM) (cur:Nat) (Q:Exit->ai->Prop) (G:Gh) (s:ai) (a:Act) (w:World),
  Inv c G s a w->ck c.E jQ Λ cur Q s->jQ.wp c.P (λ e a w=>∃ G s,Inv c G s a w/\Q e s) a w
 | .skip,Λ,cur,Q,G,s,a,w,h,hr=>wp_skip ⟨G,s,h,hr⟩
 | .region id ops draw,Λ,cur,Q,G,s,a,w,h,hr=>by
  cases draw with
  | true=>exact Ul hE lE (Q:=Q .normal) (λ G s a w hI hq=>⟨G,s,hI,hq⟩) h hr
  | false =>
   refine wp_region ?_;have:=Ct hE (ops:=ops) (Q:=Q .normal) (Q':=λ e a w=>∃ G s,Inv c G s a w/\Q e s) (λ G s a w hI hq=>⟨G,s,hI,hq⟩) ops.toList 0 [] G s a w (by simp) h hr;rw[List.range_eq_range'];simpa using this
 | .seq x y,Λ,cur,Q,G,s,a,w,h,hr=>by
  simp only[ck] at hr;split at hr;case h_2 ι P μ fz dead ins bd os X8 ren sub hL =>
   obtain⟨hx,hy⟩:=hr;refine wp_seq (b3T (jD hE lE x Λ cur _ G s a w h hx) ?_);rintro e a' w' ⟨G',s',hI,hq⟩;cases e with
   | normal =>
    obtain⟨j,hPj,hF⟩:=hq;obtain⟨G3,h3⟩:=hI.HZ fz;obtain⟨G4,h4⟩:=HY h3 hF.ex.choose_spec;exact jD hE lE y (sub j) cur Q G4 _ a' w' h4 (hy j hPj)
   | _=>exact⟨G',s',hI,hq⟩
  refine wp_seq (b3T (jD hE lE x Λ cur _ G s a w h hr) ?_);rintro e a' w' ⟨G',s',hI,hq⟩;cases e with
  | normal=>exact jD hE lE y Λ cur Q G' s' a' w' hI hq
  | _=>exact⟨G',s',hI,hq⟩
 | .cond x p q,Λ,cur,Q,G,s,a,w,h,hr=>by
  simp only[ck] at hr;split at hr
  .rename_i t ht;have hx:=bI h x;rw[ht] at hx;have hx:[a.eval x]=[.bool t]:=hx;simp only[b0T,b1b] at hx;refine wp_cond hx ?_;cases t with
   | true=>exact jD hE lE p Λ cur Q G s a w h (hr.1 rfl)
   | false=>exact jD hE lE q Λ cur Q G s a w h (hr.2 rfl)
  .exact hr.elim
 | .block id x,Λ,cur,Q,G,s,a,w,h,hr=>by
  refine wp_block (b3T (jD hE lE x Λ id _ G s a w h hr) ?_);rintro e a' w' ⟨G',s',hI,hq⟩;cases e with
  | exit i =>
   simp only at hq;simp only[Exit.inBlock];split at hq
   .rename_i hi;rw[b1q (b0P hi)];exact⟨G',s',hI,hq⟩
   .rename_i hi;have:i≠id:=λ e=>by subst e;simp at hi
    rw[b0Y this];exact⟨G',s',hI,hq⟩
  | _=>exact⟨G',s',hI,hq⟩
 | .loop x,Λ,cur,Q,G,s,a,w,h,hr=>by
  simp only[ck] at hr;split at hr
  .exact hr.elim
  .rename_i ι P μ fz dead ins bd os X8 ren sub hL;obtain⟨⟨i0,hP0,hF0⟩,a6z⟩:=hr;obtain⟨G1,h1⟩:=h.HZ fz;obtain⟨G2,h2⟩:=HY h1 hF0.ex.choose_spec;refine wp_loop_ghost (λ n a w=>∃ i G,P i/\μ i=n/\Inv c G (vJ s (dead++Code.EN x) (ins i) bd (os i)) a w) (μ i0) ⟨i0,G2,hP0,rfl,h2⟩ ?_;rintro n a' w' ⟨i,G',hP,rfl,hI⟩;refine b3T (jD hE lE x (sub i) cur _ G' _ a' w' hI (a6z i hP)) ?_;rintro e a'' w'' ⟨G'',s'',a7j,hq⟩;cases e with
   | normal =>
    obtain⟨j,hPj,bX,hF⟩:=hq;obtain⟨G3,h3⟩:=a7j.HZ fz;obtain⟨G4,h4⟩:=HY h3 hF.ex.choose_spec;exact⟨μ j,bX,j,G4,hPj,rfl,h4⟩
   | _=>exact⟨G'',s'',a7j,hq⟩
 | .exit id,Λ,cur,Q,G,s,a,w,h,hr=>wp_exit ⟨G,s,h,hr⟩
 | .ret,Λ,cur,Q,G,s,a,w,h,hr=>wp_ret ⟨G,s,h,hr⟩
 | .label l,Λ,cur,Q,G,s,a,w,h,hr=>wp_label ⟨G,s,h,hr⟩
 | .rangeFunc ..,_,_,_,_,_,_,_,_,hr=>hr.elim
 | .scope ..,_,_,_,_,_,_,_,_,hr=>hr.elim
 | .goto ..,_,_,_,_,_,_,_,_,hr=>hr.elim
 | .refuse ..,_,_,_,_,_,_,_,_,hr=>hr.elim
end
theorem bf.replicate{α β:Type}{R:α->β->Prop}{a:α}{b:β}(rr:R a b):∀ n:Nat,bf R (List.replicate n a) (List.replicate n b)
 | 0=>trivial
 | n+1=>⟨rr,bf.replicate rr n⟩
theorem bf.Bj{α β:Type}{R:α->β->Prop}{Z9:List α}{bs:List β}(h:bf R Z9 bs){a:α}{b:β}(rr:R a b)(n:Nat):bf R (Z9++List.replicate n a) (bs++List.replicate n b) :=
 h.append (bf.replicate rr n)
theorem bf.getD{α β:Type}{R:α->β->Prop}{d:α}{e:β}(hde:R d e):∀ {Z9:List α} {bs:List β},bf R Z9 bs->∀ i:Nat,R (Z9.getD i d) (bs.getD i e)
 | [],[],_,i=>by simpa using hde
 | a::Z9,b::bs,h,0=>h.1
 | a::Z9,b::bs,h,i+1=>by simpa using bf.getD hde h.2 i
 | [],_::_,h,_=>h.elim
 | _::_,[],h,_=>h.elim
section
variable {P:Program} {E:Env}
def a4f(P:Program)(w:World)(S:Nat->Prop):Arg->Value->Prop
 | .own _,_=>True
 | .box _,_=>True
 | a,x=>Bf P w S a x
theorem Sx{w:World}{S X:Nat->Prop}(hS:yI w S)(hX:∀ b,X b->b<w.heap.size/\¬ S b){fn:Func}{args:List Arg}{dm:List Value}(ha:bf (a4f P w S) args dm)(Si:(∀ b,¬ X b)\/∀ a∈args,a.M6=true) :
  Inv ⟨P,E,w,X,S,λ _=>none,λ _=>False,λ _=>none⟩ ⟨S,λ _=>undef,λ _=>[]⟩ (aL fn args) { tmps:=dm.toArray++Array.replicate (fn.ntmps - dm.toArray.size) undef,defers:=[] } w:=by
 have hlen:=ha.length;have Vh:∀ v x,v∈args->a4f P w S v x->VR ⟨P,E,w,X,S,λ _=>none,λ _=>False,λ _=>none⟩ ⟨S,λ _=>undef,λ _=>[]⟩ (aL fn args).ah w (Uf v) x:=by
  intro v x hm h;cases v with
  | val v=>exact h
  | ref v =>
   obtain⟨b,o,cs,h1,h2,h3,h4⟩:=h;exact⟨b,o,cs,h1, .inr ⟨h2,Si.elim (λ q=>⟨q b,λ z=>z⟩) λ q=>absurd (q _ hm) (by simp[Arg.M6])⟩,h3,h4⟩
  | fn f=>exact h
  | dO v =>
   obtain⟨f,jP,l,h1,h2,h3⟩:=h;refine⟨f,jP,l,h1,h2,h3.imp λ u y _ hy=>?_⟩;cases u with
   | val v=>exact hy
   | ref v =>
    obtain⟨b,o,cs,k1,k2,k3,k4⟩:=hy;exact⟨b,o,cs,k1, .inr ⟨k2,Si.elim (λ q=>⟨q b,λ z=>z⟩) λ q=>absurd (q _ hm) (by simp[Arg.M6])⟩,k3,k4⟩
   | fn f=>exact hy
   | dO v=>exact hy.elim
   | own v=>exact hy.elim
   | box k=>exact hy.elim
  | own v=>trivial
  | box k=>trivial
 exact {
  defers:=rfl
  size:=by simp[aL,hlen]
  bd:=bV.refl _ _
  oB:=⟨λ b h=>(hX b h).1,λ g hg=>⟨(hS.2 g hg).1,λ q=>(hX g q).2 (hS.2 g hg).1,hS.1 g (hS.2 g hg).1,(hS.2 g hg).2⟩⟩
  gh:=λ b _ _=>b2L
  sX:=λ b hs=>hs
  eV:=hS.1
  aE:=λ i=>by
   have h1:bf (λ v x=>VR ⟨P,E,w,X,S,λ _=>none,λ _=>False,λ _=>none⟩ ⟨S,λ _=>undef,λ _=>[]⟩ (aL fn args).ah w v x) (args.map Uf) dm:=bf.fX _ (ha.imp λ v x hm h=>Vh v x hm h);have h2:=bf.getD (d:=AV.any) (e:=undef) (show VR ⟨P,E,w,X,S,λ _=>none,λ _=>False,λ _=>none⟩ ⟨S,λ _=>undef,λ _=>[]⟩ (aL fn args).ah w .any undef from trivial) (h1.Bj (a:=AV.any) (b:=undef) (show VR ⟨P,E,w,X,S,λ _=>none,λ _=>False,λ _=>none⟩ ⟨S,λ _=>undef,λ _=>[]⟩ (aL fn args).ah w .any undef from trivial) (fn.ntmps - args.length)) i;have e1:(aL fn args).sl i=(args.map Uf++List.replicate (fn.ntmps - args.length) AV.any).getD i AV.any:=rfl;have e2:(dm.toArray++Array.replicate (fn.ntmps - dm.toArray.size) undef).getD i undef=(dm++List.replicate (fn.ntmps - args.length) undef).getD i undef:=by
    rw[b1I,b1f,<-b4v];simp[hlen]
   rw[e1,e2];exact h2
  aR:=λ id o h=>by cases h
  place:=λ id o b h=>by cases h
  apart:=λ id er o o' b h=>by cases h
  aW:=⟨(λ id τ xs h=>by cases h),(λ id τ xs h=>by cases h),(λ id τ xs b h=>by cases h),(λ id er τ bw xs dw b h=>by cases h)⟩
  root:=λ id v h=>by cases h
  mG:=λ id v h=>by cases h
  ep:=λ id v h=>by cases h
  hH:=λ id v h=>by cases h }
theorem a2c{w:World}{S:Nat->Prop}(hS:yI w S){fn:Func}{args:List Arg}{dm:List Value}(ha:bf (Bf P w S) args dm) :
  Inv ⟨P,E,w,λ _=>False,S,λ _=>none,λ _=>False,λ _=>none⟩ ⟨S,λ _=>undef,λ _=>[]⟩ (aL fn args) { tmps:=dm.toArray++Array.replicate (fn.ntmps - dm.toArray.size) undef,defers:=[] } w :=
 Sx hS (λ _ h=>h.elim) (ha.imp λ v x _ h=>by
  cases v with
  | own v=>trivial
  | box k=>exact h.elim
  | _=>exact h) (.inl λ _ h=>h)
def rG(tmps:Array Value):ResultVar->Sem Value
 | .tmp t=>pure (tmps.getD t undef)
 | .cell a t=>do loadVar t (<-asAddr (tmps.getD a undef))
theorem xB(fn:Func)(tmps:Array Value):results fn tmps=(do
  let vs <-fn.results.mapM (rG tmps)
  pure (if h:vs.size=1 then vs[0] else .tuple vs)):=by
 unfold results;congr 1
theorem Pv(hE:bU P E){c:Ctx}(YR:c.P=P)(hcE:c.E=E){G:Gh}{s:ai}{a:Act}{w:World}(h:Inv c G s a w):∀ {rs:List ResultVar} {Ts:List TypeId} {vs:List TV},Rj E s rs Ts=some vs ->
  ∃ xs,(rs.mapM (rG a.tmps)).run P w = .ok xs w/\bf (gM w (SX G s.ah)) vs xs
 | [],[],vs,hr=>by
  simp only[Rj,b0L] at hr;subst hr;exact⟨[],by simp,af⟩
 | r::rs,T::Ts,vs,hr=>by
  simp only[Rj] at hr;split at hr
  .rename_i τ q hT;split at hr
   .rename_i x hx;split at hr
    .rename_i l hl;simp only[b0L] at hr;subst hr;obtain⟨xs,h1,h2⟩:=Pv hE YR hcE h hl;cases r with
     | tmp t =>
      refine⟨a.tmps.getD t undef::xs,by simp[b3k,rG,h1],EM h.aW h.aR (IJ λ _ _ h=>h) hx (bI h (.tmp t)),h2⟩
     | cell p t =>
      simp only at hx;split at hx
      .rename_i hb;have hb:=Nat.eq_of_beq_eq_true hb;subst hb;unfold deref at hx;split at hx
       .rename_i u hu;obtain⟨b,o,cs,k1,k2,k3,k4⟩:=uP h.aR (IJ λ _ _ h=>h) hu (bI h (.tmp p));have c9:=qT hE hT k2 k3;have k1':a.tmps.getD p undef = .pointer (some ⟨b,o,none⟩):=k1;refine⟨Km τ cs::xs,?_,EM h.aW h.aR (IJ λ _ _ h=>h) hx k4,h2⟩;simp only[Instr.loadAt,Instr.sureAddr,b1u,b1w,b1j] at c9;simp only[b3k,rG,k1',asAddr,b1u,b1w,b1j,c9,h1]
       .cases hx
      .cases hx
    .cases hr
   .cases hr
  .cases hr
 | [],_::_,_,hr=>by cases hr
 | _::_,[],_,hr=>by cases hr
theorem a5M{w:World}{S:Nat->Prop}:∀ {vs:List TV} {xs:List Value},bf (gM w S) vs xs->FR w S vs (if h:xs.toArray.size=1 then xs.toArray[0] else .tuple xs.toArray)
 | [],[],_=>⟨[],by simp,af⟩
 | [v],[x],h=>by simpa [FR] using h.1
 | v::u::r,x::y::z,h=>⟨x::y::z,by simp,h⟩
 | [],_::_,h=>h.elim
 | _::_,[],h=>h.elim
 | [_],_::_::_,h=>h.2.elim
 | _::_::_,[_],h=>h.2.elim
theorem XG(hE:bU P E)(lE:P.follows .mixedOrders=true){f:FuncId}{fn:Func}{jQ:Code}(hf:P.funcs[f]?=some fn)(hb:fn.body=some jQ)(Λ:Nat->aM){args:List Arg}{post:List TV->Prop}
  (h:ck E jQ Λ 0 (bx E fn post) (aL fn args)):bC P f args post:=by
 intro w S dm hS ha;refine b4r hf hb ?_;have hinv:=a2c (P:=P) (E:=E) (fn:=fn) hS ha;refine b3T (jD (c:=⟨P,E,w,λ _=>False,S,λ _=>none,λ _=>False,λ _=>none⟩) hE lE jQ Λ 0 _ _ _ _ w hinv h) ?_;have fin:∀ (e:Exit) (a:Act) (w':World),(e = .normal\/e = .ret)->(∃ G s,Inv ⟨P,E,w,λ _=>False,S,λ _=>none,λ _=>False,λ _=>none⟩ G s a w'/\bx E fn post e s) ->
   a.defers=[]/\∃ v,(results fn a.tmps).run P w' = .ok v w'/\∃ x S' res,Ending.returned v = .returned x/\post res/\bV (λ _=>False) w w'/\(∀ b,b<w.heap.size->(S' b↔S b))/\(∀ b,S' b->b<w'.heap.size)/\FR w' S' res x:=by
  rintro e a w' he ⟨G,s,hI,hp⟩;have Vb:∃ vs,Rj E s fn.results.toList fn.resultTypes.toList=some vs/\post vs:=by
   rcases he with rfl|rfl <;>
   .simp only[bx] at hp;split at hp
    .rename_i vs CJ;exact⟨vs,CJ,hp⟩
    .exact hp.elim
  obtain⟨vs,CJ,Vd⟩:=Vb;obtain⟨xs,h1,h2⟩:=Pv hE (c:=⟨P,E,w,λ _=>False,S,λ _=>none,λ _=>False,λ _=>none⟩) rfl rfl hI CJ;refine⟨hI.defers,(if h:xs.toArray.size=1 then xs.toArray[0] else .tuple xs.toArray),?_,_,SX G s.ah,vs,rfl,Vd,hI.bd,λ b hb=>?_,λ b hb=>?_,a5M h2⟩
  .rw[xB,b2O];simp only[b1u,b4s,h1];rfl
  .constructor
   .rintro (hs|⟨id,e',τ,ys,bm,mh⟩|⟨id,τ,ys,bm,mh⟩)
    .exact (hI.gh b hb (λ q=>q)).1 hs
    .rcases (hI.place id _ b bm mh).1 with YT|hx
     .have:w.heap.size<=b:=YT;omega
     .exact hx.elim
    .rcases (hI.aW.pl id _ _ b bm mh).1 with YT|hx
     .have:w.heap.size<=b:=YT;omega
     .exact hx.elim
   .exact λ hs => .inl ((hI.gh b hb (λ q=>q)).2 hs)
  .rcases hb with hs|⟨id,e',τ,ys,bm,mh⟩|⟨id,τ,ys,bm,mh⟩
   .exact hI.eV b hs
   .exact (hI.place id _ b bm mh).2.2
   .exact (hI.aW.pl id _ _ b bm mh).2.2.1
 intro e a w' hq;cases e with
 | normal=>exact fin .normal a w' (.inl rfl) hq
 | ret=>exact fin .ret a w' (.inr rfl) hq
 | exit i=>obtain⟨_,_,_,hp⟩:=hq;exact hp.elim
 | goto l=>obtain⟨_,_,_,hp⟩:=hq;exact hp.elim
 | panic ch=>obtain⟨_,_,_,hp⟩:=hq;exact hp.elim
 | outgrown=>obtain⟨_,_,_,hp⟩:=hq;exact hp.elim
end
def xD(E:Env)(s:ai):List ResultVar->List TypeId->Option (List TV×List Nat)
 | [],[]=>some ([],[])
 | r::rs,T::Ts=>match ah E.ty T with
  | some (
      τ,_)=>match (match r with
    | .tmp t=>vm s.ah τ (s.eval (.tmp t))
    | .cell p t=>match Nat.beq t T with
     | true=>match wB s.ah τ (s.eval (.tmp p)) with
      | some u=>vm s.ah τ u
      | none=>none
     | false=>none) with
   | some (x,i)=>match xD E s rs Ts with
    | some (l,j)=>some (⟨τ,x⟩::l,i++j)
    | none=>none
   | none=>none
  | none=>none
 | _,_=>none
def dN(E:Env)(fn:Func)(post:List TV->Prop)(e:Exit)(s:ai):Prop :=
 match e with
 | .ret | .normal=>match xD E s fn.results.toList fn.resultTypes.toList with
  | some (vs,ids)=>match nodupB ids with
   | true=>post vs
   | false=>False
  | none=>False
 | _=>False
section
variable {P:Program} {E:Env}
theorem FD{c:Ctx}(hE:bU c.P c.E)(YR:c.P=P)(hcE:c.E=E){G:Gh}{s:ai}{a:Act}{w:World}(h:Inv c G s a w):∀ {rs:List ResultVar} {Ts:List TypeId} {vs:List TV} {ids:List Nat},xD E s rs Ts=some (vs,ids)->ids.Nodup ->
  ∃ xs fp,(rs.mapM (rG a.tmps)).run P w = .ok xs w/\Nt w vs xs fp/\fp.Nodup/\∀ b∈fp,yG G s.ah ids b
 | [],[],vs,ids,hr,_=>by
  simp only[xD,b0L,b0O] at hr;obtain⟨rfl,rfl⟩:=hr;exact⟨[],[],by simp,rfl,b2c,by simp⟩
 | r::rs,T::Ts,vs,ids,hr,dt=>by
  simp only[xD] at hr;split at hr;case h_2=>cases hr
  case h_1 τ q hT =>
  split at hr;case h_2=>cases hr
  case h_1 x i hx =>
  split at hr;case h_2=>cases hr
  case h_1 l j hl =>
  simp only[b0L,b0O] at hr;obtain⟨rfl,rfl⟩:=hr;rw[b1k] at dt;obtain⟨n1,n2,n3⟩:=dt;obtain⟨xs,fp,h1,h2,h3,h4⟩:=FD hE YR hcE h hl n2;cases r with
  | cell p t =>
   simp only at hx;split at hx;case h_2=>cases hx
   case h_1 hb =>
   have hb:=b0P hb;subst hb;split at hx;case h_2=>cases hx
   case h_1 u hu =>
   obtain⟨b,o,cs,q1,q2,q3,q4⟩:=uP h.aR (λ _ _ h=>h) hu (bI h (.tmp p));subst YR hcE;have c9:=qT hE hT q2 q3;have q1':a.tmps.getD p undef = .pointer (some ⟨b,o,none⟩):=q1;obtain⟨f1,k1,k2,k3⟩:=qV h hx q4 n1;refine⟨Km τ cs::xs,f1++fp,?_,⟨f1,fp,rfl,k1,h2⟩,fK k2 h3 λ b hb cO=>h.mN (k3 b hb) (h4 b cO) (λ x hx y hy=>n3 x hx y hy),λ b hb=>?_⟩
   .simp only[Instr.loadAt,Instr.sureAddr,b1u,b1w,b1j] at c9;simp only[b3k,rG,q1',asAddr,b1u,b1w,b1j,c9,h1]
   .rcases b0Q.1 hb with hb|hb
    .exact (k3 b hb).mono λ k hk=>by simp[hk]
    .exact (h4 b hb).mono λ k hk=>by simp[hk]
  | tmp t =>
   obtain⟨f1,k1,k2,k3⟩:=qV h hx (bI h (.tmp t)) n1;refine⟨a.tmps.getD t undef::xs,f1++fp,by simp[b3k,rG,h1],⟨f1,fp,rfl,k1,h2⟩,fK k2 h3 λ b hb cO=>h.mN (k3 b hb) (h4 b cO) (λ x hx y hy=>n3 x hx y hy),λ b hb=>?_⟩;rcases b0Q.1 hb with hb|hb
   .exact (k3 b hb).mono λ k hk=>by simp[hk]
   .exact (h4 b hb).mono λ k hk=>by simp[hk]
 | [],_::_,_,_,hr,_=>by cases hr
 | _::_,[],_,_,hr,_=>by cases hr
theorem XZ{w:World}:∀ {vs:List TV} {xs:List Value} {fp:List Nat},Nt w vs xs fp->Lu w vs (if h:xs.toArray.size=1 then xs.toArray[0] else .tuple xs.toArray) fp
 | [],[],fp,h=>⟨[],by simp,h⟩
 | [v],[x],fp,h=>by
  obtain⟨f1,f2,rfl,h1,h2⟩:=h;have h2:f2=[]:=h2;subst h2;simpa [Lu] using h1
 | v::u::r,x::y::z,fp,h=>⟨x::y::z,by simp,h⟩
 | [],_::_,_,h=>h.elim
 | _::_,[],_,h=>h.elim
 | [_],_::_::_,_,h=>by obtain⟨_,_,_,_,h⟩:=h;exact h.elim
 | _::_::_,[_],_,h=>by obtain⟨_,_,_,_,h⟩:=h;exact h.elim
theorem oq:∀ {us:List TV} {id:Nat} {p:Nat×aG},p∈cw id us->id<=p.1/\p.1<id+us.length
 | [],id,p,h=>by cases h
 | u::us,id,p,h=>by
  rcases b0Q.1 h with h|h
  .have:=So h;simp only[b0Z];omega
  .have:=oq h;simp only[b0Z];omega
theorem vi:∀ {us:List TV} {id:Nat},((cw id us).map (·.1)).Nodup
 | [],id=>b2c
 | u::us,id=>by
  simp only[cw,b2G];refine fK ?_ vi λ x hx DY=>?_
  .obtain⟨τ,y⟩:=u;cases τ<;>simp[iW]
  .obtain⟨p,hp,rfl⟩:=b0S.1 hx;obtain⟨q,hq,e⟩:=b0S.1 DY;have h1:=So hp;have h2:=oq hq;omega
theorem a3l(v:TV):v.cells.length<=100:=by
 obtain⟨τ,y⟩:=v;cases τ with
 | st s =>
  show (s.cells y).length<=100;rw[aY.mK];exact Ty.size_le (.st s)
 | _=>exact Nat.succ_le_of_lt (Nat.zero_lt_of_lt (by decide:0<100))
theorem C7{c:Ctx}{a:Act}{w:World}{S:Nat->Prop}(hR:∀ j,c.R j=none):∀ {Z9:List Arg} {xs:List Value} {fp:List Nat} {p:Nat} {G:Gh} {s:ai},Inv c G s a w->xH P w S Z9 xs fp->fp.Nodup->Fr c G s.ah w fp ->
  (∀ i x,xs[i]?=some x->a.tmps.getD (p+i) undef=x)->p+Z9.length<=s.aE.length->(∀ id o,s.ah id=some o->id<1000000+100 * p)->∃ G',Inv c G' (wu p Z9 s) a w
 | [],xs,fp,p,G,s,h,_,_,_,_,_,_=>⟨G,h⟩
 | b::Z9,[],fp,p,G,s,h,hA,_,_,_,_,_=>hA.elim
 | b::Z9,x::xs,fp,p,G,s,h,hA,dt,hF,hx,hlen,bm=>by
  obtain⟨f1,f2,rfl,hb,hA⟩:=hA;rw[b1k] at dt;obtain⟨n1,n2,n3⟩:=dt;simp only[b0Z] at hlen;have DY:∀ i y,xs[i]?=some y->a.tmps.getD (p+1+i) undef=y:=λ i y hi=>by
   have:=hx (i+1) y (by simpa using hi);rwa [show p+(i+1)=p+1+i by omega] at this
  have other:f1=[]->wu p (b::Z9) s=wu (p+1) Z9 s->∃ G',Inv c G' (wu p (b::Z9) s) a w:=λ hf e=>by
   subst hf;rw[e];exact C7 hR h hA n2 (λ q hq=>hF q (by simp[hq])) DY (by omega) λ id o ho=>by have:=bm id o ho;omega
  cases b with
  | own v =>
   have hO:Dh w v x f1:=hb;obtain⟨G1,Em,l1,i1,e1,t1,fr1⟩:=bH.TD (id:=1000000+100 * p) h hO n1 (λ q hq=>hF q (by simp[hq]))
    (λ q hq=>by
     cases Ig:s.ah q.1 with
     | none=>rfl
     | some o=>have h1:=bm _ o Ig;have h2:=oq hq;omega) vi (λ j _=>hR j)
   have cY:ai.ah { aE:=s.aE.set p (gZ (1000000+100 * p) v),aR:=cw (1000000+100 * p) v.cells++s.aR }=Em:=by
    funext i;rw[l1 i];exact tU _ _ i
   have hI:Inv c G1 { aE:=s.aE.set p (gZ (1000000+100 * p) v),aR:=cw (1000000+100 * p) v.cells++s.aR } a w:=by
    unfold Inv;rw[cY,show ai.sl { aE:=s.aE.set p (gZ (1000000+100 * p) v),aR:=cw (1000000+100 * p) v.cells++s.aR }=oK s.aE.length s.sl (some p) (gZ (1000000+100 * p) v) from vl s.aE p _ _,
     show ({ aE:=s.aE.set p (gZ (1000000+100 * p) v),aR:=cw (1000000+100 * p) v.cells++s.aR }:ai).aE.length=s.aE.length from by simp]
    exact { i1 with
     aE:=λ i=>by
      unfold oK;split
      .rename_i hi;obtain⟨e,_⟩:=hi;simp only[b0L] at e;subst e;rw[show a.tmps.getD p undef=x from hx 0 x rfl];exact t1.jS
      .exact i1.aE i }
   obtain⟨G2,h2⟩:=C7 hR hI hA n2 (by
    rw[cY];exact fr1 f2 (λ q hq=>hF q (by simp[hq])) λ q hq WU=>n3 q WU q hq rfl) DY (by simp;omega) (λ id o ho=>by
     rw[cY,l1 id] at ho;unfold jZ at ho;split at ho
     .rename_i o' dj;have h1:=oq (iS dj);have h2:=a3l v;simp only at h1;omega
     .have:=bm id o ho;omega)
   exact⟨G2,h2⟩
  | val v=>exact other hb.1 rfl
  | ref v=>exact other hb.1 rfl
  | fn v=>exact other hb.1 rfl
  | dO v=>exact other hb.1 rfl
  | box k=>exact other hb.1 rfl
theorem xH.eL{w:World}{S:Nat->Prop}:∀ {Z9:List Arg} {xs:List Value} {fp:List Nat},xH P w S Z9 xs fp->bf (a4f P w S) Z9 xs
 | [],[],_,_=>trivial
 | a::Z9,x::xs,_,h=>by
  obtain⟨f1,f2,_,h1,h2⟩:=h;refine⟨?_,xH.eL h2⟩;cases a with
  | own v=>trivial
  | box k=>exact h1.2.elim
  | _=>exact h1.2
 | [],_::_,_,h=>h.elim
 | _::_,[],_,h=>h.elim
theorem a0M{w:World}{S:Nat->Prop}(hS:yI w S){fn:Func}{args:List Arg}{dm:List Value}{fa:List Nat}(ha:xH P w S args dm fa)(Si:fa=[]\/∀ a∈args,a.M6=true)(dt:fa.Nodup)(Kf:∀ b∈fa,b<w.heap.size/\¬ S b) :
  ∃ G,Inv ⟨P,E,w,λ b=>b∈fa,S,λ _=>none,λ _=>False,λ _=>none⟩ G (fE fn args) { tmps:=dm.toArray++Array.replicate (fn.ntmps - dm.toArray.size) undef,defers:=[] } w:=by
 have h0:=Sx (P:=P) (E:=E) (fn:=fn) hS (X:=λ b=>b∈fa) Kf ha.eL (Si.imp_left λ e b hb=>by rw[e] at hb;cases hb);have hlen:=ha.eL.length;refine C7 (S:=S) (λ _=>rfl) h0 ha dt (λ b hb=>⟨.inr hb,(Kf b hb).2,(Kf b hb).1,λ i o h=>(by cases h),λ j τ xs h=>by cases h⟩) (λ i x hi=>?_) (by simp[aL]<;>omega) (λ id o h=>by cases h);rw[Nat.zero_add,Array.getD_eq_getD_getElem?,Array.getElem?_append_left (by simpa using (List.getElem?_eq_some_iff.1 hi).1)];simp[hi]
theorem WM(hE:bU P E)(lE:P.follows .mixedOrders=true){f:FuncId}{fn:Func}{jQ:Code}(hf:P.funcs[f]?=some fn)(hb:fn.body=some jQ)(Λ:Nat->aM){args:List Arg}{res:List TV}{post:List TV->Prop}(Vd:∀ vs,post vs->vs=res)
  (h:ck E jQ Λ 0 (dN E fn post) (fE fn args)):fH P f args res:=by
 intro w S dm fa hS ha Si rV Kf;refine b4r hf hb ?_;obtain⟨G0,hinv⟩:=a0M (P:=P) (E:=E) (fn:=fn) hS ha Si rV Kf;refine b3T (jD (c:=⟨P,E,w,λ b=>b∈fa,S,λ _=>none,λ _=>False,λ _=>none⟩) hE lE jQ Λ 0 _ _ _ _ w hinv h) ?_;have fin:∀ (e:Exit) (a:Act) (w':World),(e = .normal\/e = .ret)->(∃ G s,Inv ⟨P,E,w,λ b=>b∈fa,S,λ _=>none,λ _=>False,λ _=>none⟩ G s a w'/\dN E fn post e s) ->
   a.defers=[]/\∃ v,(results fn a.tmps).run P w' = .ok v w'/\∃ x fp,Ending.returned v = .returned x/\bV (λ b=>b∈fa) w w'/\Lu w' res x fp/\fp.Nodup/\∀ b∈fp,b∈fa\/(w.heap.size<=b/\b<w'.heap.size):=by
  rintro e a w' he ⟨G,s,hI,hp⟩;have Vb:∃ vs ids,xD E s fn.results.toList fn.resultTypes.toList=some (vs,ids)/\ids.Nodup/\vs=res:=by
   rcases he with rfl|rfl <;>
   .simp only[dN] at hp;split at hp
    .rename_i vs ids CJ;split at hp
     .rename_i hn;exact⟨vs,ids,CJ,dz hn,Vd vs hp⟩
     .exact hp.elim
    .exact hp.elim
  obtain⟨vs,ids,CJ,hn,rfl⟩:=Vb;obtain⟨xs,fp,h1,h2,h3,h4⟩:=FD (P:=P) (E:=E) (c:=⟨P,E,w,λ b=>b∈fa,S,λ _=>none,λ _=>False,λ _=>none⟩) hE rfl rfl hI CJ hn;refine⟨hI.defers,(if h:xs.toArray.size=1 then xs.toArray[0] else .tuple xs.toArray),?_,_,fp,rfl,hI.bd,XZ h2,h3,λ b hb=>?_⟩
  .rw[xB,b2O];simp only[b1u,b4s,h1];rfl
  .obtain⟨id,hi,hq⟩:=h4 b hb;rcases hq with ⟨τ,ys,q1,q2⟩|⟨e',τ,ys,q1,q2⟩
   .obtain⟨p1,_,p3,_⟩:=hI.aW.pl id τ ys b q1 q2;exact p1.elim (λ q => .inr ⟨q,p3⟩) .inl
   .obtain⟨p1,_,p3⟩:=hI.place id _ b q1 q2;exact p1.elim (λ q => .inr ⟨q,p3⟩) .inl
 intro e a w' hq;cases e with
 | normal=>exact fin .normal a w' (.inl rfl) hq
 | ret=>exact fin .ret a w' (.inr rfl) hq
 | exit i=>obtain⟨_,_,_,hp⟩:=hq;exact hp.elim
 | goto l=>obtain⟨_,_,_,hp⟩:=hq;exact hp.elim
 | panic ch=>obtain⟨_,_,_,hp⟩:=hq;exact hp.elim
 | outgrown=>obtain⟨_,_,_,hp⟩:=hq;exact hp.elim
theorem C1.reR{c:Ctx}{G:Gh}{lk:Nat->Option aG}{w:World}{v:AV}{x:Value}(h:C1 c G lk w v x)(R:Nat->Option Value):C1 { c with R:=R } G lk w v x:=by
 cases v<;>exact h
theorem TR.reR{c:Ctx}{G:Gh}{lk:Nat->Option aG}{w:World}{v:AV}{x:Value}(h:TR c G lk w v x)(R:Nat->Option Value):TR { c with R:=R } G lk w v x:=by
 cases v with
 | agg cs =>
  obtain⟨l,h1,h2⟩:=h;exact⟨l,h1,h2.imp λ u y _ hy=>hy.reR R⟩
 | aD i=>exact C1.reR (c:=c) (w:=w) (v := .aD i) h R
 | dH v=>exact C1.reR (c:=c) (w:=w) (lk:=lk) (v := .dH v) h R
 | _=>exact h
def du(fn:Func)(v:TV)(k:Int):ai:={ aE:=gZ 50 v :: .aT ⟨.int .i64,k⟩::List.replicate (fn.ntmps - 2) .any,aR:=cw 50 v.cells }
def fY(fn:Func)(m:FQ)(x:m.τ.den)(k:Int)(e:Exit)(s:ai):Prop :=
 match e with
 | .ret | .normal=>match fn.results.toList with
  | [.tmp t]=>match s.eval (.tmp t),vm s.ah m.τ (gZ 50 ⟨m.τ,x⟩) with
   | .aT ⟨.int .i64,n⟩,some (x',ids)=>match nodupB ids&&ids.all λ id=>cN (s.ah id) with
    | true=>n=(m.g x k).2.2/\x'=(m.g x k).2.1
    | false=>False
   | _,_=>False
  | _=>False
 | _=>False
theorem Oi{c c0:Ctx}{G G0:Gh}{lk lk0:Nat->Option aG}{w w':World}(Vg:∀ j v,cN (lk0 j)=true->(∃ l,G0.η j = .tuple (v::l).toArray)->50<=j->cN (lk j)=true->∃ l,G.η j = .tuple (v::l).toArray) :
  ∀ {us:List TV} {id:Nat} {ts:List Ty} {us':List TV} {ids:List Nat} {l:List Value},50<=id->(∀ u∈us,u.τ.agg=false)->bf (C1 c0 G0 lk0 w) (cz id us) l->wH lk (cz id us) ts=some (us',ids)->bf (C1 c G lk w') (cz id us) l
 | [],id,ts,us',ids,l,_,_,h,_=>by
  match l,h with
  | [],_=>trivial
 | u::us,id,ts,us',ids,l,bm,hu,h,ht=>by
  match l,h,ts,ht with
  | v::l,h,t::ts,ht =>
   simp only[cz,wH] at ht;split at ht;case h_2=>cases ht
   case h_1 x i hx =>
   split at ht;case h_2=>cases ht
   case h_1 r j hr =>
   refine⟨?_,Oi Vg (by omega) (λ u hu'=>hu u (by simp[hu'])) h.2 hr⟩;have h1:=h.1;obtain⟨τ,y⟩:=u;cases τ with
   | slice t' =>
    obtain⟨q1,q2,q3,q4⟩:=h1;have hT:cN (lk id)=true:=by
     simp only[mF,fF] at hx;split at hx
     .rename_i hl;rw[hl];rfl
     .cases hx
    obtain⟨l',so⟩:=Vg id v q1 ⟨q2,q3⟩ bm hT;exact⟨hT,l',so,q4⟩
   | st s=>exact absurd (hu ⟨.st s,y⟩ (by simp)) (by simp[Ty.agg])
   | mv t'=>exact trivial
   | ptr=>exact⟨rfl,h1.2⟩
   | int k=>exact⟨rfl,h1.2⟩
   | bool=>exact⟨rfl,h1.2⟩
   | str=>exact⟨rfl,h1.2⟩
theorem UN(hE:bU P E)(lE:P.follows .mixedOrders=true){f:FuncId}{fn:Func}{jQ:Code}(hf:P.funcs[f]?=some fn)(hb:fn.body=some jQ){m:FQ}(Λ:m.τ.den->Int->Nat->aM)
  (OG:∀ x:m.τ.den,(TV.cells ⟨m.τ,x⟩).length<=50) (hn:2<=fn.ntmps) (h:∀ (x:m.τ.den) (k:Int),(m.g x k).1.ok->U k->ck E jQ (Λ x k) 0 (fY fn m x k) (du fn ⟨m.τ,x⟩ k)):Ns P f m:=by
 intro x k w v fp zS hk hG hO dt bX;refine b4r hf hb ?_;have h0:bH ⟨P,E,w,λ b=>b∈fp,λ b=>b<w.heap.size/\b∉fp,λ _=>none,λ _=>False,λ _=>none⟩ ⟨λ b=>b<w.heap.size/\b∉fp,λ _=>undef,λ _=>[]⟩ (λ _ => .any) (du fn ⟨m.τ,x⟩ k).aE.length (λ _=>none) { tmps := #[v, .int .i64 k]++Array.replicate (fn.ntmps - 2) undef,defers:=[] } w:={
  defers:=rfl
  size:=by simp[du];omega
  bd:=bV.refl _ _
  oB:=⟨bX,λ g hg=>⟨(hG g hg).1,(hG g hg).1.2,(hG g hg).1.1,(hG g hg).2⟩⟩
  gh:=λ b _ _=>b2L
  sX:=λ b h=>h
  eV:=λ b h=>h.1
  aE:=λ _=>trivial
  aR:=λ id o h=>by cases h
  place:=λ id o b h=>by cases h
  apart:=λ id er o o' b h=>by cases h
  aW:=⟨(λ id τ xs h=>by cases h),(λ id τ xs h=>by cases h),(λ id τ xs b h=>by cases h),(λ id er τ bw xs dw b h=>by cases h)⟩
  root:=λ id v h=>by cases h
  mG:=λ id v h=>by cases h
  ep:=λ id v h=>by cases h
  hH:=λ id v h=>by cases h }
 obtain⟨G1,Em,l1,i1,e1,t1,_⟩:=h0.TD (id:=50) hO dt (λ b hb=>⟨.inr hb,λ h=>h.2 hb,bX b hb,λ i o h=>(by cases h),λ j τ xs h=>by cases h⟩) (λ _ _=>rfl) vi (λ _ _=>rfl);have XM:(du fn ⟨m.τ,x⟩ k).ah=Em:=by
  funext i;rw[l1 i];unfold jZ du ai.ah;cases ah (cw 50 (TV.cells ⟨m.τ,x⟩)) i<;>rfl
 let R:Nat->Option Value:=λ id=>match cN (Em id),G1.η id with
  | true, .tuple arr=>arr[0]?
  | _,_=>none
 have hR:∀ id v',R id=some v'->cN (Em id)=true/\∃ l,G1.η id = .tuple (v'::l).toArray:=by
  intro id v' hr;simp only[R] at hr;split at hr
  .rename_i arr ht gH;refine⟨ht,?_⟩;rw[gH];have hl:arr.toList[0]?=some v':=by simpa using hr
   match hq:arr.toList,hl with
   | a0::l,hl =>
    simp at hl;subst hl;exact⟨l,by rw[<-hq]⟩
  .cases hr
 have hinv:Inv ⟨P,E,w,λ b=>b∈fp,λ b=>b<w.heap.size/\b∉fp,R,λ _=>False,λ _=>none⟩ G1 (du fn ⟨m.τ,x⟩ k) { tmps := #[v, .int .i64 k]++Array.replicate (fn.ntmps - 2) undef,defers:=[] } w:=by
  unfold Inv;rw[XM];exact {
   defers:=i1.defers,size:=i1.size,bd:=i1.bd,oB:=i1.oB,gh:=i1.gh,sX:=i1.sX,eV:=i1.eV
   aE:=λ i=>by
    match i with
    | 0 =>
     have e:(#[v,Value.int .i64 k]++Array.replicate (fn.ntmps - 2) undef).getD 0 undef=v:=by
      rw[b1I,b4a (by simp)];rfl
     show VR _ _ _ _ (gZ 50 ⟨m.τ,x⟩) ((#[v,Value.int .i64 k]++Array.replicate (fn.ntmps - 2) undef).getD 0 undef);rw[e];exact (t1.reR R).jS
    | 1 =>
     have e:(#[v,Value.int .i64 k]++Array.replicate (fn.ntmps - 2) undef).getD 1 undef = .int .i64 k:=by
      rw[b1I,b4a (by simp)];rfl
     show VR _ _ _ _ (.aT ⟨.int .i64,k⟩) ((#[v,Value.int .i64 k]++Array.replicate (fn.ntmps - 2) undef).getD 1 undef);rw[e];exact Pt hk
    | i+2 =>
     have:(du fn ⟨m.τ,x⟩ k).sl (i+2) = .any:=by
      simp only[ai.sl,du,List.getD_cons_succ];rw[b1f,List.getElem?_replicate];split<;>rfl
     rw[this];trivial
   aR:=i1.aR,place:=i1.place,apart:=i1.apart
   aW:=⟨i1.aW.tr,i1.aW.nd,i1.aW.pl,i1.aW.ap⟩
   root:=λ id v' hr ht=>(hR id v' hr).2
   ep:=λ id b hr=>by cases hr
   hH:=λ id b hr=>by cases hr
   mG:=λ id v' hr=>by
    obtain⟨ht,_⟩:=hR id v' hr;rw[l1 id] at ht;unfold jZ at ht;split at ht
    .rename_i o ho;have:=oq (iS ho);have:=OG x;simp only at *
     omega
    .cases ht }
 refine b3T (jD (c:=⟨P,E,w,λ b=>b∈fp,λ b=>b<w.heap.size/\b∉fp,R,λ _=>False,λ _=>none⟩) hE lE jQ (Λ x k) 0 _ _ _ _ w hinv (h x k zS hk)) ?_;have fin:∀ (e:Exit) (a:Act) (w':World),(e = .normal\/e = .ret)->(∃ G s,Inv ⟨P,E,w,λ b=>b∈fp,λ b=>b<w.heap.size/\b∉fp,R,λ _=>False,λ _=>none⟩ G s a w'/\fY fn m x k e s) ->
   a.defers=[]/\∃ u,(results fn a.tmps).run P w' = .ok u w'/\Ending.returned u = .returned (.int .i64 (m.g x k).2.2)/\U (m.g x k).2.2/\bV (λ b=>b∈fp) w w'/\∃ yM,Dh w' ⟨m.τ,(m.g x k).2.1⟩ v yM/\yM.Nodup/\∀ b∈yM,b∈fp\/(w.heap.size<=b/\b<w'.heap.size):=by
  rintro e a w' he ⟨G,s,hI,hp⟩;have Vb:∃ t n x' ids,fn.results.toList=[.tmp t]/\s.eval (.tmp t) = .aT ⟨.int .i64,n⟩/\vm s.ah m.τ (gZ 50 ⟨m.τ,x⟩)=some (x',ids)/\ids.Nodup/\(∀ id∈ids,cN (s.ah id)=true)/\n=(m.g x k).2.2/\x'=(m.g x k).2.1:=by
   rcases he with rfl|rfl <;>
   .simp only[fY] at hp;split at hp
    .rename_i t ht;split at hp
     .rename_i n x' ids h1 h2;split at hp
      .rename_i hb;simp only[b0R,b1L] at hb;exact⟨t,n,x',ids,ht,h1,h2,dz hb.1,hb.2,hp⟩
      .exact hp.elim
     .exact hp.elim
    .exact hp.elim
  obtain⟨t,n,x',ids,r1,r2,r3,r4,r5,rfl,rfl⟩:=Vb;have dx:=bI hI (.tmp t);rw[r2] at dx;obtain⟨q1,q2⟩:=Y2 dx;have Vg:∀ j v',cN (Em j)=true->(∃ l,G1.η j = .tuple (v'::l).toArray)->50<=j->cN (s.ah j)=true->∃ l,G.η j = .tuple (v'::l).toArray:=by
   rintro j v' ht ⟨l,hl⟩ _ S2;exact hI.root j v' (by simp only[R,ht,hl];rfl) S2
  have S3:VR ⟨P,E,w,λ b=>b∈fp,λ b=>b<w.heap.size/\b∉fp,R,λ _=>False,λ _=>none⟩ G s.ah w' (gZ 50 ⟨m.τ,x⟩) v:=by
   obtain⟨KJ,g⟩:=m;cases KJ with
   | st st =>
    obtain⟨l,hl,hc⟩:=t1;refine⟨l,hl,?_⟩;simp only[gZ,vm] at r3;split at r3;case h_2=>cases r3
    case h_1 us i hus =>
    exact Oi Vg (b1E _) (Lx st x) hc hus
   | mv t'=>exact trivial
   | slice t' =>
    obtain⟨q1,q2,q3,q4⟩:=t1;have hT:cN (s.ah 50)=true:=by
     simp only[gZ,mF,vm,fF] at r3;split at r3
     .rename_i hl;rw[hl];rfl
     .cases r3
    obtain⟨l',so⟩:=Vg 50 v q1 ⟨q2,q3⟩ (b1E _) hT;exact⟨hT,l',so,q4⟩
   | ptr=>exact t1
   | int k=>exact t1
   | bool=>exact t1
   | str=>exact t1
  obtain⟨yM,o1,o2,o3⟩:=qV hI r3 S3 r4;have XP:(results fn a.tmps).run P w' = .ok (a.tmps.getD t undef) w':=by
   rw[xB,b2O,r1];simp[rG]
  refine⟨hI.defers,_,XP,by rw[show a.tmps.getD t undef=_ from q1],q2,hI.bd,yM,o1,o2,λ b hb=>?_⟩;obtain⟨id,hi,hq⟩:=o3 b hb;rcases hq with ⟨τ,ys,q1,q2⟩|⟨e',τ,ys,q1,q2⟩
  .obtain⟨p1,_,p3,_⟩:=hI.aW.pl id τ ys b q1 q2;exact p1.elim (λ q => .inr ⟨q,p3⟩) .inl
  .have:=r5 id hi;rw[q1] at this;cases this
 intro e a w' hq;cases e with
 | normal=>exact fin .normal a w' (.inl rfl) hq
 | ret=>exact fin .ret a w' (.inr rfl) hq
 | exit i=>obtain⟨_,_,_,hp⟩:=hq;exact hp.elim
 | goto l=>obtain⟨_,_,_,hp⟩:=hq;exact hp.elim
 | panic ch=>obtain⟨_,_,_,hp⟩:=hq;exact hp.elim
 | outgrown=>obtain⟨_,_,_,hp⟩:=hq;exact hp.elim
end
def qy:List CK->List TV->Nat->List AV
 | .d _::ks,v::ds,n => .aT v::qy ks ds n
 | .o _::ks,v::ds,n=>mF n v::qy ks ds (n+1)
 | .p j::ks,ds,n => .ptr (400000+j) 0::qy ks ds n
 | _,_,_=>[]
def qx:Nat->List (List CK)->List (List TV)->Nat->List (Nat×aG)
 | k,ks::sh,ds::cr,n=>(400000+k, .box (qy ks ds n))::qx (k+1) sh cr (n+(eP ks ds).length)
 | _,_,_,_=>[]
def oS:List (List CK)->List (List TV)->List TV
 | ks::sh,ds::cr=>eP ks ds++oS sh cr
 | _,_=>[]
def Yq:Arg->AV
 | .box k => .ptr (400000+k) 0
 | a=>Uf a
def dk(fn:Func)(args:List Arg)(sh:List (List CK))(cr:List (List TV)):ai :=
 { aE:=args.map Yq++List.replicate (fn.ntmps - args.length) .any,aR:=qx 0 sh cr 1000000++cw 1000000 (oS sh cr) }
def idM(n:Nat):List (Nat×Nat):=(List.range n).map λ k=>(k,400000+k)
def mH(E:Env)(fn:Func)(sh:List (List CK))(post:List TV->List (List TV)->Prop)(e:Exit)(s:ai):Prop :=
 match e with
 | .ret | .normal=>match xD E s fn.results.toList fn.resultTypes.toList with
  | some (vs,ids)=>match mQ s.ah sh 0 (idM sh.length) with
   | some (cr,Ij,m)=>match nodupB (ids++Ij)&&Nat.beq m.length sh.length with
    | true=>post vs cr
    | false=>False
   | none=>False
  | none=>False
 | _=>False
theorem a3D:∀ (n:Nat) (k:Nat),ah (idM n) k=if k<n then some (400000+k) else none:=by
 intro n k;have key:∀ (l:List Nat),l.Nodup->ah (l.map λ k=>(k,400000+k)) k=if k∈l then some (400000+k) else none:=by
  intro l;induction l with
  | nil=>intro _;rfl
  | cons j l ih =>
   intro hn;simp only[b1G] at hn;rw[b1J,tV,ih hn.2];by_cases hk:k=j
   .subst hk;simp
   .simp[hk]
 rw[idM,key _ b3J];simp
section
variable {P:Program} {E:Env}
theorem Xl{w:World}{S:Nat->Prop}{B:Nat->Nat}:∀ {sh:List (List CK)} {k:Nat} {cr:List (List TV)} {n:Nat} {fa:List Nat},mR w S B k sh cr fa ->
  ∃ xs,dE w ((oS sh cr).map TV.bc) xs fa/\(∀ u∈oS sh cr,u.τ.agg=false) /\
   ∀ p∈qx k sh cr n,∃ j cs l t,p=(400000+j, .box cs)/\k<=j/\j<k+sh.length/\w.heap[B j]?=some (.cells l.toArray t (0,0))/\l.length=cs.length /\
    ∀ (c:Ctx) (G:Gh) (lk:Nat->Option aG) (N:Nat),(∀ b,S b->G.S b)->(∀ j,j<N->G.η (400000+j) = .pointer (some ⟨B j,0,none⟩)/\jG (lk (400000+j))=true)->(∀ ks∈sh,∀ j,CK.p j∈ks->j<N) ->
     bf (C1 c G lk w) (cz n (oS sh cr)) xs->bf (C1 c G lk w) cs l
 | [],k,[],n,fa,h=>⟨[],⟨rfl,h⟩,by simp[oS],by simp[qx]⟩
 | ks::sh,k,ds::cr,n,fa,h=>by
  obtain⟨l,t,f1,f2,rfl,hw,hB,hbs⟩:=h;obtain⟨xs,q1,q2,q3⟩:=Xl (n:=n+(eP ks ds).length) hbs;obtain⟨o1,o2,o3⟩:=hB.yD;have hlen:∀ (us:List TV) (n:Nat),(cz n us).length=us.length:=λ us=>by
   induction us with
   | nil=>intro n;rfl
   | cons u us ih=>intro n;simp[cz,ih]
  have E9:∀ {ks:List CK} {ds:List TV} {l:List Value} {fp:List Nat} {n:Nat},p9 w S B ks ds l fp->l.length=(qy ks ds n).length:=by
   intro ks;induction ks with
   | nil=>intro ds l fp n h;cases ds<;>cases l<;>first|rfl|cases h
   | cons k0 ks ih =>
    intro ds l fp n h;cases l with
    | nil=>cases k0<;>cases ds<;>cases h
    | cons x l =>
     cases k0 with
     | d τ =>
      cases ds with
      | nil=>cases h
      | cons v ds=>simp[qy,ih h.2 (n:=n)]
     | o τ =>
      cases ds with
      | nil=>cases h
      | cons v ds=>obtain⟨_,_,_,_,h2⟩:=h;simp[qy,ih h2 (n:=n+1)]
     | p j =>
      have h:x = .pointer (some ⟨B j,0,none⟩)/\p9 w S B ks ds l fp:=by cases ds<;>exact h
      simp[qy,ih h.2 (n:=n)]
  have Qz:∀ (c:Ctx) (G:Gh) (lk:Nat->Option aG) (N:Nat),(∀ b,S b->G.S b)->(∀ j,j<N->G.η (400000+j) = .pointer (some ⟨B j,0,none⟩)/\jG (lk (400000+j))=true) ->
    ∀ {ks:List CK} {ds:List TV} {l:List Value} {fp:List Nat} {n:Nat},p9 w S B ks ds l fp->(∀ j,CK.p j∈ks->j<N)->bf (C1 c G lk w) (cz n (eP ks ds)) (p7 ks l)->bf (C1 c G lk w) (qy ks ds n) l:=by
   intro c G lk N hS hN ks;induction ks with
   | nil=>intro ds l fp n h _ _;cases ds<;>cases l<;>first|exact trivial|cases h
   | cons k0 ks ih =>
    intro ds l fp n h hp hc;cases l with
    | nil=>cases k0<;>cases ds<;>cases h
    | cons x l =>
     cases k0 with
     | d τ =>
      cases ds with
      | nil=>cases h
      | cons v ds =>
       obtain⟨⟨e,h1,h2⟩,h3⟩:=h;exact⟨⟨by rw[e];exact h1,Rd.bd hS (λ _ _=>rfl) _ h2⟩,ih h3 (λ j hj=>hp j (by simp[hj])) hc⟩
     | o τ =>
      cases ds with
      | nil=>cases h
      | cons v ds =>
       obtain⟨_,_,_,_,h2⟩:=h;exact⟨hc.1,ih h2 (λ j hj=>hp j (by simp[hj])) hc.2⟩
     | p j =>
      have h:x = .pointer (some ⟨B j,0,none⟩)/\p9 w S B ks ds l fp:=by cases ds<;>exact h
      have hc:bf (C1 c G lk w) (cz n (eP ks ds)) (p7 ks l):=by cases ds<;>exact hc
      obtain⟨g1,g2⟩:=hN j (hp j (by simp));have r:=ih h.2 (λ j hj=>hp j (by simp[hj])) hc;show bf _ (AV.ptr (400000+j) 0::qy ks ds n) (x::l);exact⟨⟨B j,g1,h.1,g2⟩,r⟩
  refine⟨p7 ks l++xs,by rw[oS,b2G];exact o1.append q1,λ u hu=>(b0Q.1 hu).elim (o2 u) (q2 u),λ p hp=>?_⟩;have BK:∀ {c:Ctx} {G':Gh} {lk':Nat->Option aG},bf (C1 c G' lk' w) (cz n (oS (ks::sh) (ds::cr))) (p7 ks l++xs)->bf (C1 c G' lk' w) (cz n (eP ks ds)) (p7 ks l)/\bf (C1 c G' lk' w) (cz (n+(eP ks ds).length) (oS sh cr)) xs:=λ {c G' lk'} q=>by
   rw[oS,wk] at q;have hl:(cz n (eP ks ds)).length=(p7 ks l).length:=by rw[<-o3];exact hlen _ _
   have h1:=q.take (cz n (eP ks ds)).length;have h2:=q.drop (cz n (eP ks ds)).length;rw[b2T,hl,b2T] at h1;rw[b2Z,hl,b2Z] at h2;exact⟨h1,h2⟩
  rcases b1e.1 hp with rfl|hp
  .exact⟨k,qy ks ds n,l,t,rfl,b1E _,by simp,hw,E9 hB,λ c G lk N h1 h2 h3 h4=>Qz c G lk N h1 h2 hB (h3 ks (by simp)) (BK h4).1⟩
  .obtain⟨j,cs,l',t',g1,g2,g3,g4,g5,g6⟩:=q3 p hp;exact⟨j,cs,l',t',g1,by omega,by simp;omega,g4,g5,λ c G lk N h1 h2 h3 h4=>g6 c G lk N h1 h2 (λ ks' hk=>h3 ks' (by simp[hk])) (BK h4).2⟩
 | [],_,_::_,_,_,h=>h.elim
 | _::_,_,[],_,_,h=>h.elim
def Yc(sh:List (List CK)):Bool:=Nat.blt sh.length 1000&&sh.all λ ks=>ks.all λ c=>match c with
 | .p j=>Nat.blt j sh.length
 | _=>true
theorem We{sh:List (List CK)}(h:Yc sh=true):∀ ks∈sh,∀ j,CK.p j∈ks->j<sh.length:=λ ks hk j hj=>by
 unfold Yc at h;rw[Bool.and_eq_true] at h;obtain⟨_,h⟩:=h;rw[List.all_eq_true] at h;have h2:=h ks hk;rw[List.all_eq_true] at h2;exact Nat.le_of_ble_eq_true (h2 _ hj)
theorem p9.congr{w:World}{S:Nat->Prop}{B B':Nat->Nat}{N:Nat}(hB:∀ j,j<N->B j=B' j):∀ {ks:List CK} {ds:List TV} {l:List Value} {fp:List Nat},(∀ j,CK.p j∈ks->j<N)->p9 w S B ks ds l fp->p9 w S B' ks ds l fp:=by
 intro ks;induction ks with
 | nil=>intro ds l fp _ h;cases ds<;>cases l<;>exact h
 | cons k0 ks ih =>
  intro ds l fp hp h;cases l with
  | nil=>cases k0<;>cases ds<;>cases h
  | cons x l =>
   cases k0 with
   | d τ =>
    cases ds with
    | nil=>cases h
    | cons v ds=>exact⟨h.1,ih (λ j hj=>hp j (by simp[hj])) h.2⟩
   | o τ =>
    cases ds with
    | nil=>cases h
    | cons v ds =>
     obtain⟨f1,f2,e,h1,h2⟩:=h;exact⟨f1,f2,e,h1,ih (λ j hj=>hp j (by simp[hj])) h2⟩
   | p j =>
    have h:x = .pointer (some ⟨B j,0,none⟩)/\p9 w S B ks ds l fp:=by cases ds<;>exact h
    have r:=ih (λ j hj=>hp j (by simp[hj])) h.2;have e:x = .pointer (some ⟨B' j,0,none⟩):=by rw[h.1,hB j (hp j (by simp))]
    cases ds<;>exact⟨e,r⟩
theorem mR.congr{w:World}{S:Nat->Prop}{B B':Nat->Nat}{N:Nat}(hB:∀ j,j<N->B j=B' j):∀ {sh:List (List CK)} {k:Nat} {cr:List (List TV)} {fa:List Nat},k+sh.length<=N->(∀ ks∈sh,∀ j,CK.p j∈ks->j<N)->mR w S B k sh cr fa->mR w S B' k sh cr fa
 | [],k,cr,fa,_,_,h=>by cases cr<;>exact h
 | ks::sh,k,[],fa,_,_,h=>h.elim
 | ks::sh,k,ds::cr,fa,hk,hp,h=>by
  obtain⟨l,t,f1,f2,e,h1,h2,h3⟩:=h;simp only[b0Z] at hk;exact⟨l,t,f1,f2,e,by rw[<-hB k (by omega)];exact h1,h2.congr hB (hp ks (by simp)),mR.congr hB (by omega) (λ ks' qp=>hp ks' (by simp[qp])) h3⟩
theorem K5:∀ {sh:List (List CK)} {k:Nat} {cr:List (List TV)} {n:Nat} {j:Nat},sh.length=cr.length->k<=j->j<k+sh.length->∃ cs,ah (qx k sh cr n) (400000+j)=some (.box cs)
 | [],k,cr,n,j,_,h1,h2=>by simp at h2;omega
 | ks::sh,k,[],n,j,hl,_,_=>by simp at hl
 | ks::sh,k,ds::cr,n,j,hl,h1,h2=>by
  rw[qx,tV];by_cases hj:j=k
  .subst hj;exact⟨_,b1q rfl⟩
  .rw[if_neg (by omega)];exact K5 (by simpa using hl) (by omega) (by simp at h2;omega)
theorem mR.len{w:World}{S:Nat->Prop}{B:Nat->Nat}:∀ {sh:List (List CK)} {k:Nat} {cr:List (List TV)} {fa:List Nat},mR w S B k sh cr fa->sh.length=cr.length
 | [],_,[],_,_=>rfl
 | [],_,_::_,_,h=>h.elim
 | _::_,_,[],_,h=>h.elim
 | ks::sh,k,ds::cr,fa,h=>by
  obtain⟨l,t,f1,f2,e,h1,h2,h3⟩:=h;simp[mR.len h3]
theorem Zs{w:World}{S:Nat->Prop}{B:Nat->Nat}{fn:Func}{args:List Arg}{dm:List Value}{sh:List (List CK)}{cr:List (List TV)}{fa:List Nat}(Kj:Yc sh=true)(hS:yI w S)(Z6:mR w S B 0 sh cr fa)(a0c:fa.Nodup)
  (Kf:∀ b∈fa,b<w.heap.size/\¬ S b/\∀ k,k<sh.length->B k≠b) (hB:∀ k,k<sh.length->B k<w.heap.size/\¬ S (B k)) (OK:∀ j k,j<sh.length->k<sh.length->B j=B k->j=k) (ha:bf (Zz w S (BX sh.length B fa) B) args dm)
  (U1:∀ k,Arg.box k∈args->k<sh.length) :
  ∃ G,Inv ⟨P,E,w,BX sh.length B fa,S,λ _=>none,λ _=>False,λ id=>if 400000<=id/\id<400000+sh.length then some (B (id - 400000)) else none⟩ G (dk fn args sh cr) { tmps:=dm.toArray++Array.replicate (fn.ntmps - dm.toArray.size) undef,defers:=[] } w:=by
 have hlen:=ha.length;let c1:Ctx:=⟨P,E,w,λ b=>b∈fa,S,λ _=>none,λ _=>False,λ _=>none⟩;have h0:bH c1 ⟨S,λ _=>undef,λ _=>[]⟩ (λ _ => .any) (dk fn args sh cr).aE.length (λ _=>none) { tmps:=dm.toArray++Array.replicate (fn.ntmps - dm.toArray.size) undef,defers:=[] } w:={
  defers:=rfl
  size:=by simp[dk,hlen]
  bd:=bV.refl _ _
  oB:=⟨λ b h=>(Kf b h).1,λ g hg=>⟨(hS.2 g hg).1,λ q=>(Kf g q).2.1 (hS.2 g hg).1,hS.1 g (hS.2 g hg).1,(hS.2 g hg).2⟩⟩
  gh:=λ b _ _=>b2L
  sX:=λ b hs=>hs
  eV:=hS.1
  aE:=λ i=>trivial
  aR:=λ id o h=>by cases h
  place:=λ id o b h=>by cases h
  apart:=λ id er o o' b h=>by cases h
  aW:=⟨(λ id τ xs h=>by cases h),(λ id τ xs h=>by cases h),(λ id τ xs b h=>by cases h),(λ id er τ bw xs dw b h=>by cases h)⟩
  root:=λ id v h=>by cases h
  mG:=λ id v h=>by cases h
  ep:=λ id v h=>by cases h
  hH:=λ id v h=>by cases h }
 obtain⟨xs,o1,o2,o3⟩:=Xl (n:=1000000) Z6;have b0K:sh.length<1000:=by
  unfold Yc at Kj;rw[Bool.and_eq_true] at Kj;exact Nat.le_of_ble_eq_true Kj.1
 have hFr:Fr c1 ⟨S,λ _=>undef,λ _=>[]⟩ (λ _=>none) w fa:=λ b hb=>⟨.inr hb,(Kf b hb).2.1,(Kf b hb).1,(λ i o h=>by cases h),(λ j τ xs h=>by cases h)⟩;obtain⟨G1,Em,k1,k2,k3,k4,_⟩:=h0.Di (us:=oS sh cr) (cs:=xs) (id:=1000000) o2 o1 a0c hFr (λ p hp=>rfl) vi (λ j _=>rfl);have XM:∀ i o,Em i=some o->1000000<=i/\cN (some o)=true:=λ i o ho=>by
  rw[k1 i] at ho;unfold jZ at ho;split at ho
  .rename_i o' dj;simp only[b0L] at ho;subst ho;refine⟨(oq (iS dj)).1,?_⟩;have:∀ {us:List TV} {id:Nat} {p:Nat×aG},p∈cw id us->cN (some p.2)=true:=by
    intro us;induction us with
    | nil=>intro id p hp;cases hp
    | cons u us ih =>
     intro id p hp;rcases b0Q.1 hp with hp|hp
     .obtain⟨τ,y⟩:=u;cases τ<;>simp[iW] at hp;subst hp;rfl
     .exact ih hp
   exact this (iS dj)
  .cases ho
 have YN:∀ i o,Em i=some o->gi (G1.η i)=none:=λ i o ho=>by
  obtain⟨_,ht⟩:=XM i o ho;match o,ht with
  | .aD τ ys,_ =>
   obtain⟨v,l,_,_,q,_⟩:=k2.aW.tr i τ ys ho;rw[q];rfl
 let G2:Gh:=⟨S,λ i=>if 400000<=i/\i<400000+sh.length then .pointer (some ⟨B (i - 400000),0,none⟩) else G1.η i,G1.φ⟩;have XR:∀ j,j<sh.length->G2.η (400000+j) = .pointer (some ⟨B j,0,none⟩):=λ j hj=>by
  show (if 400000<=400000+j/\400000+j<400000+sh.length then _ else _)=_;rw[b1q (by omega),b3b]
 have XQ:∀ i,1000000<=i->G2.η i=G1.η i:=λ i hi=>b0Y (by omega);have hGS:G1.S=S:=k3.S;have a1A:(dk fn args sh cr).ah=λ i=>match ah (qx 0 sh cr 1000000) i with
   | some o=>some o
   | none=>Em i:=by
  funext i;show ah (qx 0 sh cr 1000000++cw 1000000 (oS sh cr)) i=_;rw[tU];unfold jZ;cases ah (qx 0 sh cr 1000000) i with
  | some o=>rfl
  | none =>
   simp only;rw[k1 i];unfold jZ;cases ah (cw 1000000 (oS sh cr)) i<;>rfl
 have a9s:∀ j,j<sh.length->∃ cs,(dk fn args sh cr).ah (400000+j)=some (.box cs):=λ j hj=>by
  obtain⟨cs,q⟩:=K5 (n:=1000000) Z6.len (Nat.zero_le j) (by simpa using hj);exact⟨cs,by rw[a1A];simp only[q]⟩
 have zN:∀ i o,(dk fn args sh cr).ah i=some o->(∃ j cs l t,i=400000+j/\j<sh.length/\o = .box cs/\w.heap[B j]?=some (.cells l.toArray t (0,0)) /\
   ∀ (c:Ctx) (G:Gh) (lk:Nat->Option aG),(∀ b,S b->G.S b)->(∀ j,j<sh.length->G.η (400000+j) = .pointer (some ⟨B j,0,none⟩)/\jG (lk (400000+j))=true)->bf (C1 c G lk w) (cz 1000000 (oS sh cr)) xs->bf (C1 c G lk w) cs l) \/
   (Em i=some o/\1000000<=i):=λ i o ho=>by
  rw[a1A] at ho;simp only at ho;cases hl:ah (qx 0 sh cr 1000000) i with
  | some o' =>
   rw[hl] at ho;simp only[Option.some.injEq] at ho;subst ho;obtain⟨j,cs,l,t,q1,_,q2,q3,_,q4⟩:=o3 _ (gX hl);simp only[Prod.mk.injEq] at q1;obtain⟨rfl,rfl⟩:=q1;exact .inl ⟨j,cs,l,t,rfl,by simpa using q2,rfl,q3,λ c G lk h1 h2 h3=>q4 c G lk sh.length h1 h2 (We Kj) h3⟩
  | none =>
   rw[hl] at ho;exact .inr ⟨ho,(XM i o ho).1⟩
 have gV:∀ i,gw (Em i) ((dk fn args sh cr).ah i):=λ i=>by
  cases hl:Em i with
  | none=>exact⟨(λ q=>by cases q),(λ e τ xs q=>by cases q),(λ q=>by cases q),λ q=>by cases q⟩
  | some o =>
   have:=(XM i o hl).1;have hn:ah (qx 0 sh cr 1000000) i=none:=xr λ p hp e=>by
    obtain⟨j,cs,l,t,q1,_,q2,_⟩:=o3 p hp;rw[q1] at e;simp only at e;omega
   rw[a1A];simp only[hn,hl];exact gw.refl _
 have OG:bf (C1 ⟨P,E,w,BX sh.length B fa,S,λ _=>none,λ _=>False,λ id=>if 400000<=id/\id<400000+sh.length then some (B (id - 400000)) else none⟩ G2 (dk fn args sh cr).ah w) (cz 1000000 (oS sh cr)) xs:=by
  have:∀ {us:List TV} {n:Nat} {xs:List Value},1000000<=n->bf (C1 c1 G1 Em w) (cz n us) xs->bf (C1 ⟨P,E,w,BX sh.length B fa,S,λ _=>none,λ _=>False,λ id=>if 400000<=id/\id<400000+sh.length then some (B (id - 400000)) else none⟩ G2 (dk fn args sh cr).ah w) (cz n us) xs:=by
   intro us;induction us with
   | nil=>intro n xs _ h;cases xs<;>exact h
   | cons u us ih =>
    intro n xs hn h;cases xs with
    | nil=>exact h.elim
    | cons x xs =>
     refine⟨?_,ih (by omega) h.2⟩;have h1:C1 c1 G1 Em w (mF n u) x:=h.1;obtain⟨τ,y⟩:=u;have aT:C1 c1 G1 Em w (.aT ⟨τ,y⟩) x->C1 ⟨P,E,w,BX sh.length B fa,S,λ _=>none,λ _=>False,λ id=>if 400000<=id/\id<400000+sh.length then some (B (id - 400000)) else none⟩ G2 (dk fn args sh cr).ah w (.aT ⟨τ,y⟩) x:=λ q=>⟨q.1,Rd.bd (λ b hb=>by rw[hGS] at hb;exact hb) (λ _ _=>rfl) _ q.2⟩;cases τ with
     | slice τ =>
      obtain⟨g1,l,g2,g3⟩:=h1;exact⟨(gV n).2.2.1 g1,l,by rw[XQ n hn];exact g2,g3⟩
     | mv τ=>exact trivial
     | _=>exact aT h1
  exact this (b1E _) k4
 have hN:∀ j,j<sh.length->G2.η (400000+j) = .pointer (some ⟨B j,0,none⟩)/\jG ((dk fn args sh cr).ah (400000+j))=true:=λ j hj=>by
  obtain⟨cs,q⟩:=a9s j hj;exact⟨XR j hj,by rw[q];rfl⟩
 have Vi:∀ i τ xs,(dk fn args sh cr).ah i=some (.aD τ xs)->Em i=some (.aD τ xs)/\1000000<=i:=λ i τ ys hi=>by
  rcases zN i _ hi with ⟨_,_,_,_,_,_,q,_⟩|q
  .cases q
  .exact q
 refine⟨G2,?_⟩;exact {
  defers:=rfl
  size:=by simp[dk,hlen]
  bd:=bV.refl _ _
  oB:=⟨λ b hb=>hb.elim (λ q=>(Kf b q).1) λ ⟨k,hk,e⟩=>(by rw[e];exact (hB k hk).1),λ g hg=>⟨(hS.2 g hg).1,λ q=>q.elim (λ q=>(Kf g q).2.1 (hS.2 g hg).1) λ ⟨k,hk,e⟩=>(hB k hk).2 (e ▸ (hS.2 g hg).1),hS.1 g (hS.2 g hg).1,(hS.2 g hg).2⟩⟩
  gh:=λ b _ _=>b2L
  sX:=λ b hs=>hs
  eV:=hS.1
  aE:=λ i=>by
   have Vh:∀ v x,v∈args->Zz w S (BX sh.length B fa) B v x->VR ⟨P,E,w,BX sh.length B fa,S,λ _=>none,λ _=>False,λ id=>if 400000<=id/\id<400000+sh.length then some (B (id - 400000)) else none⟩ G2 (dk fn args sh cr).ah w (Yq v) x:=by
    intro v x hm h;cases v with
    | val v=>exact h
    | ref v =>
     obtain⟨b,o,cs,h1,h2,h3,h4,h5⟩:=h;exact⟨b,o,cs,h1, .inr ⟨h2,h3,λ z=>z⟩,h4,h5⟩
    | fn f=>exact h
    | dO v=>exact h.elim
    | own v=>exact h.elim
    | box k =>
     obtain⟨g1,g2⟩:=hN k (U1 k hm);exact⟨B k,g1,h,g2⟩
   have h1:bf (λ v x=>VR ⟨P,E,w,BX sh.length B fa,S,λ _=>none,λ _=>False,λ id=>if 400000<=id/\id<400000+sh.length then some (B (id - 400000)) else none⟩ G2 (dk fn args sh cr).ah w v x) (args.map Yq) dm:=bf.fX _ (ha.imp λ v x hm h=>Vh v x hm h);have h2:=bf.getD (d:=AV.any) (e:=undef) (show VR ⟨P,E,w,BX sh.length B fa,S,λ _=>none,λ _=>False,λ id=>if 400000<=id/\id<400000+sh.length then some (B (id - 400000)) else none⟩ G2 (dk fn args sh cr).ah w .any undef from trivial) (h1.Bj (a:=AV.any) (b:=undef) (show VR ⟨P,E,w,BX sh.length B fa,S,λ _=>none,λ _=>False,λ id=>if 400000<=id/\id<400000+sh.length then some (B (id - 400000)) else none⟩ G2 (dk fn args sh cr).ah w .any undef from trivial) (fn.ntmps - args.length)) i;have e1:(dk fn args sh cr).sl i=(args.map Yq++List.replicate (fn.ntmps - args.length) AV.any).getD i AV.any:=rfl;have e2:(dm.toArray++Array.replicate (fn.ntmps - dm.toArray.size) undef).getD i undef=(dm++List.replicate (fn.ntmps - args.length) undef).getD i undef:=by
    rw[b1I,b1f,<-b4v];simp[hlen]
   rw[e1];show VR _ _ _ _ _ ((dm.toArray++Array.replicate (fn.ntmps - dm.toArray.size) undef).getD i undef);rw[e2];exact h2
  aR:=λ i o ho=>by
   rcases zN i o ho with ⟨j,cs,l,t,rfl,hj,rfl,q3,q4⟩|⟨q1,q2⟩
   .exact⟨B j,l,t,XR j hj,q3,q4 _ G2 _ (λ b hb=>hb) hN OG⟩
   .have:=(XM i o q1).2;match o,this with
    | .aD τ ys,_=>trivial
  place:=λ i o b ho hb=>by
   rcases zN i o ho with ⟨j,cs,l,t,rfl,hj,rfl,q3,q4⟩|⟨q1,q2⟩
   .rw[XR j hj] at hb;simp only[gi,b0L] at hb;subst hb;exact⟨.inr (.inr ⟨j,hj,rfl⟩),(hB j hj).2,(hB j hj).1⟩
   .rw[XQ i q2,YN i o q1] at hb;cases hb
  apart:=λ i i' o o' b ho dj hb cO=>by
   rcases zN i o ho with ⟨j,cs,l,t,rfl,hj,rfl,q3,q4⟩|⟨q1,q2⟩
   .rcases zN i' o' dj with ⟨j',eJ,l',t',rfl,Ic,rfl,_,_⟩|⟨g1,g2⟩
    .rw[XR j hj] at hb;rw[XR j' Ic] at cO;simp only[gi,b0L] at hb cO;rw[OK j j' hj Ic (hb.trans cO.symm)]
    .rw[XQ i' g2,YN i' o' g1] at cO;cases cO
   .rw[XQ i q2,YN i o q1] at hb;cases hb
  aW:={
   tr:=λ i τ ys hi=>by
    obtain⟨q1,q2⟩:=Vi i τ ys hi;rw[XQ i q2];exact k2.aW.tr i τ ys q1
   nd:=λ i τ ys hi=>k2.aW.nd i τ ys (Vi i τ ys hi).1
   pl:=λ i τ ys b hi hb=>by
    obtain⟨q1,q2⟩:=Vi i τ ys hi;obtain⟨p1,p2,p3,p4⟩:=k2.aW.pl i τ ys b q1 hb;have WN:b∈fa:=p1.elim (λ q=>absurd p3 (Nat.not_lt.2 q)) id;refine⟨.inr (.inl WN),(Kf b WN).2.1,p3,λ i' o' dj e=>?_⟩;rcases zN i' o' dj with ⟨j,cs,l,t,rfl,hj,rfl,_,_⟩|⟨g1,g2⟩
    .rw[XR j hj] at e;simp only[gi,b0L] at e;exact (Kf b WN).2.2 j hj e
    .rw[XQ i' g2,YN i' o' g1] at e;cases e
   ap:=λ i i' τ bw ys ys' b hi rW=>k2.aW.ap i i' τ bw ys ys' b (Vi i τ ys hi).1 (Vi i' bw ys' rW).1 }
  root:=λ id v h=>by cases h
  mG:=λ id v h=>by cases h
  ep:=λ id b hr ht=>by
   simp only at hr;split at hr
   .rename_i hc;simp only[b0L] at hr;show (if 400000<=id/\id<400000+sh.length then _ else _)=_;rw[b1q hc,hr]
   .cases hr
  hH:=λ id b hr=>by
   simp only at hr;split at hr
   .rename_i hc;exact hc.1
   .cases hr }
theorem YG(hE:bU P E)(lE:P.follows .mixedOrders=true){f:FuncId}{fn:Func}{jQ:Code}(hf:P.funcs[f]?=some fn)(hb:fn.body=some jQ)(Λ:Nat->aM){args:List Arg}{sh:List (List CK)}{cr:List (List TV)}{res:List TV}{iB:List (List TV)}{post:List TV->List (List TV)->Prop}
  (Vd:∀ vs ds,post vs ds->vs=res/\ds=iB) (Kj:Yc sh=true) (U1:∀ k,Arg.box k∈args->k<sh.length) (h:ck E jQ Λ 0 (mH E fn sh post) (dk fn args sh cr)):vo P f sh args cr res iB:=by
 intro w S B dm fa hS Z6 a0c Kf hB OK ha;refine b4r hf hb ?_;obtain⟨G0,hinv⟩:=Zs (P:=P) (E:=E) (fn:=fn) Kj hS Z6 a0c Kf hB OK ha U1;generalize hc:(⟨P,E,w,BX sh.length B fa,S,λ _=>none,λ _=>False,λ id=>if 400000<=id/\id<400000+sh.length then some (B (id - 400000)) else none⟩:Ctx)=c at *
 have YR:c.P=P:=by rw[<-hc]
 have hcE:c.E=E:=by rw[<-hc]
 have hcw:c.w0=w:=by rw[<-hc]
 have hcX:c.X=BX sh.length B fa:=by rw[<-hc]
 have hcS:c.S0=S:=by rw[<-hc]
 have hcB:∀ j,j<sh.length->c.RB (400000+j)=some (B j):=λ j hj=>by
  rw[<-hc];show (if 400000<=400000+j/\400000+j<400000+sh.length then _ else _)=_;rw[b1q (by omega),b3b]
 have hE':bU c.P c.E:=by rw[YR,hcE];exact hE
 have c9:=jD (c:=c) hE' (by rw[YR];exact lE) jQ Λ 0 (mH E fn sh post) G0 (dk fn args sh cr) _ w hinv (by rw[hcE];exact h);rw[YR] at c9;refine b3T c9 ?_;have fin:∀ (e:Exit) (a:Act) (w':World),(e = .normal\/e = .ret)->(∃ G s,Inv c G s a w'/\mH E fn sh post e s) ->
   a.defers=[]/\∃ v,(results fn a.tmps).run P w' = .ok v w'/\∃ x S' fp Oe,Ending.returned v = .returned x/\bV (BX sh.length B fa) w w'/\(∀ b,S b->S' b)/\(∀ b,S' b->b<w'.heap.size)/\(∀ b,b<w.heap.size->¬ BX sh.length B fa b->(S' b↔S b)) /\
    Lu w' res x fp/\mR w' S' B 0 sh iB Oe/\(fp++Oe).Nodup/\(∀ b∈fp++Oe,(b∈fa\/(w.heap.size<=b/\b<w'.heap.size))/\¬ S' b/\∀ k,k<sh.length->B k≠b)/\∀ k,k<sh.length->¬ S' (B k):=by
  rintro e a w' he ⟨G,s,hI,hp⟩;have Vb:∃ vs ids ds Ij m,xD E s fn.results.toList fn.resultTypes.toList=some (vs,ids)/\mQ s.ah sh 0 (idM sh.length)=some (ds,Ij,m)/\(ids++Ij).Nodup/\vs=res/\ds=iB:=by
   rcases he with rfl|rfl <;>
   .simp only[mH] at hp;split at hp
    .rename_i vs ids CJ;split at hp
     .rename_i ds Ij m QA;split at hp
      .rename_i hn;rw[b0R] at hn;obtain⟨q1,q2⟩:=Vd _ _ hp;exact⟨vs,ids,ds,Ij,m,CJ,QA,dz hn.1,q1,q2⟩
      .exact hp.elim
     .exact hp.elim
    .exact hp.elim
  obtain⟨vs,ids,ds,Ij,m,CJ,QA,hn,rfl,rfl⟩:=Vb;rw[b1k] at hn;obtain⟨n1,n2,n3⟩:=hn;obtain⟨xs,fp,h1,h2,h3,h4⟩:=FD (P:=P) (E:=E) (c:=c) hE' YR hcE hI CJ n1;obtain⟨x0,YO,Oe,a9j,a8d,a7o⟩:=yd hI QA n2;have a2E:∀ k,k<sh.length->∃ cs,s.ah (400000+k)=some (.box cs)/\G.η (400000+k) = .pointer (some ⟨B k,0,none⟩)/\ah m k=some (400000+k):=λ k hk=>by
   obtain⟨id,cs,q1,q2⟩:=YO k (Nat.zero_le _) (by simpa using hk);have q3:=x0 k (400000+k) (by rw[a3D,if_pos hk]);rw[q3] at q1;simp only[Option.some.injEq] at q1;subst q1;exact⟨cs,q2,hI.ep _ _ (hcB k hk) (by rw[q2];rfl),q3⟩
  have hbo:∀ k,k<sh.length->rk G m k=B k:=λ k hk=>by
   obtain⟨cs,_,q2,q3⟩:=a2E k hk;simp only[rk,q3,q2];rfl
  have a9k:=mR.congr (N:=sh.length) hbo (by omega) (We Kj) (a9j m (qa.refl m));have jF:bV (BX sh.length B fa) w w':=by
   have:=hI.bd;rwa [hcX,hcw] at this
  have gT:∀ ids b,yG G s.ah ids b->(b∈fa\/(w.heap.size<=b/\b<w'.heap.size))/\¬ G.S b/\∀ k,k<sh.length->B k≠b:=λ ids b hb=>by
   obtain⟨id,hi,hq⟩:=hb;have hp:(c.w0.heap.size<=b\/c.X b)/\¬ G.S b/\b<w'.heap.size/\∀ k,k<sh.length->B k≠b:=by
    rcases hq with ⟨τ,ys,q1,q2⟩|⟨e',τ,ys,q1,q2⟩
    .obtain⟨p1,p2,p3,p4⟩:=hI.aW.pl id τ ys b q1 q2;refine⟨p1,p2,p3,λ k hk e=>?_⟩;obtain⟨cs,g1,g2,_⟩:=a2E k hk;exact p4 _ _ g1 (by rw[g2,<-e];rfl)
    .obtain⟨p1,p2,p3⟩:=hI.place id _ b q1 q2;refine⟨p1,p2,p3,λ k hk e=>?_⟩;obtain⟨cs,g1,g2,_⟩:=a2E k hk;have:=hI.apart id _ _ _ b q1 g1 q2 (by rw[g2,<-e];rfl);subst this;rw[q1] at g1;cases g1
   obtain⟨p1,p2,p3,p4⟩:=hp;refine⟨?_,p2,p4⟩;rw[hcw,hcX] at p1;rcases p1 with p1|p1|⟨k,hk,e⟩
   .exact .inr ⟨p1,p3⟩
   .exact .inl p1
   .exact absurd e.symm (p4 k hk)
  refine⟨hI.defers,(if h:xs.toArray.size=1 then xs.toArray[0] else .tuple xs.toArray),?_,_,G.S,fp,Oe,rfl,jF,?_,hI.eV,?_,XZ h2,a9k,?_,?_,?_⟩
  .rw[xB,b2O];simp only[b1u,b4s,h1];rfl
  .intro b hb;exact hI.sX b (by rw[hcS];exact hb)
  .intro b hb hx;have:=hI.gh b (by rw[hcw];exact hb) (by rw[hcX];exact hx);rwa [hcS] at this
  .exact fK h3 a8d λ b hb cO=>hI.mN (h4 b hb) (a7o b cO) λ x hx y hy=>n3 x hx y hy
  .intro b hb;rcases b0Q.1 hb with hb|hb
   .exact gT ids b (h4 b hb)
   .exact gT Ij b (a7o b hb)
  .intro k hk;obtain⟨cs,q1,q2,_⟩:=a2E k hk;exact (hI.place _ _ (B k) q1 (by rw[q2];rfl)).2.1
 intro e a w' hq;cases e with
 | normal=>exact fin .normal a w' (.inl rfl) hq
 | ret=>exact fin .ret a w' (.inr rfl) hq
 | exit i=>obtain⟨_,_,_,hp⟩:=hq;exact hp.elim
 | goto l=>obtain⟨_,_,_,hp⟩:=hq;exact hp.elim
 | panic ch=>obtain⟨_,_,_,hp⟩:=hq;exact hp.elim
 | outgrown=>obtain⟨_,_,_,hp⟩:=hq;exact hp.elim
end
def FG:List (Nat×Ty×Nat×Nat) :=
 [(2,(.int .i64),0,0),
  (3,(.int .i64),0,0),
  (4, .bool,0,0),
  (5,(.int .u8),0,0),
  (9, .str,0,0),
  (12,(.int .u64),0,0),
  (23,(.st .sig),0,0),
  (24,(.slice (.st .claim)),120,124),
  (26,(.st .proof),0,0),
  (27,(.slice (.st .expr)),40,29),
  (29,(.st .expr),0,0),
  (30,(.slice (.int .i64)),8,2),
  (32,(.st .proofStep),0,0),
  (36,(.slice (.st .expr)),40,38),
  (38,(.st .expr),0,0),
  (41,(.st .sig),0,0),
  (42,(.slice (.st .claim)),120,99),
  (44,(.st .proof),0,0),
  (48,(.st .proofStep),0,0),
  (94,(.st .equation),0,0),
  (97,(.slice (.st .proofStep)),88,48),
  (99,(.st .claim),0,0),
  (118,(.slice .bool),1,4),
  (122,(.slice (.st .proofStep)),88,32),
  (124,(.st .claim),0,0),
  (129,(.slice .str),16,9),
  (154,(.slice (.st .proof)),40,44),
  (168,(.slice (.st .equation)),80,94),
  (183,(.st .l01Reader),0,0),
  (187,(.st .reader),0,0),
  (194,(.slice (.int .u8)),1,5),
  (203,(.int .u64),0,0),
  (221,(.int .u64),0,0)]
def TX:List (Nat×Ty) :=
 [(73,(.st .proof)),(75,(.st .expr)),(77,(.st .proofStep)),(96,(.st .claim)),(101,(.st .equation)),(149,(.int .i64)),(181,(.st .l01Reader)),(191,(.st .reader)),(212,(.int .u8))]
def O1:List (Nat×Ty×Ty):=[]
abbrev Nw:Nat:=2
abbrev Yl:Nat:=4
abbrev KK:Nat:=26
abbrev Nx:Nat:=29
abbrev Bh:Nat:=32
abbrev Ym:Nat:=38
abbrev Nv:Nat:=48
abbrev WE:Nat:=99
noncomputable abbrev prog:Program:=Tryz.prog
def JG(c:Nat->List Arg->Option (Vc×List TV))(wr own:List Nat)(oc:Nat->List Arg->Option (Vc×List TV))(mk:Nat->Option FQ)(cl:Nat->Option FO)(ro:List Nat)(tk:Nat->List Bool)(sk:Nat->Option SK)(sc:Nat->List Arg->List (List TV)->Option (Vc×List TV×List (List TV)))(nc:Nat->List Arg->Option (Vc×ZB)):((FG.all λ r=>wK prog (Env.mk FG TX c wr own oc mk cl ro tk sk sc O1 nc) r.1 r.2.1 r.2.2.1 r.2.2.2)&&O1.all λ r=>Vw prog (Env.mk FG TX c wr own oc mk cl ro tk sk sc O1 nc) r.1 r.2.1 r.2.2)=true:=by kernel_rfl
def xA:prog.follows .mixedOrders=true:=Checked.mixed Tryz.checked
def az(f:Func):Code:=match f.body with
 | some c=>c
 | none => .skip
abbrev iV:Nat:=3
noncomputable abbrev eB:Func:=Tryz.f3
def rK:prog.funcs[iV]?=some eB:=Tryz.func3
def yK:eB.body=some (az eB):=by kernel_rfl
abbrev xX:Nat:=8
noncomputable abbrev lO:Func:=Tryz.f8
def Dq:prog.funcs[xX]?=some lO:=Tryz.func8
def LG:lO.body=some (az lO):=by kernel_rfl
abbrev vd:Nat:=9
noncomputable abbrev nt:Func:=Tryz.f9
def sM:prog.funcs[vd]?=some nt:=Tryz.func9
def NW:nt.body=some (az nt):=by kernel_rfl
abbrev sa:Nat:=10
noncomputable abbrev il:Func:=Tryz.f10
def wO:prog.funcs[sa]?=some il:=Tryz.func10
def EV:il.body=some (az il):=by kernel_rfl
abbrev ve:Nat:=11
noncomputable abbrev ju:Func:=Tryz.f11
def zq:prog.funcs[ve]?=some ju:=Tryz.func11
def HK:ju.body=some (az ju):=by kernel_rfl
abbrev pH:Nat:=12
noncomputable abbrev gm:Func:=Tryz.f12
def rb:prog.funcs[pH]?=some gm:=Tryz.func12
def zz:gm.body=some (az gm):=by kernel_rfl
abbrev lj:Nat:=13
noncomputable abbrev gR:Func:=Tryz.f13
def iy:prog.funcs[lj]?=some gR:=Tryz.func13
def Bx:gR.body=some (az gR):=by kernel_rfl
abbrev jR:Nat:=14
noncomputable abbrev dS:Func:=Tryz.f14
def ma:prog.funcs[jR]?=some dS:=Tryz.func14
def uq:dS.body=some (az dS):=by kernel_rfl
abbrev uS:Nat:=15
noncomputable abbrev jn:Func:=Tryz.f15
def zk:prog.funcs[uS]?=some jn:=Tryz.func15
def HD:jn.body=some (az jn):=by kernel_rfl
abbrev uZ:Nat:=16
noncomputable abbrev ns:Func:=Tryz.f16
def sL:prog.funcs[uZ]?=some ns:=Tryz.func16
def NV:ns.body=some (az ns):=by kernel_rfl
abbrev xV:Nat:=17
noncomputable abbrev lL:Func:=Tryz.f17
def Dn:prog.funcs[xV]?=some lL:=Tryz.func17
def LC:lL.body=some (az lL):=by kernel_rfl
abbrev r9:Nat:=18
noncomputable abbrev ik:Func:=Tryz.f18
def wN:prog.funcs[r9]?=some ik:=Tryz.func18
def EU:ik.body=some (az ik):=by kernel_rfl
abbrev Cf:Nat:=19
noncomputable abbrev eN:Func:=Tryz.f19
def zp:prog.funcs[Cf]?=some eN:=Tryz.func19
def HJ:eN.body=some (az eN):=by kernel_rfl
abbrev Et:Nat:=20
noncomputable abbrev ft:Func:=Tryz.f20
def Bq:prog.funcs[Et]?=some ft:=Tryz.func20
def JS:ft.body=some (az ft):=by kernel_rfl
abbrev vE:Nat:=21
noncomputable abbrev dv:Func:=Tryz.f21
def uk:prog.funcs[vE]?=some dv:=Tryz.func21
def Cv:dv.body=some (az dv):=by kernel_rfl
abbrev vY:Nat:=22
noncomputable abbrev ky:Func:=Tryz.f22
def Bp:prog.funcs[vY]?=some ky:=Tryz.func22
def JR:ky.body=some (az ky):=by kernel_rfl
abbrev s9:Nat:=25
noncomputable abbrev lN:Func:=Tryz.f25
def qZ:prog.funcs[s9]?=some lN:=Tryz.func25
def LF:lN.body=some (az lN):=by kernel_rfl
abbrev jI:Nat:=27
noncomputable abbrev gl:Func:=Tryz.f27
def gA:prog.funcs[jI]?=some gl:=Tryz.func27
def zy:gl.body=some (az gl):=by kernel_rfl
abbrev s7:Nat:=29
noncomputable abbrev lK:Func:=Tryz.f29
def qY:prog.funcs[s7]?=some lK:=Tryz.func29
def LB:lK.body=some (az lK):=by kernel_rfl
abbrev va:Nat:=30
noncomputable abbrev eM:Func:=Tryz.f30
def oP:prog.funcs[va]?=some eM:=Tryz.func30
def HI:eM.body=some (az eM):=by kernel_rfl
abbrev vZ:Nat:=36
noncomputable abbrev kz:Func:=Tryz.f36
def Br:prog.funcs[vZ]?=some kz:=Tryz.func36
def JT:kz.body=some (az kz):=by kernel_rfl
abbrev v7:Nat:=37
noncomputable abbrev kB:Func:=Tryz.f37
def Bs:prog.funcs[v7]?=some kB:=Tryz.func37
def JU:kB.body=some (az kB):=by kernel_rfl
abbrev CQ:Nat:=38
noncomputable abbrev pQ:Func:=Tryz.f38
def Hz:prog.funcs[CQ]?=some pQ:=Tryz.func38
def Qj:pQ.body=some (az pQ):=by kernel_rfl
abbrev wD:Nat:=39
noncomputable abbrev pP:Func:=Tryz.f39
def Hy:prog.funcs[wD]?=some pP:=Tryz.func39
def Qi:pP.body=some (az pP):=by kernel_rfl
abbrev x7:Nat:=40
noncomputable abbrev lW:Func:=Tryz.f40
def Du:prog.funcs[x7]?=some lW:=Tryz.func40
def LO:lW.body=some (az lW):=by kernel_rfl
abbrev wC:Nat:=41
noncomputable abbrev pO:Func:=Tryz.f41
def Hx:prog.funcs[wC]?=some pO:=Tryz.func41
def Qh:pO.body=some (az pO):=by kernel_rfl
abbrev wa:Nat:=42
noncomputable abbrev kG:Func:=Tryz.f42
def Bu:prog.funcs[wa]?=some kG:=Tryz.func42
def JX:kG.body=some (az kG):=by kernel_rfl
abbrev CP:Nat:=43
noncomputable abbrev pN:Func:=Tryz.f43
def Hw:prog.funcs[CP]?=some pN:=Tryz.func43
def Qg:pN.body=some (az pN):=by kernel_rfl
abbrev oj:Nat:=44
noncomputable abbrev fu:Func:=Tryz.f44
def qe:prog.funcs[oj]?=some fu:=Tryz.func44
def yl:fu.body=some (az fu):=by kernel_rfl
abbrev om:Nat:=45
noncomputable abbrev fv:Func:=Tryz.f45
def qf:prog.funcs[om]?=some fv:=Tryz.func45
def ym:fv.body=some (az fv):=by kernel_rfl
abbrev tv:Nat:=46
noncomputable abbrev iO:Func:=Tryz.f46
def ye:prog.funcs[tv]?=some iO:=Tryz.func46
def GK:iO.body=some (az iO):=by kernel_rfl
abbrev uT:Nat:=47
noncomputable abbrev jo:Func:=Tryz.f47
def zl:prog.funcs[uT]?=some jo:=Tryz.func47
def HE:jo.body=some (az jo):=by kernel_rfl
abbrev Aq:Nat:=48
noncomputable abbrev nh:Func:=Tryz.f48
def FY:prog.funcs[Aq]?=some nh:=Tryz.func48
def NP:nh.body=some (az nh):=by kernel_rfl
abbrev Au:Nat:=49
noncomputable abbrev nr:Func:=Tryz.f49
def F2:prog.funcs[Au]?=some nr:=Tryz.func49
def NU:nr.body=some (az nr):=by kernel_rfl
abbrev uU:Nat:=50
noncomputable abbrev jq:Func:=Tryz.f50
def zm:prog.funcs[uU]?=some jq:=Tryz.func50
def HF:jq.body=some (az jq):=by kernel_rfl
abbrev CO:Nat:=51
noncomputable abbrev pM:Func:=Tryz.f51
def Hv:prog.funcs[CO]?=some pM:=Tryz.func51
def Qf:pM.body=some (az pM):=by kernel_rfl
abbrev vW:Nat:=52
noncomputable abbrev kv:Func:=Tryz.f52
def Bn:prog.funcs[vW]?=some kv:=Tryz.func52
def JP:kv.body=some (az kv):=by kernel_rfl
abbrev vX:Nat:=53
noncomputable abbrev kx:Func:=Tryz.f53
def Bo:prog.funcs[vX]?=some kx:=Tryz.func53
def JQ:kx.body=some (az kx):=by kernel_rfl
abbrev Av:Nat:=54
noncomputable abbrev ei:Func:=Tryz.f54
def yh:prog.funcs[Av]?=some ei:=Tryz.func54
def GN:ei.body=some (az ei):=by kernel_rfl
abbrev Aw:Nat:=55
noncomputable abbrev ej:Func:=Tryz.f55
def yi:prog.funcs[Aw]?=some ej:=Tryz.func55
def GO:ej.body=some (az ej):=by kernel_rfl
abbrev qm:Nat:=56
noncomputable abbrev jt:Func:=Tryz.f56
def oO:prog.funcs[qm]?=some jt:=Tryz.func56
def HH:jt.body=some (az jt):=by kernel_rfl
abbrev we:Nat:=59
noncomputable abbrev kI:Func:=Tryz.f59
def Bw:prog.funcs[we]?=some kI:=Tryz.func59
def JZ:kI.body=some (az kI):=by kernel_rfl
abbrev xZ:Nat:=62
noncomputable abbrev lU:Func:=Tryz.f62
def Ds:prog.funcs[xZ]?=some lU:=Tryz.func62
def LM:lU.body=some (az lU):=by kernel_rfl
abbrev p6:Nat:=63
noncomputable abbrev fU:Func:=Tryz.f63
def uo:prog.funcs[p6]?=some fU:=Tryz.func63
def Cx:fU.body=some (az fU):=by kernel_rfl
abbrev AB:Nat:=64
noncomputable abbrev UG:Func:=Tryz.f64
def SH:prog.funcs[AB]?=some UG:=Tryz.func64
abbrev tx:Nat:=67
noncomputable abbrev iQ:Func:=Tryz.f67
def yg:prog.funcs[tx]?=some iQ:=Tryz.func67
def GM:iQ.body=some (az iQ):=by kernel_rfl
abbrev Ao:Nat:=69
noncomputable abbrev nf:Func:=Tryz.f69
def FW:prog.funcs[Ao]?=some nf:=Tryz.func69
def NN:nf.body=some (az nf):=by kernel_rfl
abbrev pY:Nat:=70
noncomputable abbrev fS:Func:=Tryz.f70
def uj:prog.funcs[pY]?=some fS:=Tryz.func70
def Cu:fS.body=some (az fS):=by kernel_rfl
abbrev vU:Nat:=71
noncomputable abbrev kr:Func:=Tryz.f71
def Bl:prog.funcs[vU]?=some kr:=Tryz.func71
def JM:kr.body=some (az kr):=by kernel_rfl
abbrev xW:Nat:=83
noncomputable abbrev lM:Func:=Tryz.f83
def Dp:prog.funcs[xW]?=some lM:=Tryz.func83
def LD:lM.body=some (az lM):=by kernel_rfl
abbrev Ay:Nat:=84
noncomputable abbrev nw:Func:=Tryz.f84
def F4:prog.funcs[Ay]?=some nw:=Tryz.func84
def NZ:nw.body=some (az nw):=by kernel_rfl
abbrev wb:Nat:=85
noncomputable abbrev kH:Func:=Tryz.f85
def Bv:prog.funcs[wb]?=some kH:=Tryz.func85
def JY:kH.body=some (az kH):=by kernel_rfl
abbrev tc:Nat:=86
noncomputable abbrev lQ:Func:=Tryz.f86
def re:prog.funcs[tc]?=some lQ:=Tryz.func86
def LI:lQ.body=some (az lQ):=by kernel_rfl
abbrev rD:Nat:=87
noncomputable abbrev kF:Func:=Tryz.f87
def qg:prog.funcs[rD]?=some kF:=Tryz.func87
def JW:kF.body=some (az kF):=by kernel_rfl
abbrev tf:Nat:=88
noncomputable abbrev lT:Func:=Tryz.f88
def ri:prog.funcs[tf]?=some lT:=Tryz.func88
def LL:lT.body=some (az lT):=by kernel_rfl
abbrev pZ:Nat:=89
noncomputable abbrev fT:Func:=Tryz.f89
def um:prog.funcs[pZ]?=some fT:=Tryz.func89
def Cw:fT.body=some (az fT):=by kernel_rfl
abbrev x8:Nat:=90
noncomputable abbrev lX:Func:=Tryz.f90
def Dv:prog.funcs[x8]?=some lX:=Tryz.func90
def LP:lX.body=some (az lX):=by kernel_rfl
abbrev wE:Nat:=91
noncomputable abbrev WL:Func:=Tryz.f91
def Uj:prog.funcs[wE]?=some WL:=Tryz.func91
abbrev td:Nat:=92
noncomputable abbrev lR:Func:=Tryz.f92
def rf:prog.funcs[td]?=some lR:=Tryz.func92
def LJ:lR.body=some (az lR):=by kernel_rfl
abbrev o7:Nat:=93
noncomputable abbrev LZ:Func:=Tryz.f93
def JI:prog.funcs[o7]?=some LZ:=Tryz.func93
abbrev pG:Nat:=94
noncomputable abbrev gj:Func:=Tryz.f94
def ra:prog.funcs[pG]?=some gj:=Tryz.func94
def zx:gj.body=some (az gj):=by kernel_rfl
abbrev vT:Nat:=95
noncomputable abbrev kp:Func:=Tryz.f95
def Bk:prog.funcs[vT]?=some kp:=Tryz.func95
def JK:kp.body=some (az kp):=by kernel_rfl
abbrev Ap:Nat:=96
noncomputable abbrev ng:Func:=Tryz.f96
def FX:prog.funcs[Ap]?=some ng:=Tryz.func96
def NO:ng.body=some (az ng):=by kernel_rfl
abbrev xT:Nat:=97
noncomputable abbrev lI:Func:=Tryz.f97
def Dl:prog.funcs[xT]?=some lI:=Tryz.func97
def Lz:lI.body=some (az lI):=by kernel_rfl
abbrev At:Nat:=98
noncomputable abbrev np:Func:=Tryz.f98
def F1:prog.funcs[At]?=some np:=Tryz.func98
def NT:np.body=some (az np):=by kernel_rfl
abbrev As:Nat:=99
noncomputable abbrev nj:Func:=Tryz.f99
def F0:prog.funcs[As]?=some nj:=Tryz.func99
def NR:nj.body=some (az nj):=by kernel_rfl
abbrev oi:Nat:=100
noncomputable abbrev km:Func:=Tryz.f100
def qb:prog.funcs[oi]?=some km:=Tryz.func100
def JJ:km.body=some (az km):=by kernel_rfl
abbrev mT:Nat:=101
noncomputable abbrev ic:Func:=Tryz.f101
def l8:prog.funcs[mT]?=some ic:=Tryz.func101
def EP:ic.body=some (az ic):=by kernel_rfl
abbrev uW:Nat:=102
noncomputable abbrev jr:Func:=Tryz.f102
def zn:prog.funcs[uW]?=some jr:=Tryz.func102
def HG:jr.body=some (az jr):=by kernel_rfl
abbrev xU:Nat:=103
noncomputable abbrev lJ:Func:=Tryz.f103
def Dm:prog.funcs[xU]?=some lJ:=Tryz.func103
def LA:lJ.body=some (az lJ):=by kernel_rfl
abbrev vb:Nat:=104
noncomputable abbrev dq:Func:=Tryz.f104
def tH:prog.funcs[vb]?=some dq:=Tryz.func104
def AX:dq.body=some (az dq):=by kernel_rfl
abbrev vg:Nat:=107
noncomputable abbrev nA:Func:=Tryz.f107
def sP:prog.funcs[vg]?=some nA:=Tryz.func107
def N3:nA.body=some (az nA):=by kernel_rfl
abbrev jh:Nat:=108
noncomputable abbrev gF:Func:=Tryz.f108
def lA:prog.funcs[jh]?=some gF:=Tryz.func108
def DD:gF.body=some (az gF):=by kernel_rfl
abbrev qQ:Nat:=109
noncomputable abbrev nz:Func:=Tryz.f109
def sO:prog.funcs[qQ]?=some nz:=Tryz.func109
def N2:nz.body=some (az nz):=by kernel_rfl
abbrev qP:Nat:=110
noncomputable abbrev nv:Func:=Tryz.f110
def sN:prog.funcs[qP]?=some nv:=Tryz.func110
def NY:nv.body=some (az nv):=by kernel_rfl
abbrev yT:Nat:=112
noncomputable abbrev rm:Func:=Tryz.f112
def wx:prog.funcs[yT]?=some rm:=Tryz.func112
def SM:rm.body=some (az rm):=by kernel_rfl
abbrev uY:Nat:=113
noncomputable abbrev jV:Func:=Tryz.f113
def wy:prog.funcs[uY]?=some jV:=Tryz.func113
def F7:jV.body=some (az jV):=by kernel_rfl
abbrev uV:Nat:=114
noncomputable abbrev na:Func:=Tryz.f114
def sJ:prog.funcs[uV]?=some na:=Tryz.func114
def NM:na.body=some (az na):=by kernel_rfl
abbrev rB:Nat:=115
noncomputable abbrev kq:Func:=Tryz.f115
def qc:prog.funcs[rB]?=some kq:=Tryz.func115
def JL:kq.body=some (az kq):=by kernel_rfl
abbrev qO:Nat:=118
noncomputable abbrev gE:Func:=Tryz.f118
def vt:prog.funcs[qO]?=some gE:=Tryz.func118
def DC:gE.body=some (az gE):=by kernel_rfl
abbrev Ax:Nat:=119
noncomputable abbrev nu:Func:=Tryz.f119
def F3:prog.funcs[Ax]?=some nu:=Tryz.func119
def NX:nu.body=some (az nu):=by kernel_rfl
abbrev xY:Nat:=120
noncomputable abbrev lP:Func:=Tryz.f120
def Dr:prog.funcs[xY]?=some lP:=Tryz.func120
def LH:lP.body=some (az lP):=by kernel_rfl
abbrev x6:Nat:=121
noncomputable abbrev lV:Func:=Tryz.f121
def Dt:prog.funcs[x6]?=some lV:=Tryz.func121
def LN:lV.body=some (az lV):=by kernel_rfl
abbrev ya:Nat:=122
noncomputable abbrev lY:Func:=Tryz.f122
def Dw:prog.funcs[ya]?=some lY:=Tryz.func122
def LQ:lY.body=some (az lY):=by kernel_rfl
abbrev jg:Nat:=123
noncomputable abbrev dF:Func:=Tryz.f123
def ly:prog.funcs[jg]?=some dF:=Tryz.func123
def tL:dF.body=some (az dF):=by kernel_rfl
abbrev uX:Nat:=124
noncomputable abbrev nm:Func:=Tryz.f124
def sK:prog.funcs[uX]?=some nm:=Tryz.func124
def NS:nm.body=some (az nm):=by kernel_rfl
abbrev An:Nat:=125
noncomputable abbrev mZ:Func:=Tryz.f125
def FU:prog.funcs[An]?=some mZ:=Tryz.func125
def NL:mZ.body=some (az mZ):=by kernel_rfl
abbrev mP:Nat:=126
noncomputable abbrev eC:Func:=Tryz.f126
def rL:prog.funcs[mP]?=some eC:=Tryz.func126
def yL:eC.body=some (az eC):=by kernel_rfl
abbrev rC:Nat:=127
noncomputable abbrev ku:Func:=Tryz.f127
def qd:prog.funcs[rC]?=some ku:=Tryz.func127
def JO:ku.body=some (az ku):=by kernel_rfl
abbrev qN:Nat:=128
noncomputable abbrev gD:Func:=Tryz.f128
def vr:prog.funcs[qN]?=some gD:=Tryz.func128
def DB:gD.body=some (az gD):=by kernel_rfl
abbrev Az:Nat:=131
noncomputable abbrev nx:Func:=Tryz.f131
def F5:prog.funcs[Az]?=some nx:=Tryz.func131
def N0:nx.body=some (az nx):=by kernel_rfl
abbrev te:Nat:=132
noncomputable abbrev lS:Func:=Tryz.f132
def rh:prog.funcs[te]?=some lS:=Tryz.func132
def LK:lS.body=some (az lS):=by kernel_rfl
abbrev AA:Nat:=136
noncomputable abbrev ny:Func:=Tryz.f136
def F6:prog.funcs[AA]?=some ny:=Tryz.func136
def N1:ny.body=some (az ny):=by kernel_rfl
abbrev v8:Nat:=137
noncomputable abbrev kE:Func:=Tryz.f137
def Bt:prog.funcs[v8]?=some kE:=Tryz.func137
def JV:kE.body=some (az kE):=by kernel_rfl
abbrev Ar:Nat:=138
noncomputable abbrev ni:Func:=Tryz.f138
def FZ:prog.funcs[Ar]?=some ni:=Tryz.func138
def NQ:ni.body=some (az ni):=by kernel_rfl
abbrev qL:Nat:=139
noncomputable abbrev gB:Func:=Tryz.f139
def vp:prog.funcs[qL]?=some gB:=Tryz.func139
def Dz:gB.body=some (az gB):=by kernel_rfl
abbrev tw:Nat:=140
noncomputable abbrev iP:Func:=Tryz.f140
def yf:prog.funcs[tw]?=some iP:=Tryz.func140
def GL:iP.body=some (az iP):=by kernel_rfl
abbrev j8:Nat:=143
noncomputable abbrev fw:Func:=Tryz.f143
def jk:prog.funcs[j8]?=some fw:=Tryz.func143
def AY:fw.body=some (az fw):=by kernel_rfl
abbrev IG:Nat:=144
noncomputable abbrev UH:Func:=Tryz.f144
def SI:prog.funcs[IG]?=some UH:=Tryz.func144
abbrev vV:Nat:=145
noncomputable abbrev kt:Func:=Tryz.f145
def Bm:prog.funcs[vV]?=some kt:=Tryz.func145
def JN:kt.body=some (az kt):=by kernel_rfl
abbrev oo:Nat:=146
noncomputable abbrev eW:Func:=Tryz.f146
def mJ:prog.funcs[oo]?=some eW:=Tryz.func146
def zA:eW.body=some (az eW):=by kernel_rfl
abbrev o5:Nat:=147
noncomputable abbrev fC:Func:=Tryz.f147
def tJ:prog.funcs[o5]?=some fC:=Tryz.func147
def A1:fC.body=some (az fC):=by kernel_rfl
abbrev mU:Nat:=149
noncomputable abbrev ig:Func:=Tryz.f149
def l9:prog.funcs[mU]?=some ig:=Tryz.func149
def ES:ig.body=some (az ig):=by kernel_rfl
abbrev IF:Nat:=150
noncomputable abbrev UF:Func:=Tryz.f150
def SG:prog.funcs[IF]?=some UF:=Tryz.func150
abbrev oZ:Nat:=151
noncomputable abbrev fA:Func:=Tryz.f151
def tI:prog.funcs[oZ]?=some fA:=Tryz.func151
def AZ:fA.body=some (az fA):=by kernel_rfl
abbrev o4:Nat:=152
noncomputable abbrev fB:Func:=Tryz.f152
def mW:prog.funcs[o4]?=some fB:=Tryz.func152
def A0:fB.body=some (az fB):=by kernel_rfl
abbrev r8:Nat:=154
noncomputable abbrev ij:Func:=Tryz.f154
def wM:prog.funcs[r8]?=some ij:=Tryz.func154
def ET:ij.body=some (az ij):=by kernel_rfl
abbrev r7:Nat:=155
noncomputable abbrev ie:Func:=Tryz.f155
def qt:prog.funcs[r7]?=some ie:=Tryz.func155
def ER:ie.body=some (az ie):=by kernel_rfl
abbrev vf:Nat:=158
noncomputable abbrev jv:Func:=Tryz.f158
def zr:prog.funcs[vf]?=some jv:=Tryz.func158
def HL:jv.body=some (az jv):=by kernel_rfl
abbrev o6:Nat:=159
noncomputable abbrev fD:Func:=Tryz.f159
def tK:prog.funcs[o6]?=some fD:=Tryz.func159
def A2:fD.body=some (az fD):=by kernel_rfl
abbrev qR:Nat:=164
noncomputable abbrev gG:Func:=Tryz.f164
def vu:prog.funcs[qR]?=some gG:=Tryz.func164
def DE:gG.body=some (az gG):=by kernel_rfl
abbrev Fm:Nat:=165
noncomputable abbrev rn:Func:=Tryz.f165
def KN:prog.funcs[Fm]?=some rn:=Tryz.func165
def SN:rn.body=some (az rn):=by kernel_rfl
abbrev qM:Nat:=166
noncomputable abbrev gC:Func:=Tryz.f166
def vq:prog.funcs[qM]?=some gC:=Tryz.func166
def DA:gC.body=some (az gC):=by kernel_rfl
abbrev gN:Nat:=171
noncomputable abbrev c7:Func:=Tryz.f171
def kP:prog.funcs[gN]?=some c7:=Tryz.func171
def rQ:c7.body=some (az c7):=by kernel_rfl
end Go.Proofs.YtmjfpcajohhbeaaGreatDoor

set_option maxRecDepth 4000
set_option maxHeartbeats 4000000
namespace Go.Proofs.YtmjfpcajohhbeaaGreatDoor
def SA:∀ (xs:List Int) (k:Nat),k<xs.length->xs.take (k+1)=xs.take k++[xs.getD k 0]
 | [],k,h=>by simp at h
 | x::xs,0,h=>by simp
 | x::xs,k+1,h=>by
  have:=SA xs k (by simpa using h);simp at this ⊢;exact this
def QG(x:J)(k:Int):Bool:=decide (0<=k/\k<=(x.M.length:Int) - 1)
def isN(x:J):Bool:=decide (x.au=5)
def fP:J->List Int->Bool
 | _,[]=>true
 | x,k::ks=>QG x k&&fP (x.M.getD k.toNat zE) ks
def dD:J->List Int->J
 | x,[]=>x
 | x,k::ks=>dD (x.M.getD k.toNat zE) ks
def sb:J->List Int->Bool
 | _,[]=>false
 | x,k::ks=>isN x||sb (x.M.getD k.toNat zE) ks
def VJ(k:Int):∀ (ks:List Int) (x:J),fP x (ks++[k])=(fP x ks&&QG (dD x ks) k)/\dD x (ks++[k])=(dD x ks).M.getD k.toNat zE/\sb x (ks++[k])=(sb x ks||isN (dD x ks))
 | [],x=>⟨by simp[fP,dD],rfl,by simp[sb,dD]⟩
 | j::ks,x=>by
  obtain⟨h1,h2,h3⟩:=VJ k ks (x.M.getD j.toNat zE);simp only[b1Z,fP,dD,sb,h1,h2,h3,b3U,Bool.or_assoc,and_self]
def AD(x:J)(ks:List Int)(k:Nat)(h:k<ks.length):fP x (ks.take (k+1))=(fP x (ks.take k)&&QG (dD x (ks.take k)) (ks.getD k 0)) /\
  dD x (ks.take (k+1))=(dD x (ks.take k)).M.getD (ks.getD k 0).toNat zE/\sb x (ks.take (k+1))=(sb x (ks.take k)||isN (dD x (ks.take k))):=by
 rw[SA ks k h];exact VJ _ _ _
def a2N:∀ (ks js:List Int) (x:J),fP x (ks++js)=(fP x ks&&fP (dD x ks) js)
 | [],js,x=>by simp[fP,dD]
 | k::ks,js,x=>by simp only[b1Z,fP,dD,a2N ks js,b3U]
def a2O(x:J)(ks:List Int)(k:Nat)(h:fP x (ks.take k)=false):fP x ks=false:=by
 conv=>lhs;rw[<-b2f k ks]
 rw[a2N,h,b2v]
def Zd(x:J)(ks:List Int)(k:Nat)(h:ks.length<=k):fP x (ks.take k)=fP x ks/\dD x (ks.take k)=dD x ks/\sb x (ks.take k)=sb x ks:=by
 rw[b1v h];exact⟨rfl,rfl,rfl⟩
def IH:J->List Int->J
 | x,[]=>x
 | x,k::ks=>bif QG x k then IH (x.M.getD k.toNat zE) ks else x
def WX:J->List Int->Bool
 | _,[]=>false
 | x,k::ks=>bif QG x k then isN x||WX (x.M.getD k.toNat zE) ks else false
def VK:∀ (ks:List Int) (x:J) (k:Nat),k<=ks.length->fP x (ks.take k)=true->(k<ks.length->QG (dD x (ks.take k)) (ks.getD k 0)=false)->dD x (ks.take k)=IH x ks/\sb x (ks.take k)=WX x ks
 | [],x,k,h,_,_=>by rw[List.take_nil];exact⟨rfl,rfl⟩
 | j::js,x,0,_,_,h=>by
  have h:=h (by simp);rw[b1V] at h ⊢;have h:QG x j=false:=h;simp only[dD,sb,IH,WX];rw[h];exact⟨rfl,rfl⟩
 | j::js,x,k+1,hl,ho,h=>by
  rw[List.take_succ_cons] at ho h ⊢;simp only[fP,Bool.and_eq_true] at ho;simp only[dD,sb,IH,WX];rw[ho.1];have:=VK js _ k (by simpa using hl) ho.2 (λ q=>h (by simpa using q));rw[this.1,this.2];exact⟨rfl,rfl⟩
def VI:∀ (ks:List Int) (x:J),fP x ks=true->IH x ks=dD x ks/\WX x ks=sb x ks
 | [],_,_=>⟨rfl,rfl⟩
 | j::js,x,h=>by
  simp only[fP,b0R] at h;simp only[dD,sb,IH,WX];rw[h.1];have:=VI js _ h.2;rw[this.1,this.2];exact⟨rfl,rfl⟩
open Go.RowKit Go.Proofs
set_option maxRecDepth 100000 in
def a5r(n lo hi:Int)(w:World):Calls prog wC #[.int .i64 n, .int .i64 lo, .int .i64 hi] w λ e w'=>e = .returned (.bool (decide (lo<=n/\n<=hi)))/\w'=w:=by
 go_enter Tryz.func41,Tryz.ntmps41;go_wp2
 .go_ret;refine⟨?_,rfl⟩;simp_all
 .go_ret;refine⟨?_,rfl⟩;simp;omega
def a4g(w:World)(x:J)(ks:List Int)(R:Nat->Nat->Nat->Prop):Prop:=∀ k b o,R k b o->k<=ks.length->w.cell? ⟨b,o,none⟩=some (.int .i64 (dD x (ks.take k)).au) /\
 ∃ a cap,w.cell? ⟨b,o+2,none⟩=some (.slice a (dD x (ks.take k)).M.length cap)/\(dD x (ks.take k)).M.length<=140737488355328/\∀ j:Nat,k<ks.length->ks.getD k 0=(j:Int)->j<(dD x (ks.take k)).M.length->∃ bk q,a=some ⟨bk,q,none⟩/\R (k+1) bk (q+j * 3)
def a7H(w0:World)(x:J)(ks:List Int)(R:Nat->Nat->Nat->Prop)(p bl i:Value)(w:World):Prop :=
 (∃ m,w=w0.drewN m)/\∃ (k b o:Nat),i = .int .i64 (k:Int)/\k<=ks.length/\p = .pointer (some ⟨b,o,none⟩)/\bl = .bool (sb x (ks.take k))/\fP x (ks.take k)=true/\R k b o
def a4w(n:Nat):Value->Nat
 | .int _ k=>n - k.toNat
 | _=>0
set_option maxRecDepth 100000 in
def ZK(w:World)(x:J)(ks:List Int)(R:Nat->Nat->Nat->Prop)(b0 o0:Nat)(h0:R 0 b0 o0)(hR:a4g w x ks R)(v:Value)(S:Nat->Prop)(hv:Rd w S (.slice 1 (ks.map (D.int .i64))) [v]) :
  Calls prog wE #[.pointer (some ⟨b0,o0,none⟩),v] w λ e w'=>(∃ m,w'=w.drewN m)/\∃ p bl,e = .returned (.tuple #[p, .bool bl, .bool (fP x ks)]) /\
   ∃ k b o,k<=ks.length/\p = .pointer (some ⟨b,o,none⟩)/\R k b o/\dD x (ks.take k)=IH x ks/\bl=WX x ks/\(fP x ks=true->k=ks.length):=by
 obtain⟨a,cap,hv1,_,K1,hlen,gO⟩:=hv;simp only[b0T,b1b] at hv1;subst hv1;simp only[b1o] at *
 go_enter Tryz.func91,Tryz.ntmps91;go_wp2;go_loopw [0,7,8] (λ p bl i w'=>a7H w x ks R p bl i w') (λ p bl i w'=>a4w ks.length i)
 .exact⟨⟨0,rfl⟩,0,b0,o0,rfl,b2b _,rfl,by rw[b1V];rfl,by rw[b1V];rfl,h0⟩
 obtain⟨⟨nd,hwn⟩,k,b,o,rfl,hk,rfl,rfl,UZ,hL⟩:=hrel;have hw:wr.heap=w.heap:=by rw[hwn];rfl
 have hwd:∀ m,∃ m',wr.drewN m=w.drewN m':=λ m=>⟨nd+m,by rw[hwn,World.drewN_drewN]⟩;have hw0:∃ m,wr=w.drewN m:=⟨nd,hwn⟩;clear hwn;obtain⟨wT,a5,b0F,hc5,hl5,U9⟩:=hR k b o hL hk;have hcc:∀ a,wr.cell? a=w.cell? a:=λ a=>by simp only[World.cell?,hw]
 rw[<-hcc] at wT hc5;clear hcc;by_cases YU:k<ks.length
 .obtain gO|⟨q0,p0,rfl,OF,gO⟩:=gO
  .rw[b3Q] at gO;subst gO;simp at YU
  obtain⟨c0,Qz,hc2,YQ⟩:=gO.at_ (n:=1) _ _ _ (λ d hd=>by obtain⟨y,_,rfl⟩:=b0S.1 hd;rfl) k (.int .i64 (ks.getD k 0)) (by simp[YU]);rw[hc2.1] at YQ;have hck:wr.cell? ⟨q0,p0+k,none⟩=some (.int .i64 (ks.getD k 0)):=by
   have:=YQ 0 _ rfl;rw[<-this];simp only[Nat.mul_one,b2I,World.cell?,hw]
  have pW:=AD x ks k YU;have a7l:=a2O x ks (k+1);generalize hj:ks.getD k 0=j at *
  generalize hnn:(dD x (ks.take k)).M.length=nk at *
  generalize hkk:(dD x (ks.take k)).au=kk at *
  generalize hbl:sb x (ks.take k)=bl at *
  have a9C:isN (dD x (ks.take k))=decide (kk=5):=by unfold isN;rw[hkk]
  have lH:¬ (0<=j/\j<=(nk:Int) - 1)->fP x ks=false/\dD x (ks.take k)=IH x ks/\bl=WX x ks:=λ h=>by
   refine⟨a7l ?_,?_⟩
   .rw[pW.1];simp only[QG,hnn];rw[b1a h,b2E]
   .have:=VK ks x k hk UZ λ _=>by
     rw[hj];simp only[QG,hnn];exact b1a h
    exact⟨this.1,hbl.symm.trans this.2⟩
  have a7x:∀ j':Nat,j=(j':Int)->j'<nk->fP x (ks.take (k+1))=true:=λ j' e h=>by
   rw[pW.1,UZ];simp only[QG,hnn];rw[b1A (by omega)];rfl
  have hB:=pW.2.2;rw[a9C] at hB;clear pW a7l;cases bl;all_goals
   go_wp2
   go_quiet (first|(go_at_call 41;exact Calls.quiet_of_same (a5r _ _ _ _)))
   go_wp2
  .rename_i gT;have hb:=lH (by simp at gT;omega);go_ret3;exact⟨hwd _,_,false,by rw[hb.1];rfl,k,b,o,hk,rfl,hL,hb.2.1,hb.2.2,λ e=>by rw[hb.1] at e;cases e⟩
  .rename_i gT;have U6:0<=j/\j<=(nk:Int) - 1:=by simp at gT;omega
   obtain⟨j,rfl⟩:=b3E U6.1;obtain⟨bk,q,rfl,H8⟩:=U9 j YU rfl (by omega);have a4V:=a7x j rfl (by omega);go_quiet (skip);go_wp2;refine⟨⟨hwd _,k+1,bk,q+j * 3,rfl,by omega,rfl,?_,a4V,H8⟩,?_⟩
   .rw[hB];simp;by_cases h5:kk=5<;>simp[h5]
   .simp only[a4w];omega
  .rename_i gT;have hb:=lH (by simp at gT;omega);go_ret3;exact⟨hwd _,_,true,by rw[hb.1];rfl,k,b,o,hk,rfl,hL,hb.2.1,hb.2.2,λ e=>by rw[hb.1] at e;cases e⟩
  .rename_i gT;have U6:0<=j/\j<=(nk:Int) - 1:=by simp at gT;omega
   obtain⟨j,rfl⟩:=b3E U6.1;obtain⟨bk,q,rfl,H8⟩:=U9 j YU rfl (by omega);have a4V:=a7x j rfl (by omega);go_quiet (skip);go_wp2;refine⟨⟨hwd _,k+1,bk,q+j * 3,rfl,by omega,rfl,?_,a4V,H8⟩,?_⟩
   .rw[hB];rfl
   .simp only[a4w];omega
 .go_wp2;have K2:=Zd x ks k (by omega);have hke:k=ks.length:=by omega
  subst hke;go_ret3;rw[K2.1] at UZ;have hs:=VK ks x ks.length (b1E _) (by rw[K2.1];exact UZ) λ h=>absurd h (b3c _);exact⟨hw0,_,sb x (ks.take ks.length),by rw[UZ];rfl,ks.length,b,o,b1E _,rfl,hL,hs.1,hs.2,λ _=>rfl⟩
def a4a(x:J):x.bc.size=3:=by cases x;rfl
def a8x{w:World}{S T:Nat->Prop}{x:J}{ks:List Int}(hS:∀ b,S b->b<w.heap.size):a4g w x ks λ k b o=>b<w.heap.size/\(S b\/T b)/\∃ cs,cG w b o cs/\Rd w S (dD x (ks.take k)).bc cs:=by
 rintro k b o ⟨hb,_,cs,hc,hr⟩ hk;have Mx:=hr;generalize hz:dD x (ks.take k)=z at *
 cases z with
 | mk kd n M =>
  simp only[J.bc,J.xF] at hr;obtain⟨v0,r0,rfl,a0,v1,r1,rfl,a1,v2,r2,rfl,a2,rfl⟩:=hr;have e0:[v0]=[.int .i64 kd]:=a0.1;obtain⟨a,cap,e2,_,_,hl,gO⟩:=a2;simp only[b0T,b1b] at e0 e2;subst e0 e2;rw[b1o] at hl;refine⟨hc 0 _ rfl,a,cap,by rw[hc 2 _ rfl,b1o],hl,λ j YU hj WT=>?_⟩;obtain gO|⟨bk,q,rfl,cO,gO⟩:=gO
  .rw[b3Q] at gO;subst gO;simp at WT
  have WT:j<M.length:=WT;obtain⟨c0,Qz,hc2,YQ⟩:=gO.at_ (n:=3) _ _ _ (λ d hd=>by obtain⟨y,_,rfl⟩:=b0S.1 hd;exact a4a y) j (M.getD j zE).bc (by simp[WT]);refine⟨bk,q,rfl,hS bk cO, .inl cO,c0,YQ,?_⟩;have cI:=(AD x ks k YU).2.1;rw[cI,hz,hj];exact hc2
def Cg:Nat->List Arg->Option (Vc×ZB):=λ f zs=>match Nat.beq f wE with
 | true=>match zs with
  | [.ref ⟨.st .expr,x⟩, .val ⟨.slice (.int .i64),ks⟩]=>some (.none, .res [(true,⟨.st .expr,IH x ks⟩),(false,⟨.bool,WX x ks⟩),(false,⟨.bool,fP x ks⟩)])
  | _=>none
 | false=>none
def a6k(x:J)(ks:List Int):a0Q prog wE [.ref ⟨.st .expr,x⟩, .val ⟨.slice (.int .i64),ks⟩] (.res [(true,⟨.st .expr,IH x ks⟩),(false,⟨.bool,WX x ks⟩),(false,⟨.bool,fP x ks⟩)]):=by
 intro w S T dm hS hT ha;match dm,ha with
 | [v1,v2],ha =>
  obtain⟨⟨b,o,cs,rfl,hb,hc,r⟩,r2,_⟩:=ha;have r:Rd w S x.bc cs:=r;have r2:Rd w S (.slice 1 (ks.map (D.int .i64))) [v2]:=r2;have hTb:T b:=hT _ (b3f ..) ⟨b,o,none⟩ rfl;refine (ZK w x ks (λ k b o=>b<w.heap.size/\(S b\/T b)/\∃ cs,cG w b o cs/\Rd w S (dD x (ks.take k)).bc cs) b o (by exact⟨hb, .inr hTb,cs,hc,by rw[b1V];exact r⟩) (a8x hS.1) v2 S r2).mono ?_;rintro e w' ⟨⟨m,rfl⟩,p,bl,rfl,k,b',o',hk,rfl,⟨cO,cI,eJ,SU,Mx⟩,hE,rfl,_⟩;refine⟨_,S,rfl,⟨rfl,rfl,rfl,b1E _,λ _ _ _=>rfl⟩,λ _ _=>b2L,hS.1,λ b hb=>(by cases hb),[_,_,_],rfl,⟨b',o',eJ,rfl,cI,SU,?_⟩,rfl,rfl,af⟩;rw[hE] at Mx;exact Rd.bd (w:=w) (w':=w.drewN m) (λ _ h=>h) (λ _ _=>rfl) _ Mx
def VH:∀ f args pre cells,Cg f args=some (pre,cells)->pre.ok->oC prog f/\a0Q prog f args cells:=by
 intro f args pre cells h _;unfold Cg at h;split at h
 .rename_i hf;have hf:=b0P hf;subst hf;split at h
  .simp only[b0L,b0O] at h;obtain⟨rfl,rfl⟩:=h;exact⟨⟨_,Uj,rfl,by decide⟩,a6k _ _⟩
  .cases h
 .cases h
end Go.Proofs.YtmjfpcajohhbeaaGreatDoor

namespace Go.Proofs.YtmjfpcajohhbeaaGreatDoor
abbrev cA{α:Type}[SizeOf α](x:α):Nat:=SizeOf.sizeOf x
def cx{α:Type}[SizeOf α](d:α):∀ (xs:List α) (i:Nat),i<xs.length->cA (xs.getD i d)<cA xs
 | [],i,h=>by simp at h
 | x::xs,0,h=>by simp[cA];omega
 | x::xs,i+1,h=>by
  have:=cx d xs i (by simpa using h);simp[cA] at this ⊢;omega
def dX(e:J):cA e.M<cA e:=by
 cases e;simp[cA];omega
inductive PK where
 | v (τ:Ty)
 | r (τ:Ty)
 | f
 | c (ps:List Ty) (r:Ty)
 | o (τ:Ty)
 | b (k:Nat)
@[reducible] def KT:List PK->Type 1
 | []=>ULift (Vc×List TV)
 | .v τ::l=>τ.den->KT l
 | .r τ::l=>τ.den->KT l
 | .f::l=>FuncId->KT l
 | .c ps r::l=>FN ps r->KT l
 | .o τ::l=>τ.den->KT l
 | .b _::l=>KT l
def dT:(l:List PK)->KT l->List Arg->Option (Vc×List TV)
 | [],x,[]=>some x.down
 | .v τ::l,g, .val a::zs=>match a.Z9 τ with
  | some x=>dT l (g x) zs
  | none=>none
 | .r τ::l,g, .ref a::zs=>match a.Z9 τ with
  | some x=>dT l (g x) zs
  | none=>none
 | .f::l,g, .fn a::zs=>dT l (g a) zs
 | .c ps r::l,g, .dO a::zs=>match a.Z9 ps r with
  | some x=>dT l (g x) zs
  | none=>none
 | .o τ::l,g, .own a::zs=>match a.Z9 τ with
  | some x=>dT l (g x) zs
  | none=>none
 | _,_,_=>none
def ZA(P:Program)(f:FuncId):(l:List PK)->KT l->List Arg->Prop
 | [],x,acc=>x.down.1.ok->bC P f acc (·=x.down.2)
 | .v τ::l,g,acc=>∀ x,ZA P f l (g x) (acc++[.val ⟨τ,x⟩])
 | .r τ::l,g,acc=>∀ x,ZA P f l (g x) (acc++[.ref ⟨τ,x⟩])
 | .f::l,g,acc=>∀ x,ZA P f l (g x) (acc++[.fn x])
 | .c ps r::l,g,acc=>∀ x,ZA P f l (g x) (acc++[.dO ⟨ps,r,x⟩])
 | .o τ::l,g,acc=>∀ x,ZA P f l (g x) (acc++[.own ⟨τ,x⟩])
 | .b _::_,_,_=>True
def wh{P:Program}{f:FuncId}:∀ (l:List PK) (g:KT l) (acc zs:List Arg) (pre:Vc) (res:List TV),ZA P f l g acc->dT l g zs=some (pre,res)->pre.ok->bC P f (acc++zs) (·=res)
 | [],g,acc,zs,pre,res,h,e,hp=>by
  cases zs with
  | nil =>
   simp only[dT,b0L] at e;have h':g.down.1.ok->bC P f acc (·=g.down.2):=h;rw[e] at h';rw[b2h];exact h' hp
  | cons a zs=>simp[dT] at e
 | .v τ::l,g,acc,zs,pre,res,h,e,hp=>by
  cases zs with
  | nil=>simp[dT] at e
  | cons a zs =>
   cases a with
   | val a =>
    rw[dT] at e;split at e
    .rename_i x hx;have:=wh l (g x) (acc++[.val ⟨τ,x⟩]) zs pre res (h x) e hp;rw[TV.bj hx];simpa using this
    .cases e
   | ref a=>simp[dT] at e
   | dO a=>simp[dT] at e
   | own a=>simp[dT] at e
   | fn a=>simp[dT] at e
   | box a=>simp[dT] at e
 | .r τ::l,g,acc,zs,pre,res,h,e,hp=>by
  cases zs with
  | nil=>simp[dT] at e
  | cons a zs =>
   cases a with
   | ref a =>
    rw[dT] at e;split at e
    .rename_i x hx;have:=wh l (g x) (acc++[.ref ⟨τ,x⟩]) zs pre res (h x) e hp;rw[TV.bj hx];simpa using this
    .cases e
   | val a=>simp[dT] at e
   | dO a=>simp[dT] at e
   | own a=>simp[dT] at e
   | fn a=>simp[dT] at e
   | box a=>simp[dT] at e
 | .f::l,g,acc,zs,pre,res,h,e,hp=>by
  cases zs with
  | nil=>simp[dT] at e
  | cons a zs =>
   cases a with
   | fn a =>
    rw[dT] at e;have:=wh l (g a) (acc++[.fn a]) zs pre res (h a) e hp;simpa using this
   | val a=>simp[dT] at e
   | dO a=>simp[dT] at e
   | own a=>simp[dT] at e
   | ref a=>simp[dT] at e
   | box a=>simp[dT] at e
 | .c ps r::l,g,acc,zs,pre,res,h,e,hp=>by
  cases zs with
  | nil=>simp[dT] at e
  | cons a zs =>
   cases a with
   | dO a =>
    rw[dT] at e;split at e
    .rename_i x hx;have:=wh l (g x) (acc++[.dO ⟨ps,r,x⟩]) zs pre res (h x) e hp;rw[FV.bj hx];simpa using this
    .cases e
   | val a=>simp[dT] at e
   | ref a=>simp[dT] at e
   | fn a=>simp[dT] at e
   | own a=>simp[dT] at e
   | box a=>simp[dT] at e
 | .o τ::l,g,acc,zs,pre,res,h,e,hp=>by
  cases zs with
  | nil=>simp[dT] at e
  | cons a zs =>
   cases a with
   | own a =>
    rw[dT] at e;split at e
    .rename_i x hx;have:=wh l (g x) (acc++[.own ⟨τ,x⟩]) zs pre res (h x) e hp;rw[TV.bj hx];simpa using this
    .cases e
   | val a=>simp[dT] at e
   | ref a=>simp[dT] at e
   | fn a=>simp[dT] at e
   | dO a=>simp[dT] at e
   | box a=>simp[dT] at e
 | .b k::l,g,acc,zs,pre,res,h,e,hp=>by
  cases zs<;>simp[dT] at e
structure aQ where
 n:Nat
 l:List PK
 g:KT l
def aQ.Good(c:aQ):Prop:=oC prog c.n/\ZA prog c.n c.l c.g []
def uv:List aQ->Nat->List Arg->Option (Vc×List TV)
 | [],_,_=>none
 | c::r,f,zs=>match Nat.beq c.n f with
  | true=>dT c.l c.g zs
  | false=>uv r f zs
def PK.own:PK->Bool
 | .o _=>true
 | _=>false
def a3e:List aQ->Nat->List Bool
 | [],_=>[]
 | c::r,f=>match Nat.beq c.n f with
  | true=>match c.l.any PK.own with
   | true=>c.l.map PK.own
   | false=>[]
  | false=>a3e r f
def aZ(l:List aQ)(wr:List Nat:=[])(cl:List (Nat×FO):=[])(ro:List Nat:=[]):Env:=Env.mk FG TX (uv l) wr [] (λ _ _=>none) (λ _=>none) (ah cl) ro (λ _=>[]) (λ _=>none) (λ _ _ _=>none) O1 Cg
def aI:List aQ->Prop
 | []=>True
 | c::r=>c.Good/\aI r
def Qr:∀ (l:List aQ),aI l->∀ f args pre res,uv l f args=some (pre,res)->pre.ok->oC prog f/\bC prog f args (·=res)
 | [],_,f,args,pre,res,e,_=>by cases e
 | c::r,h,f,args,pre,res,e,hp=>by
  rw[uv] at e;split at e
  .rename_i hb;have hb:=b0P hb;subst hb;exact⟨h.1.1,wh c.l c.g [] args pre res h.1.2 e hp⟩
  .exact Qr r h.2 f args pre res e hp
def IC{α:Type}:∀ (l:List (Nat×α)) (n:Nat) (v:α),ah l n=some v->(n,v)∈l
 | [],n,v,h=>by cases h
 | (k,u)::r,n,v,h=>by
  rw[ah] at h;split at h
  .rename_i hb;cases h;rw[b0P hb];exact b3f ..
  .exact b2t _ (IC r n v h)
def Qs{l:List aQ}{wr:List Nat}{cl:List (Nat×FO)}{ro:List Nat}(h:aI l):bU prog (aZ l wr cl ro) where
 ty T τ b e ht:=by
  have h1:=b1L.mp (b3t.1 (JG (uv l) wr [] (λ _ _=>none) (λ _=>none) (ah cl) ro (λ _=>[]) (λ _=>none) (λ _ _ _=>none) Cg)).1 _ (IC _ _ _ ht);exact h1
 mty T κ ε ht:=by
  have h1:=b1L.mp (b3t.1 (JG (uv l) wr [] (λ _ _=>none) (λ _=>none) (ah cl) ro (λ _=>[]) (λ _=>none) (λ _ _ _=>none) Cg)).2 _ (IC _ _ _ ht);exact h1
 pty _ _ _:=trivial
 Qq:=Qr l h
 O4 _ _ _ _ h:=by cases h
 mark _ _ h:=by cases h
 VG:=VH
 Ya _ _ _ _ _ _ _ h:=by cases h
def aA {f:FuncId} {fn:Func} (h:prog.funcs[f]?=some fn) (hb:fn.body.isNone=false) (hn:(fn.name == "runtime.NumGoroutine")=false):oC prog f:=⟨fn,h,hb,hn⟩
def tG:∀ {l m:List TV},bB l m->l=m
 | [],[],_=>rfl
 | [v],[u],h=>by rw[pf h]
 | v::v'::vs,[u],h=>by
  have:=tG (l:=v'::vs) (m:=[]) h.2;cases this
 | [v],u::u'::us,h=>by
  have:=tG (l:=[]) (m:=u'::us) h.2;cases this
 | v::v'::vs,u::u'::us,h=>by rw[pf h.1,tG (l:=v'::vs) (m:=u'::us) h.2]
 | [],u::us,h=>by cases h
 | v::vs,[],h=>by
  cases vs<;>cases h
def bC.mono{P:Program}{f:FuncId}{args:List Arg}{p q:List TV->Prop}(h:bC P f args p)(hpq:∀ r,p r->q r):bC P f args q:=by
 intro w S dm hS ha;refine (h w S dm hS ha).mono λ e w'=>?_;rintro⟨x,S',res,h1,h2,h3⟩;exact⟨x,S',res,h1,hpq _ h2,h3⟩
def bg{f:FuncId}{fn:Func}{jQ:Code}{l:List aQ}{wr:List Nat}{cl:List (Nat×FO)}{ro:List Nat}(hl:aI l)(hf:prog.funcs[f]?=some fn)(hb:fn.body=some jQ)(Λ:Nat->aM){args:List Arg}{res:List TV}
  (h:ck (aZ l wr cl ro) jQ Λ 0 (bx (aZ l wr cl ro) fn λ r=>bB r res) (aL fn args)):bC prog f args (·=res) :=
 (XG (Qs hl) xA hf hb Λ h).mono λ _=>tG
def zh(P:Program)(f:FuncId):(l:List PK)->KT l->List Arg->Prop
 | [],x,acc=>x.down.1.ok->fH P f acc x.down.2
 | .v τ::l,g,acc=>∀ x,zh P f l (g x) (acc++[.val ⟨τ,x⟩])
 | .r τ::l,g,acc=>∀ x,zh P f l (g x) (acc++[.ref ⟨τ,x⟩])
 | .f::l,g,acc=>∀ x,zh P f l (g x) (acc++[.fn x])
 | .c ps r::l,g,acc=>∀ x,zh P f l (g x) (acc++[.dO ⟨ps,r,x⟩])
 | .o τ::l,g,acc=>∀ x,zh P f l (g x) (acc++[.own ⟨τ,x⟩])
 | .b _::_,_,_=>True
def uc{P:Program}{f:FuncId}:∀ (l:List PK) (g:KT l) (acc zs:List Arg) (pre:Vc) (res:List TV),zh P f l g acc->dT l g zs=some (pre,res)->pre.ok->fH P f (acc++zs) res
 | [],g,acc,zs,pre,res,h,e,hp=>by
  cases zs with
  | nil =>
   simp only[dT,b0L] at e;have h':g.down.1.ok->fH P f acc g.down.2:=h;rw[e] at h';rw[b2h];exact h' hp
  | cons a zs=>simp[dT] at e
 | .v τ::l,g,acc,zs,pre,res,h,e,hp=>by
  cases zs with
  | nil=>simp[dT] at e
  | cons a zs =>
   cases a with
   | val a =>
    rw[dT] at e;split at e
    .rename_i x hx;have:=uc l (g x) (acc++[.val ⟨τ,x⟩]) zs pre res (h x) e hp;rw[TV.bj hx];simpa using this
    .cases e
   | ref a=>simp[dT] at e
   | dO a=>simp[dT] at e
   | own a=>simp[dT] at e
   | fn a=>simp[dT] at e
   | box a=>simp[dT] at e
 | .r τ::l,g,acc,zs,pre,res,h,e,hp=>by
  cases zs with
  | nil=>simp[dT] at e
  | cons a zs =>
   cases a with
   | ref a =>
    rw[dT] at e;split at e
    .rename_i x hx;have:=uc l (g x) (acc++[.ref ⟨τ,x⟩]) zs pre res (h x) e hp;rw[TV.bj hx];simpa using this
    .cases e
   | val a=>simp[dT] at e
   | dO a=>simp[dT] at e
   | own a=>simp[dT] at e
   | fn a=>simp[dT] at e
   | box a=>simp[dT] at e
 | .f::l,g,acc,zs,pre,res,h,e,hp=>by
  cases zs with
  | nil=>simp[dT] at e
  | cons a zs =>
   cases a with
   | fn a =>
    rw[dT] at e;have:=uc l (g a) (acc++[.fn a]) zs pre res (h a) e hp;simpa using this
   | val a=>simp[dT] at e
   | dO a=>simp[dT] at e
   | own a=>simp[dT] at e
   | ref a=>simp[dT] at e
   | box a=>simp[dT] at e
 | .c ps r::l,g,acc,zs,pre,res,h,e,hp=>by
  cases zs with
  | nil=>simp[dT] at e
  | cons a zs =>
   cases a with
   | dO a =>
    rw[dT] at e;split at e
    .rename_i x hx;have:=uc l (g x) (acc++[.dO ⟨ps,r,x⟩]) zs pre res (h x) e hp;rw[FV.bj hx];simpa using this
    .cases e
   | val a=>simp[dT] at e
   | ref a=>simp[dT] at e
   | fn a=>simp[dT] at e
   | own a=>simp[dT] at e
   | box a=>simp[dT] at e
 | .o τ::l,g,acc,zs,pre,res,h,e,hp=>by
  cases zs with
  | nil=>simp[dT] at e
  | cons a zs =>
   cases a with
   | own a =>
    rw[dT] at e;split at e
    .rename_i x hx;have:=uc l (g x) (acc++[.own ⟨τ,x⟩]) zs pre res (h x) e hp;rw[TV.bj hx];simpa using this
    .cases e
   | val a=>simp[dT] at e
   | ref a=>simp[dT] at e
   | fn a=>simp[dT] at e
   | dO a=>simp[dT] at e
   | box a=>simp[dT] at e
 | .b k::l,g,acc,zs,pre,res,h,e,hp=>by
  cases zs<;>simp[dT] at e
def aQ.df(c:aQ):Prop:=oC prog c.n/\zh prog c.n c.l c.g []
def Dh.ll{w:World}{S:Nat->Prop}{v:TV}{x:Value}{fp:List Nat}(h:Dh w v x fp)(hb:∀ b∈fp,S b):gM w S v x:=by
 obtain⟨τ,y⟩:=v;cases τ with
 | st s =>
  obtain⟨cs,h1,h2⟩:=h;exact⟨cs,h1,h2.rd _ hb⟩
 | _=>exact Ow.rd _ h hb
def Nt.ll{w:World}{S:Nat->Prop}:∀ {vs:List TV} {xs:List Value} {fp:List Nat},Nt w vs xs fp->(∀ b∈fp,S b)->bf (gM w S) vs xs
 | [],[],_,_,_=>trivial
 | v::vs,x::xs,fp,h,hb=>by
  obtain⟨f1,f2,rfl,h1,h2⟩:=h;exact⟨h1.ll λ b cO=>hb b (b2R _ cO),Nt.ll h2 λ b cO=>hb b (List.mem_append_right _ cO)⟩
 | [],_::_,_,h,_=>h.elim
 | _::_,[],_,h,_=>h.elim
def fH.plain{P:Program}{f:FuncId}{args:List Arg}{res:List TV}(h:fH P f args res):bC P f args (·=res):=by
 intro w S dm hS ha;refine (h w S dm [] hS (xH.VS ha) (.inl rfl) b2c (λ b hb=>by cases hb)).mono ?_;rintro e w' ⟨x,fp,rfl,hk,hr,_,tl⟩;have hn:∀ b∈fp,w.heap.size<=b/\b<w'.heap.size:=λ b hb=>(tl b hb).elim (λ q=>by cases q) id;refine⟨x,λ b=>S b\/b∈fp,res,rfl,rfl,⟨hk.os,hk.tape,hk.output,hk.size,λ b hb _=>hk.block b hb λ q=>by cases q⟩,λ b hb=>⟨λ q=>q.elim id λ q=>absurd (hn b q).1 (by omega), .inl⟩,λ b q=>q.elim (λ q=>b1c (hS.1 b q) hk.size) λ q=>(hn b q).2,?_⟩;match res,hr with
 | [v],hr=>exact Dh.ll (v:=v) hr λ b hb => .inr hb
 | [],hr =>
  obtain⟨l,h1,h2⟩:=hr;exact⟨l,h1,h2.ll λ b hb => .inr hb⟩
 | v::u::vs,hr =>
  obtain⟨l,h1,h2⟩:=hr;exact⟨l,h1,h2.ll λ b hb => .inr hb⟩
def zh.plain{P:Program}{f:FuncId}:∀ (l:List PK) (g:KT l) (acc:List Arg),zh P f l g acc->ZA P f l g acc
 | [],_,_,h=>λ hp=>(h hp).plain
 | .v _::l,g,_,h=>λ x=>zh.plain l (g x) _ (h x)
 | .r _::l,g,_,h=>λ x=>zh.plain l (g x) _ (h x)
 | .f::l,g,_,h=>λ x=>zh.plain l (g x) _ (h x)
 | .c _ _::l,g,_,h=>λ x=>zh.plain l (g x) _ (h x)
 | .o _::l,g,_,h=>λ x=>zh.plain l (g x) _ (h x)
 | .b _::_,_,_,_=>trivial
def aQ.df.plain{k:aQ}(h:k.df):k.Good:=⟨h.1,zh.plain k.l k.g [] h.2⟩
def dL:List aQ->Prop
 | []=>True
 | c::r=>c.df/\dL r
def VQ:∀ (l:List aQ),dL l->∀ f args pre res,uv l f args=some (pre,res)->pre.ok->oC prog f/\fH prog f args res
 | [],_,f,args,pre,res,e,_=>by cases e
 | c::r,h,f,args,pre,res,e,hp=>by
  rw[uv] at e;split at e
  .rename_i hb;have hb:=b0P hb;subst hb;exact⟨h.1.1,uc c.l c.g [] args pre res h.1.2 e hp⟩
  .exact VQ r h.2 f args pre res e hp
structure MK where
 n:Nat
 m:FQ
def MK.Good(c:MK):Prop:=oC prog c.n/\Ns prog c.n c.m
def ed:List MK->Prop
 | []=>True
 | c::r=>c.Good/\ed r
def Jy:List MK->Nat->Option FQ
 | [],_=>none
 | c::r,f=>match Nat.beq c.n f with
  | true=>some c.m
  | false=>Jy r f
def Vy:∀ (l:List MK),ed l->∀ f m,Jy l f=some m->oC prog f/\Ns prog f m
 | [],_,f,m,e=>by cases e
 | c::r,h,f,m,e=>by
  rw[Jy] at e;split at e
  .rename_i hb;have hb:=b0P hb;subst hb;cases e;exact h.1
  .exact Vy r h.2 f m e
@[reducible] def KTC:List Ty->Type 1->Type 1
 | [],R=>R
 | t::ts,R=>t.den->KTC ts R
@[reducible] def KTD:List (List Ty)->Type 1
 | []=>ULift (Vc×List TV×List (List TV))
 | ts::D=>KTC ts (KTD D)
@[reducible] def WC:List PK->List (List Ty)->Type 1
 | [],D=>KTD D
 | .v τ::l,D=>τ.den->WC l D
 | .r τ::l,D=>τ.den->WC l D
 | .f::l,D=>FuncId->WC l D
 | .b _::l,D=>WC l D
 | .c _ _::l,D=>WC l D
 | .o _::l,D=>WC l D
def kC:(ts:List Ty)->(R:Type 1)->KTC ts R->List TV->Option R
 | [],_,r,[]=>some r
 | t::ts,R,g,v::vs=>match v.Z9 t with
  | some x=>kC ts R (g x) vs
  | none=>none
 | _,_,_,_=>none
def kD:(D:List (List Ty))->KTD D->List (List TV)->Option (Vc×List TV×List (List TV))
 | [],r,[]=>some r.down
 | ts::D,g,vs::cr=>match kC ts (KTD D) g vs with
  | some h=>kD D h cr
  | none=>none
 | _,_,_=>none
def kS:(l:List PK)->(D:List (List Ty))->WC l D->List Arg->List (List TV)->Option (Vc×List TV×List (List TV))
 | [],D,g,[],cr=>kD D g cr
 | .v τ::l,D,g, .val a::zs,cr=>match a.Z9 τ with
  | some x=>kS l D (g x) zs cr
  | none=>none
 | .r τ::l,D,g, .ref a::zs,cr=>match a.Z9 τ with
  | some x=>kS l D (g x) zs cr
  | none=>none
 | .f::l,D,g, .fn a::zs,cr=>kS l D (g a) zs cr
 | .b k::l,D,g, .box j::zs,cr=>match Nat.beq k j with
  | true=>kS l D g zs cr
  | false=>none
 | _,_,_,_,_=>none
def a4h:(ts:List Ty)->(R:Type 1)->(R->List TV->Prop)->KTC ts R->List TV->Prop
 | [],_,p,r,acc=>p r acc
 | t::ts,R,p,g,acc=>∀ x,a4h ts R p (g x) (acc++[⟨t,x⟩])
def a4i(q:List (List TV)->Vc×List TV×List (List TV)->Prop):(D:List (List Ty))->KTD D->List (List TV)->Prop
 | [],r,acc=>q acc r.down
 | ts::D,g,acc=>a4h ts (KTD D) (λ h vs=>a4i q D h (acc++[vs])) g []
def Xb(P:Program)(f:FuncId)(sh:List (List CK)):(l:List PK)->(D:List (List Ty))->WC l D->List Arg->Prop
 | [],D,g,acc=>a4i (λ cr r=>r.1.ok->vo P f sh acc cr r.2.1 r.2.2) D g []
 | .v τ::l,D,g,acc=>∀ x,Xb P f sh l D (g x) (acc++[.val ⟨τ,x⟩])
 | .r τ::l,D,g,acc=>∀ x,Xb P f sh l D (g x) (acc++[.ref ⟨τ,x⟩])
 | .f::l,D,g,acc=>∀ x,Xb P f sh l D (g x) (acc++[.fn x])
 | .b k::l,D,g,acc=>Xb P f sh l D g (acc++[.box k])
 | .c _ _::_,_,_,_=>True
 | .o _::_,_,_,_=>True
def a5t:∀ (ts:List Ty) (R:Type 1) (p:R->List TV->Prop) (g:KTC ts R) (acc vs:List TV) (r:R),a4h ts R p g acc->kC ts R g vs=some r->p r (acc++vs)
 | [],R,p,g,acc,vs,r,h,e=>by
  cases vs with
  | nil =>
   simp only[kC,b0L] at e;subst e;rw[b2h];exact h
  | cons v vs=>simp[kC] at e
 | t::ts,R,p,g,acc,vs,r,h,e=>by
  cases vs with
  | nil=>simp[kC] at e
  | cons v vs =>
   rw[kC] at e;split at e
   .rename_i x hx;have:=a5t ts R p (g x) (acc++[⟨t,x⟩]) vs r (h x) e;rw[TV.bj hx];simpa using this
   .cases e
def a5u(q:List (List TV)->Vc×List TV×List (List TV)->Prop):∀ (D:List (List Ty)) (g:KTD D) (acc cr:List (List TV)) (r:Vc×List TV×List (List TV)),a4i q D g acc->kD D g cr=some r->q (acc++cr) r
 | [],g,acc,cr,r,h,e=>by
  cases cr with
  | nil =>
   simp only[kD,b0L] at e;subst e;rw[b2h];exact h
  | cons v vs=>simp[kD] at e
 | ts::D,g,acc,cr,r,h,e=>by
  cases cr with
  | nil=>simp[kD] at e
  | cons vs cr =>
   rw[kD] at e;split at e
   .rename_i k hk;have h1:=a5t ts _ _ g [] vs k h hk;have:=a5u q D k (acc++[vs]) cr r (by simpa using h1) e;simpa using this
   .cases e
def Vp{P:Program}{f:FuncId}{sh:List (List CK)}:∀ (l:List PK) (D:List (List Ty)) (g:WC l D) (acc zs:List Arg) (cr:List (List TV)) (pre:Vc) (res:List TV) (iB:List (List TV)),Xb P f sh l D g acc->kS l D g zs cr=some (pre,res,iB)->pre.ok->vo P f sh (acc++zs) cr res iB
 | [],D,g,acc,zs,cr,pre,res,iB,h,e,hp=>by
  cases zs with
  | nil =>
   have:=a5u _ D g [] cr _ h e;simpa using this hp
  | cons z zs=>simp[kS] at e
 | .v τ::l,D,g,acc,zs,cr,pre,res,iB,h,e,hp=>by
  cases zs with
  | nil=>simp[kS] at e
  | cons a zs =>
   cases a with
   | val a =>
    rw[kS] at e;split at e
    .rename_i x hx;have:=Vp l D (g x) (acc++[.val ⟨τ,x⟩]) zs cr pre res iB (h x) e hp;rw[TV.bj hx];simpa using this
    .cases e
   | _=>simp[kS] at e
 | .r τ::l,D,g,acc,zs,cr,pre,res,iB,h,e,hp=>by
  cases zs with
  | nil=>simp[kS] at e
  | cons a zs =>
   cases a with
   | ref a =>
    rw[kS] at e;split at e
    .rename_i x hx;have:=Vp l D (g x) (acc++[.ref ⟨τ,x⟩]) zs cr pre res iB (h x) e hp;rw[TV.bj hx];simpa using this
    .cases e
   | _=>simp[kS] at e
 | .f::l,D,g,acc,zs,cr,pre,res,iB,h,e,hp=>by
  cases zs with
  | nil=>simp[kS] at e
  | cons a zs =>
   cases a with
   | fn a =>
    rw[kS] at e;have:=Vp l D (g a) (acc++[.fn a]) zs cr pre res iB (h a) e hp;simpa using this
   | _=>simp[kS] at e
 | .b k::l,D,g,acc,zs,cr,pre,res,iB,h,e,hp=>by
  cases zs with
  | nil=>simp[kS] at e
  | cons a zs =>
   cases a with
   | box j =>
    rw[kS] at e;split at e
    .rename_i hb;have hb:=Nat.eq_of_beq_eq_true hb;subst hb;have:=Vp l D g (acc++[.box k]) zs cr pre res iB h e hp;simpa using this
    .cases e
   | _=>simp[kS] at e
 | .c _ _::l,D,g,acc,zs,cr,pre,res,iB,h,e,hp=>by cases zs<;>simp[kS] at e
 | .o _::l,D,g,acc,zs,cr,pre,res,iB,h,e,hp=>by cases zs<;>simp[kS] at e
structure jU where
 n:Nat
 sh:List (List CK)
 l:List PK
 D:List (List Ty)
 g:WC l D
def jU.Good(c:jU):Prop:=oC prog c.n/\Xb prog c.n c.sh c.l c.D c.g []
def dP:List jU->Prop
 | []=>True
 | c::r=>c.Good/\dP r
def a5J:List PK->List (Option Nat)
 | []=>[]
 | .b k::l=>some k::a5J l
 | _::l=>none::a5J l
def Yd:List jU->Nat->Option SK
 | [],_=>none
 | c::r,f=>match Nat.beq c.n f with
  | true=>some ⟨a5J c.l,c.sh⟩
  | false=>Yd r f
def JD:List jU->Nat->List Arg->List (List TV)->Option (Vc×List TV×List (List TV))
 | [],_,_,_=>none
 | c::r,f,zs,cr=>match Nat.beq c.n f with
  | true=>kS c.l c.D c.g zs cr
  | false=>JD r f zs cr
def Wb:∀ (l:List jU),dP l->∀ f sk args cr pre res iB,Yd l f=some sk->JD l f args cr=some (pre,res,iB)->pre.ok->oC prog f/\vo prog f sk.sh args cr res iB
 | [],_,f,sk,args,cr,pre,res,iB,h,_,_=>by cases h
 | c::r,h,f,sk,args,cr,pre,res,iB,hs,e,hp=>by
  rw[Yd] at hs;rw[JD] at e;split at e
  .rename_i hb;rw[hb] at hs;have hb:=Nat.eq_of_beq_eq_true hb;subst hb;simp only[Option.some.injEq] at hs;subst hs;exact⟨h.1.1,by simpa using Vp c.l c.D c.g [] args cr pre res iB h.1.2 e hp⟩
  .rename_i hb;rw[hb] at hs;exact Wb r h.2 f sk args cr pre res iB hs e hp
def cg(l:List aQ)(ol:List aQ)(ml:List MK)(own wr:List Nat)(cl:List (Nat×FO):=[])(ro:List Nat:=[])(sl:List jU:=[]):Env:=Env.mk FG TX (uv l) wr own (uv ol) (Jy ml) (ah cl) ro (a3e ol) (Yd sl) (JD sl) O1 Cg
def Od{l ol:List aQ}{ml:List MK}{own wr:List Nat}{cl:List (Nat×FO)}{ro:List Nat}{sl:List jU}(h:aI l)(ho:dL ol)(hm:ed ml)(hs:dP sl):bU prog (cg l ol ml own wr cl ro sl) where
 ty T τ b e ht:=by
  have h1:=b1L.mp (b3t.1 (JG (uv l) wr own (uv ol) (Jy ml) (ah cl) ro (a3e ol) (Yd sl) (JD sl) Cg)).1 _ (IC _ _ _ ht);exact h1
 mty T κ ε ht:=by
  have h1:=b1L.mp (b3t.1 (JG (uv l) wr own (uv ol) (Jy ml) (ah cl) ro (a3e ol) (Yd sl) (JD sl) Cg)).2 _ (IC _ _ _ ht);exact h1
 pty _ _ _:=trivial
 Qq:=Qr l h
 O4:=VQ ol ho
 mark:=Vy ml hm
 VG:=VH
 Ya:=Wb sl hs
def Ss{f:FuncId}{fn:Func}{jQ:Code}{l ol:List aQ}{ml:List MK}{own wr:List Nat}{cl:List (Nat×FO)}{ro:List Nat}{sl:List jU}(hl:aI l)(ho:dL ol)(hm:ed ml)(hs:dP sl)(hf:prog.funcs[f]?=some fn)(hb:fn.body=some jQ)(Λ:Nat->aM){args:List Arg}{res:List TV}
  (h:ck (cg l ol ml own wr cl ro sl) jQ Λ 0 (bx (cg l ol ml own wr cl ro sl) fn λ r=>bB r res) (aL fn args)):bC prog f args (·=res) :=
 (XG (Od hl ho hm hs) xA hf hb Λ h).mono λ _=>tG
def cV{f:FuncId}{fn:Func}{jQ:Code}{l ol:List aQ}{ml:List MK}{own wr:List Nat}{cl:List (Nat×FO)}{ro:List Nat}{sl:List jU}(hl:aI l)(ho:dL ol)(hm:ed ml)(hs:dP sl)(hf:prog.funcs[f]?=some fn)(hb:fn.body=some jQ)(Λ:Nat->aM){args:List Arg}{res:List TV}
  (h:ck (cg l ol ml own wr cl ro sl) jQ Λ 0 (dN (cg l ol ml own wr cl ro sl) fn λ r=>bB r res) (fE fn args)):fH prog f args res :=
 WM (Od hl ho hm hs) xA hf hb Λ (λ _=>tG) h
def oX{f:FuncId}{fn:Func}{jQ:Code}{l ol:List aQ}{ml:List MK}{own wr:List Nat}{cl:List (Nat×FO)}{ro:List Nat}{sl:List jU}(hl:aI l)(ho:dL ol)(hm:ed ml)(hs:dP sl)(hf:prog.funcs[f]?=some fn)(hb:fn.body=some jQ){m:FQ}(Λ:m.τ.den->Int->Nat->aM)(OG:∀ x:m.τ.den,(TV.cells ⟨m.τ,x⟩).length<=50)(hn:2<=fn.ntmps)
  (h:∀ (x:m.τ.den) (k:Int),(m.g x k).1.ok->U k->ck (cg l ol ml own wr cl ro sl) jQ (Λ x k) 0 (fY fn m x k) (du fn ⟨m.τ,x⟩ k)):Ns prog f m :=
 UN (Od hl ho hm hs) xA hf hb Λ OG hn h
def oN:List (List TV)->List (List TV)->Prop
 | [],[]=>True
 | a::r,b::q=>bB a b/\oN r q
 | _,_=>False
def Ue:∀ {a b:List (List TV)},oN a b->a=b
 | [],[],_=>rfl
 | _::_,_::_,h=>by rw[tG h.1,Ue h.2]
 | [],_::_,h=>h.elim
 | _::_,[],h=>h.elim
def Us(args:List Arg)(n:Nat):Bool:=args.all λ a=>match a with
 | .box k=>Nat.blt k n
 | _=>true
def WG{args:List Arg}{n:Nat}(h:Us args n=true):∀ k,Arg.box k∈args->k<n:=λ k hk=>by
 unfold Us at h;rw[List.all_eq_true] at h;exact Nat.le_of_ble_eq_true (h _ hk)
def jL{f:FuncId}{fn:Func}{jQ:Code}{l ol:List aQ}{ml:List MK}{own wr:List Nat}{cl:List (Nat×FO)}{ro:List Nat}{sl:List jU}(hl:aI l)(ho:dL ol)(hm:ed ml)(hs:dP sl)(hf:prog.funcs[f]?=some fn)(hb:fn.body=some jQ)(Λ:Nat->aM){args:List Arg}{sh:List (List CK)}{cr:List (List TV)}{res:List TV}{iB:List (List TV)}
  (Kj:Yc sh=true) (U1:Us args sh.length=true) (h:ck (cg l ol ml own wr cl ro sl) jQ Λ 0 (mH (cg l ol ml own wr cl ro sl) fn sh λ r ds=>bB r res/\oN ds iB) (dk fn args sh cr)):vo prog f sh args cr res iB :=
 YG (Od hl ho hm hs) xA hf hb Λ (λ _ _ q=>⟨tG q.1,Ue q.2⟩) Kj (WG U1) h
open Go.ChangeShapes Go.WideShapes Go.ChangeAt Go.RowKit
theorem eb.append{w:World}{S:Nat->Prop}:∀ (ds es:List D) {l m:List Value},eb w S ds l->eb w S es m->eb w S (ds++es) (l++m)
 | [],_,_,_,h,k=>by rw[show _=[] from h];simpa using k
 | d::ds,es,_,m,h,k=>by
  obtain⟨c,r,rfl,h2,h3⟩:=h;exact⟨c,r++m,by simp,h2,eb.append ds es h3 k⟩
theorem a3N{w:World}{S:Nat->Prop}(t:Ty)(y:t.den){cs:List Value}(h:Rd w S (t.bc y) cs):eb w S ((TV.cells ⟨t,y⟩).map TV.bc) cs:=by
 have one:∀ d:D,d.leaf=true->Rd w S d cs->eb w S [d] cs:=by
  intro d hd h;obtain⟨v,rfl,_⟩:=Rd.xR hd h;exact⟨v,[],rfl,h,rfl⟩
 cases t with
 | st s =>
  have h':Rd w S (s.bc y) cs:=h;rw[aY.cP] at h';exact h'
 | int k=>exact one _ rfl h
 | bool=>exact one _ rfl h
 | str=>exact one _ rfl h
 | slice t=>exact one _ rfl h
 | mv t=>exact one _ (QN _ _ _) h
 | ptr=>exact one _ rfl h
theorem UI{w:World}{S:Nat->Prop}:∀ (ts:List Ty) (cs:List Value),cs.length=(ts.map Ty.size).sum ->
  (∀ i t,ts[i]?=some t->∃ y:t.den,Rd w S (t.bc y) ((cs.drop ((ts.take i).map Ty.size).sum).take t.size)) ->
  ∃ fl:List TV,fl.map TV.τ=ts/\eb w S ((fl.flatMap TV.cells).map TV.bc) cs
 | [],cs,h,_=>⟨[],rfl,by
   have:cs=[]:=by simpa using h
   subst this;exact rfl⟩
 | t::ts,cs,h,k=>by
  obtain⟨y,hy⟩:=k 0 t rfl;simp only[b1V,b2A,List.sum_nil,b2S] at hy;simp only[b1J,List.sum_cons] at h;obtain⟨fl,h1,h2⟩:=UI ts (cs.drop t.size) (by simp;omega) (λ i u hu=>by
   obtain⟨z,hz⟩:=k (i+1) u hu;simp only[b3P,b1J,List.sum_cons] at hz;rw[<-b2u] at hz;exact⟨z,hz⟩)
  refine⟨⟨t,y⟩::fl,by simp[h1],?_⟩;simp only[List.flatMap_cons,b2G];have:=eb.append _ _ (a3N t y hy) h2;rwa [b2f] at this
theorem a2X{w:World}{S:Nat->Prop}(t:Ty)(b:Nat):∀ (n o:Nat),(∀ i,i<n->∃ (x:t.den) (cs:List Value),cs.length=t.size/\Rd w S (t.bc x) cs/\cG w b (o+i * t.size) cs) ->
  ∃ xs:List t.den,xs.length=n/\eH w S (xs.map t.bc) b o
 | 0,o,_=>⟨[],rfl,af⟩
 | n+1,o,h=>by
  obtain⟨x,cs,h1,h2,h3⟩:=h 0 (by omega);obtain⟨xs,h4,h5⟩:=a2X t b n (o+t.size) (λ i hi=>by
   obtain⟨y,c,g1,g2,g3⟩:=h (i+1) (by omega);exact⟨y,c,g1,g2,by rw[show o+t.size+i * t.size=o+(i+1) * t.size by rw[b2a];omega];exact g3⟩)
  refine⟨x::xs,by simp[h4],⟨cs,by rw[Ty.dn];exact h1,h2,by simpa using h3⟩,?_⟩;rw[Ty.dn];exact h5
section
variable {H:Type} {enc:TypeId×Value->H} {w:World} {spare:Nat->Bool} {held:Bool}
theorem Zh(d:DataW H):1<=Rows.uptoBulk d:=by
 cases d with
 | lit l=>cases l<;>simp[Rows.uptoBulk]
 | nil=>simp[Rows.uptoBulk]
 | ptr d=>simp[Rows.uptoBulk]
 | slice elems spare=>simp[Rows.uptoBulk]
 | agg parts=>simp[Rows.uptoBulk]
 | iface t d=>simp[Rows.uptoBulk]
 | map entries=>simp[Rows.uptoBulk]
 | held h=>simp[Rows.uptoBulk]
theorem V4{d:DataW H}{l:List (DataW H)}(h:d∈l):Rows.uptoBulk d<=Rows.uptoBulkAll l:=by
 induction l with
 | nil=>cases h
 | cons x r ih =>
  simp only[Rows.uptoBulkAll];cases b1e.1 h with
  | inl e=>subst e;omega
  | inr e=>have:=ih e;omega
theorem S5(l:List (DataW H)):l.length<=Rows.uptoBulkAll l:=by
 induction l with
 | nil=>simp[Rows.uptoBulkAll]
 | cons x r ih=>have:=Zh x;simp only[Rows.uptoBulkAll,b0Z];omega
theorem tC:bU prog (aZ []):=Qs trivial
theorem EZ{T b e:Nat}{τ:Ty}(h:ah FG T=some (τ,b,e)):prog.cellsOf T=τ.size:=by
 obtain⟨i,z,h1,h2,_⟩:=(tC.info (T:=T) (τ:=τ) (b:=b) (e:=e) h).ex;simp[Program.cellsOf,h1,h2]
theorem a0E:∀ (fuel:Nat) (τ:Ty) (T b e:Nat) (cs:List Value) (x:DataW H×List MemPlace),ah FG T=some (τ,b,e)->DataW.trod enc prog w 0 spare held fuel T cs=some x ->
  Rows.uptoBulk x.1<=1048576->∃ y:τ.den,Rd w (·<w.heap.size) (τ.bc y) cs:=by
 intro fuel;induction fuel with
 | zero =>
  intro τ T b e cs x ht h hk;have h':(none:Option (DataW H×List MemPlace))=some x:=h;cases h'
 | succ fuel ih =>
 intro τ T b e cs x ht h hk;cases τ with
 | int k =>
  obtain⟨n,rfl,rfl,hw⟩:=DataW.trod_int (tC.int ht) h;refine⟨n,rfl,?_⟩;simpa [Lit.wf] using hw
 | bool =>
  obtain⟨n,rfl,rfl⟩:=DataW.trod_bool (tC.bool ht) h;exact⟨n,rfl⟩
 | str =>
  obtain⟨n,rfl,rfl,hw⟩:=DataW.trod_string (tC.str ht) h;refine⟨n.data.toList,n,rfl,rfl,?_⟩;simp[Rows.uptoBulk] at hk;have:n.size=n.data.size:=rfl;omega
 | mv t=>exact (tC.a5F ht).elim
 | ptr =>
  obtain⟨t,hu⟩:=tC.ptr ht;rcases DataW.trod_pointer hu h with ⟨rfl,_⟩|⟨a,_,_,_,_,rfl,_⟩
  .exact⟨(),_,rfl⟩
  .exact⟨(),_,rfl⟩
 | slice t =>
  obtain⟨hu,⟨b',e',he⟩,_⟩:=tC.slice ht;have hc:=EZ he;rcases DataW.trod_slice hu h with ⟨rfl,rfl⟩|⟨a,len,cap,elems,rest,n,hn,rfl,rfl,hb,hl,hm,hlen,hel,_⟩
  .exact⟨[],none,0,rfl,b1E _,b2b _,b2b _, .inl rfl⟩
  .obtain rfl:n=fuel:=by omega
   rw[hc] at hel;have a1w:∀ (i:Nat) (z:DataW H×List MemPlace),elems[i]?=some z->Rows.uptoBulk z.1<=1048576:=by
    intro i z hz;have h1:=V4 (d:=z.1) (l:=elems.map (·.1)) (b0S.2 ⟨z,b2o hz,rfl⟩);simp only[Rows.uptoBulk] at hk;omega
   have Ie:∀ i,i<len->∃ (y:t.den) (c:List Value),c.length=t.size/\Rd w (·<w.heap.size) (t.bc y) c/\(∀ j v,c[j]?=some v->w.cell? ((a.add (i * t.size)).add j)=some v):=by
    intro i hi;have hz:elems[i]?=some (elems[i]'(by omega)):=b1p (by omega);have:=hel i hi;rw[hz,b2g] at this;obtain⟨c,Qz,hc2⟩:=this;obtain⟨y,hy⟩:=ih t e b' e' c _ he hc2 (a1w i _ hz);obtain⟨_,h5,h6⟩:=World.cells?_some Qz;refine⟨y,c,h5,hy,λ j v hj=>?_⟩;rw[h6 j (by rw[<-h5];exact (b1K.1 hj).1),hj]
   have hlb:len<=1048576:=by
    have h1:=S5 (elems.map (·.1));simp only[Rows.uptoBulk,b1o] at hk h1;omega
   rcases Nat.eq_zero_or_pos len with h0|h0
   .subst h0;exact⟨[],some a,cap,rfl,b2b _,hm,b2b _, .inl rfl⟩
   .have hp:=Ty.size_pos t;have YY:a.spot=none:=by
     obtain⟨y,c,g1,g2,g3⟩:=Ie 0 h0;have hj:c[0]?=some (c[0]'(by omega)):=List.getElem?_eq_getElem (by omega);have:=World.cell?_spot (g3 0 _ hj);simpa [Addr.add] using this
    obtain⟨ab,ao,asp⟩:=a;simp only at YY;subst YY;have a7k:∀ i j,((⟨ab,ao,none⟩:Addr).add i).add j=⟨ab,ao+i+j,none⟩:=by
     intro i j;unfold Addr.add;split<;>split<;>simp_all<;>omega
    obtain⟨xs,h1,h2⟩:=a2X (w:=w) (S:=(·<w.heap.size)) t ab len ao (λ i hi=>by
     obtain⟨y,c,g1,g2,g3⟩:=Ie i hi;exact⟨y,c,g1,g2,λ j v hj=>by rw[<-a7k];exact g3 j v hj⟩)
    have bX:ab<w.heap.size:=by
     obtain⟨y,c,g1,g2,g3⟩:=Ie 0 h0;have hj:c[0]?=some (c[0]'(by omega)):=List.getElem?_eq_getElem (by omega);have:=g3 0 _ hj;rw[a7k] at this;unfold World.cell? at this;split at this
     .rename_i hh;exact (b2e.1 hh).1
     .cases this
    have YW:(xs.map t.bc).length=len:=by simp[h1]
    refine⟨xs,some ⟨ab,ao,none⟩,cap,by rw[YW],by rw[YW];exact hl,hm,by rw[YW];omega, .inr ⟨ab,ao,rfl,bX,h2⟩⟩
 | st s =>
  obtain⟨fs,hu,dh,hf⟩:=tC.st ht;obtain⟨xs,n,hn,rfl,E9,xQ,hx⟩:=DataW.trod_struct hu h;obtain rfl:n=fuel:=by omega
  have oR:cs.length=(s.jw.map Ty.size).sum:=by
   rw[E9,EZ ht];cases s<;>rfl
  obtain⟨fl,h1,h2⟩:=UI (w:=w) (S:=(·<w.heap.size)) s.jw cs oR (λ i t hi=>by
   have bX:i<fs.size:=by rw[dh];exact (b1K.1 hi).1
   obtain⟨t',b',e',g1,g2,g3⟩:=hf i (fs[i]'bX) (b1W bX);rw[hi] at g1;cases g1;have hy:=hx i (fs[i]'bX) (b1W bX);have hz:xs[i]?=some (xs[i]'(by omega)):=b1p (by omega);rw[hz,EZ g2,g3] at hy;refine ih t _ b' e' _ _ g2 hy ?_;have h3:=V4 (d:=(xs[i]'(by omega)).1) (l:=xs.map (·.1)) (b0S.2 ⟨_,b2d _,rfl⟩);simp only[Rows.uptoBulk] at hk;omega)
  obtain⟨y,hy⟩:=aY.a1m s fl h1;refine⟨y,?_⟩;show Rd w _ (s.bc y) cs;rw[aY.cP,aY.KR,hy];exact h2
end
end Go.Proofs.YtmjfpcajohhbeaaGreatDoor

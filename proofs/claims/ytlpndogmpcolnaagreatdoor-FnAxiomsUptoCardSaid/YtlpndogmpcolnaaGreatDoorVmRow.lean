/- VmDraw3, VmFrz, VmMix, VmDraw4, VmGuard, VmCode, VmFun, VmOwnFun, VmStFun, VmTab, VmNew, VmUse, VmOpen, VmRow. -/
import Derived.Test.YtlpndogmpcolnaaGreatDoorVmDraw2
import Derived.Deep.LoopGhost
import Derived.Test.YtlpndogmpcolnaaGreatDoorChecked
import Derived.WalkKit
import Derived.Test.YtlpndogmpcolnaaGreatDoorRows
import Derived.ProofKit
import Derived.OpenShut
import Derived.JoinedCond
import Derived.Carry
import Derived.ChangeSame
import Derived.Shelf.Vars
set_option linter.all false
set_option maxHeartbeats 4000000
set_option maxRecDepth 100000
namespace Go.Proofs.YtlpndogmpcolnaaGreatDoor
def b9l:=@List.any_eq_false
def b7n:=@Array.getElem?_eq_some_iff
def b8q:=@List.eq_nil_iff_forall_not_mem
def b7j:=@Array.size_setIfInBounds
def b7E:=@of_decide_eq_false
def b8y:=@Nat.testBit_two_pow_sub_one
def b8W:=@Classical.not_forall
def b8M:=@Classical.not_imp
def b7v:=@List.mem_append_left
def b9Y:=@List.map_congr_left
def b8B:=@List.not_mem_nil
def b9S:=@or_false
def b9x:=@forall_eq_or_imp
def b7i:=@Array.getElem?_eq_none
def b6j:=@Bool.not_eq_true'
def b5L:=@decide_eq_false_iff_not
def b7T:=@List.mem_filterMap
def b8Z:=@List.foldl_nil
def b9p:=@Nat.blt_eq
def b8J:=@ne_eq
def b9y:=@List.filter_cons
def b7b:=@List.mem_filter
def b7r:=@List.mem_of_mem_erase
def b9T:=@List.perm_cons_erase
def b8C:=@List.Sublist.map
def b9b:=@List.erase_sublist
def b8f:=@List.mem_erase_of_ne
def b9z:=@List.any_eq_true
def b9A:=@Option.isSome_iff_exists
def b9B:=@List.perm_middle
def b5T:=@Bool.not_false
def b7x:=@Bool.true_and
def b9Z:=@List.filter_sublist
def c0i:=@or_assoc
def b9U:=@Bool.or_eq_false_iff
def b5U:=@Bool.not_true
def b9a:=@Go.wp_mono
def b8S:=@Array.getElem?_toList
def b9L:=@Go.calls_of_wp
def b7V:=@Array.mapM_eq_mapM_toList
def b9M:=@Go.Sem.run_map
def b7Z:=@Bool.and_eq_true_iff
def b6H:=@Nat.not_lt_zero
theorem Ei{l:List Oper}{D:Nat->Prop}(hD:∀ (k:Nat),D k->∀ (o:Oper),l[k]?=some o->∀ e∈o.after.toList,Region.binds .any e=true->D e.on):∀ (i:Nat) (o:Oper),l[i]?=some o->(∀ e∈o.after.toList,Region.binds .any e=true->D e.on) ->
  ∀ k,Nat.testBit ((bF l []).getD i 0) k=true->D k:=by
 obtain⟨r,h1,h2,h3⟩:=xN l [];rw[h1];simp only[List.nil_append,List.length_nil,Nat.zero_add] at h3 ⊢;intro i;induction i using Nat.strongRecOn with
 | _ i ih =>
  intro o ho b3N k hk;obtain⟨e,he,hb,h⟩:=h3 i o ho k hk;have hde:=b3N e he hb;rcases h with rfl|⟨bp,h⟩
  .exact hde
  .have hll:i<l.length:=(b6o.1 ho).1;have hp:l[e.on]?=some (l[e.on]'(by omega)):=b6e (by omega);exact ih e.on bp _ hp (λ e' AG cw=>hD e.on hde _ hp e' AG cw) k h
theorem bL{l:List Oper}(h:backward l=true):∀ (i:Nat) (o:Oper),l[i]?=some o->∀ e∈o.after.toList,Region.binds .any e=true->e.on<i:=by
 intro i o ho e he hb;unfold backward at h;rw[List.all_eq_true] at h;have hi:i<l.length:=(List.getElem?_eq_some_iff.1 ho).1;have:=h i (by simpa using hi);rw[ho] at this;simp only[List.all_eq_true] at this;have:=this e he;rw[hb] at this;simpa [Nat.blt_eq] using this
theorem EB:∀ {ds:List (Option Nat)},distinct ds=true->(∀ d∈ds,∃ t,d=some t)/\∀ (j k t:Nat),ds[j]?=some (some t)->ds[k]?=some (some t)->j=k
 | [],_=>⟨by simp,by simp⟩
 | none::_,h=>by cases h
 | some d::r,h=>by
  simp only[distinct] at h;split at h
  .cases h
  .rename_i XF;obtain⟨h1,h2⟩:=EB h;have hU:∀ x∈r,x≠some d:=by
    intro x hx e;subst e;rw[b9l] at XF;have:=XF _ hx;simp at this
   refine⟨λ x hx=>?_,λ j k t hj hk=>?_⟩
   .rcases b5X.1 hx with rfl|hx
    .exact⟨d,rfl⟩
    .exact h1 x hx
   .cases j with
    | zero =>
     simp at hj;subst hj;cases k with
     | zero=>rfl
     | succ k=>exact absurd rfl (hU _ (List.mem_of_getElem? (by simpa using hk)))
    | succ j =>
     cases k with
     | zero =>
      simp at hk;subst hk;exact absurd rfl (hU _ (List.mem_of_getElem? (by simpa using hj)))
     | succ k=>rw[h2 j k t (by simpa using hj) (by simpa using hk)]
theorem mem_ready{ops:Array Oper}{listed:Array Bool}{i:Nat}(hs:listed.size=ops.size):i∈Region.ready .any ops listed↔∃ o,ops[i]?=some o/\listed.getD i false=false/\∀ e∈o.after.toList,Region.binds .any e=true->listed.getD e.on false=true:=by
 unfold Region.ready;simp only[List.mem_filter,List.mem_range,Bool.and_eq_true,Bool.not_eq_true'];constructor
 .rintro⟨hi,h1,h2⟩;have ho:ops[i]?=some ops[i]:=b6O hi;rw[ho] at h2;simp only[b8o,b8R] at h2;refine⟨_,ho,?_,λ e he hb=>?_⟩
  .have:i<listed.size:=by omega
   simpa [Array.getD_eq_getD_getElem?,this] using h1
  .rw[Array.all_eq_true_iff_forall_mem] at h2;have:=h2 e (by simpa using he);simpa [hb] using this
 .rintro⟨o,ho,h1,h2⟩;have hi:i<ops.size:=(b7n.1 ho).1;refine⟨hi,?_,?_⟩
  .have:i<listed.size:=by omega
   simpa [Array.getD_eq_getD_getElem?,this] using h1
  .rw[ho];simp only[b8o,b8R];rw[Array.all_eq_true_iff_forall_mem];intro e he;cases hb:Region.binds .any e with
   | false=>simp
   | true=>simp[h2 e (by simpa using he) hb]
theorem sB{listed:Array Bool}{i k:Nat}(hi:i<listed.size):(listed.setIfInBounds i true).getD k false=true↔listed.getD k false=true\/k=i:=by
 rw[b6D,b6D,b8Y];by_cases h:i=k
 .subst h;simp[hi]
 .simp[h,Ne.symm h]
section
variable {c:Ctx} {G:Gh} {s:aq} {a:Act} {w w':World}
theorem J8(hE:bl c.P c.E){ops:Array Oper}{m:Nat}(dF:backward ops.toList=true)(pb:∀ j o,m<=j->ops.toList[j]?=some o->∀ k,k<j->Nat.testBit ((bF ops.toList []).getD j 0) k=true)
  {Q:aq->Prop} {Q':Exit->Act->World->Prop} (hQ:∀ G s a w,Inv c G s a w->Q s->Q' .normal a w) :
  ∀ (fuel j:Nat) (kn:List (Nat×Bool)) (G:Gh) (s:aq) (a:Act) (w:World) (listed:Array Bool),m<=j->ops.size<=j+fuel->listed.size=ops.size->(∀ k,k<ops.size->(listed.getD k false=true↔k<j)) ->
   Inv c G s a w->eZ c.E ops (ops.toList.drop j) kn Q s->wpAny c.P .any ops Q' fuel listed a w:=by
 intro fuel;induction fuel with
 | zero =>
  intro j kn G s a w listed hmj hf cr hl hI hr;have p9:ops.toList.drop j=[]:=b8s (by simp;omega);rw[p9] at hr;refine⟨?_,hQ _ _ _ _ hI hr⟩;apply b8q.2;intro i hi;obtain⟨o,ho,h1,_⟩:=(mem_ready cr).1 hi;have bp:=(b7n.1 ho).1;have:=(hl i bp).2 (by omega);rw[h1] at this;cases this
 | succ fuel ih =>
  intro j kn G s a w listed hmj hf cr hl hI hr;by_cases hj:j<ops.size
  .have ho:ops[j]?=some ops[j]:=b6O hj;have b1k:ops.toList.drop j=ops[j]::ops.toList.drop (j+1):=by
    rw[List.drop_eq_getElem_cons (by simpa using hj)];simp
   rw[b1k] at hr;constructor
   .intro p9;have:j∈Region.ready .any ops listed:=(mem_ready cr).2 ⟨_,ho,by
     cases hb:listed.getD j false with
     | false=>rfl
     | true=>have:=(hl j hj).1 hb;omega,λ e he hb=>by
     have:=bL dF j ops[j] (by simp) e he hb;exact (hl e.on (by omega)).2 this⟩
    rw[p9] at this;cases this
   .intro i hi;obtain⟨o,cq,h1,h2⟩:=(mem_ready cr).1 hi;have HA:=(b7n.1 cq).1;have VT:j<=i:=by
     rcases b6E i j with h|h
     .have:=(hl i HA).2 h;rw[h1] at this;cases this
     .exact h
    have tM:i=j:=by
     rcases b6E j i with h|h
     .have fv:=Ei (l:=ops.toList) (D:=λ k=>k<j) (λ k hk o' cI e he hb=>by
       have:=bL dF k o' cI e he hb;omega) i o (by simpa using cq) (λ e he hb=>by
        have bp:=bL dF i o (by simpa using cq) e he hb;exact (hl e.on (by omega)).1 (h2 e he hb)) j (pb i o (by omega) (by simpa using cq) j h)
      omega
     .omega
    subst tM;have hoe:o=ops[i]:=by rw[ho] at cq;exact (b7N cq).symm
    have Da:∀ k,k<ops.size->((listed.setIfInBounds i true).getD k false=true↔k<i+1):=λ k hk=>by
     rw[sB (by omega),hl k hk];omega
    unfold wpOp;simp only[ho];have wB:=BA hE hI hr;split at wB
    .rename_i hw;rw[b5Q hw];exact .inl (b7o (λ a' w' ⟨G',s',nV,h1,h2⟩=>ih (i+1) nV G' s' a' w' _ (by omega) (by omega) (by rw[b7j];exact cr) Da h1 h2) (wB Q'))
    .rename_i hw;rw[b5I hw];obtain⟨G',s',nV,h1,h2⟩:=wB;exact ih (i+1) nV G' s' _ w _ (by omega) (by omega) (by rw[b7j];exact cr) Da h1 h2
  .have p9:ops.toList.drop j=[]:=b8s (by simp;omega);rw[p9] at hr;have gV:Region.ready .any ops listed=[]:=by
    apply b8q.2;intro i hi;obtain⟨o,ho,h1,_⟩:=(mem_ready cr).1 hi;have bp:=(b7n.1 ho).1;have:=(hl i bp).2 (by omega);rw[h1] at this;cases this
   exact⟨λ _=>hQ _ _ _ _ hI hr,λ i hi=>by rw[gV] at hi;cases hi⟩
theorem Hz{l:List Oper}{ops:Array Oper}(hl:ops.toList=l){bits:Nat}{o:Oper}{Hi:Bool}(h:Inv c G s a w)(hg:fU l bits s o Hi):Region.wanted o (yielded ops a.tmps)=Hi:=by
 unfold fU at hg;split at hg
 .rename_i hn;simp[Region.wanted,hn,hg]
 .rename_i g want hn;obtain⟨t,v,h1,_,h3,h4⟩:=hg;have hx:=aW h (.tmp t);rw[h3] at hx;have hs:wu ops g=some t:=by
   unfold wu;rw[<-h1];unfold ck;rw[<-hl];simp
  unfold GV at h4;split at h4
  .have hy:=IN (s:=s) hs hx;simp[Region.wanted,hn,hy,h4]
  .have hy:=ER (s:=s) hs hx;simp[Region.wanted,hn,hy,h4]
  .exact h4.elim
theorem Zn(hE:bl c.P c.E){ops:Array Oper}{m:Nat}{es:List LP}{s0:aq}(dF:backward ops.toList=true)(hm:m<=ops.size)
  (pb:∀ j o,m<=j->ops.toList[j]?=some o->∀ k,k<j->Nat.testBit ((bF ops.toList []).getD j 0) k=true)
  (pc:∀ j k t,j<m->k<m->ck ops.toList j=some t->ck ops.toList k=some t->j=k)
  (a4G:∀ i o,i<m->ops.toList[i]?=some o->PU c.E ops.toList m ((bF ops.toList []).getD i 0) (dK ops.toList es s0 (List.range i)) o (es.getD i ⟨false, .any,none⟩))
  (IS:∀ i o,i<m->ops.toList[i]?=some o->ti o.dst=true) (qE:∀ i o t,i<m->ops.toList[i]?=some o->vP o.op=true->o.dst=some t->s0.ai t=none)
  {Q:aq->Prop} {Q':Exit->Act->World->Prop} (hQ:∀ G s a w,Inv c G s a w->Q s->Q' .normal a w) {kn:List (Nat×Bool)} (QW:∀ G a w,Inv c G (dK ops.toList es s0 (List.range m)) a w->eZ c.E ops (ops.toList.drop m) kn Q (dK ops.toList es s0 (List.range m))) :
  ∀ (fuel:Nat) (π:List Nat) (G:Gh) (a:Act) (w:World) (listed:Array Bool),ops.size=π.length+fuel->π.Nodup->(∀ k∈π,k<m)->listed.size=ops.size->(∀ k,k<ops.size->(listed.getD k false=true↔k∈π)) ->
   (∀ k∈π,∀ o,ops.toList[k]?=some o->∀ e∈o.after.toList,Region.binds .any e=true->e.on∈π)->Inv c G (dK ops.toList es s0 π) a w->wpAny c.P .any ops Q' fuel listed a w:=by
 intro fuel;induction fuel with
 | zero =>
  intro π G a w listed hf hn bp cr hl wz hI;have hlen:=u9 m π hn bp;have gW:∀ k,k<m->k∈π:=λ k hk=>by
   cases hb:decide (k∈π) with
   | true=>exact b6n hb
   | false =>
    have:=u9 m (k::π) (b6z.2 ⟨b7E hb,hn⟩) (λ j hj=>by
     rcases b5X.1 hj with rfl|hj
     .exact hk
     .exact bp j hj)
    simp at this;omega
  suffices xF:Inv c G (dK ops.toList es s0 (List.range m)) a w from J8 hE dF pb hQ 0 m kn G (dK ops.toList es s0 (List.range m)) a w listed (b6k _) (by omega) cr (λ k hk=>by rw[hl k hk];exact⟨bp k,gW k⟩) xF (QW G a w xF)
  have heq:∀ t,(dK ops.toList es s0 π).sl t=(dK ops.toList es s0 (List.range m)).sl t/\(dK ops.toList es s0 π).ai t=(dK ops.toList es s0 (List.range m)).ai t:=λ t =>
   R9 (bits:=2 ^ m - 1) pc bp (by simp) hn List.nodup_range (λ k hk _=>⟨gW k hk,by simpa using hk⟩) t (by
    unfold hidden;rw[List.any_eq_false];intro k hk;simp only[List.mem_range] at hk;split
    .split
     .simp[b8y,hk]
     .simp
    .simp)
  unfold Inv at hI ⊢;rw[KZ] at hI ⊢;rw[<-funext λ t=>(heq t).1,<-funext λ t=>(heq t).2];exact hI
 | succ fuel ih =>
  intro π G a w listed hf hn bp cr hl wz hI;by_cases gW:∀ k,k<m->k∈π
  .suffices xF:Inv c G (dK ops.toList es s0 (List.range m)) a w from J8 hE dF pb hQ (fuel+1) m kn G (dK ops.toList es s0 (List.range m)) a w listed (b6k _) (by have:=u9 m π hn bp;omega) cr (λ k hk=>by rw[hl k hk];exact⟨bp k,gW k⟩) xF (QW G a w xF)
   have heq:∀ t,(dK ops.toList es s0 π).sl t=(dK ops.toList es s0 (List.range m)).sl t/\(dK ops.toList es s0 π).ai t=(dK ops.toList es s0 (List.range m)).ai t:=λ t =>
    R9 (bits:=2 ^ m - 1) pc bp (by simp) hn List.nodup_range (λ k hk _=>⟨gW k hk,by simpa using hk⟩) t (by
     unfold hidden;rw[List.any_eq_false];intro k hk;simp only[List.mem_range] at hk;split
     .split
      .simp[b8y,hk]
      .simp
     .simp)
   unfold Inv at hI ⊢;rw[KZ] at hI ⊢;rw[<-funext λ t=>(heq t).1,<-funext λ t=>(heq t).2];exact hI
  ·
   have hex:∃ k,k<m/\k∉π/\∀ j,j<k->j∈π:=by
    have:∀ n,(∃ k,k<n/\k<m/\k∉π)->∃ k,k<m/\k∉π/\∀ j,j<k->j∈π:=by
     intro n;induction n with
     | zero=>rintro⟨k,hk,_⟩;omega
     | succ n ihn =>
      rintro⟨k,hk,hkm,zj⟩;by_cases hs:∃ k,k<n/\k<m/\k∉π
      .exact ihn hs
      .refine⟨k,hkm,zj,λ j hj=>?_⟩;cases hb:decide (j∈π) with
       | true=>exact b6n hb
       | false=>exact absurd ⟨j,by omega,by omega,b7E hb⟩ hs
    refine this m ?_;have h1:∃ k,¬ (k<m->k∈π):=b8W.1 gW;obtain⟨k,hk⟩:=h1;have h2:=b8M.1 hk;exact⟨k,h2.1,h2.1,h2.2⟩
   obtain⟨k0,a1H,sa,XP⟩:=hex;have XK:ops[k0]?=some (ops[k0]'(by omega)):=b6O (by omega);constructor
   .intro p9;have:k0∈Region.ready .any ops listed:=(mem_ready cr).2 ⟨_,XK,by
     cases hb:listed.getD k0 false with
     | false=>rfl
     | true=>exact absurd ((hl k0 (by omega)).1 hb) sa,λ e he hb=>by
     have XN:=bL dF k0 ops[k0] (by simp) e he hb;exact (hl e.on (by omega)).2 (XP e.on XN)⟩
    rw[p9] at this;cases this
   .intro i hi;obtain⟨o,cq,h1,h2⟩:=(mem_ready cr).1 hi;have HA:=(Array.getElem?_eq_some_iff.1 cq).1;have ez:ops.toList[i]?=some o:=by simpa using cq
    have uQ:i∉π:=λ hh=>by
     have:=(hl i HA).2 hh;rw[h1] at this;cases this
    have QV:∀ e∈o.after.toList,Region.binds .any e=true->e.on∈π:=λ e he hb=>by
     have XN:=bL dF i o ez e he hb;exact (hl e.on (by omega)).1 (h2 e he hb)
    have C8:=Ei (l:=ops.toList) (D:=λ k=>k∈π) (λ k hk o' cI e he hb=>wz k hk o' cI e he hb) i o ez QV;have rZ:i<m:=by
     rcases b6E i m with h|h
     .exact h
     .exact absurd (C8 k0 (pb i o h ez k0 (by omega))) sa
    have KE:=Ei (l:=ops.toList) (D:=λ k=>k<i) (λ k hk o' cI e he hb=>by
     have:=bL dF k o' cI e he hb;omega) i o ez (λ e he hb=>bL dF i o ez e he hb)
    have I0:=λ t hh=>R9 (l:=ops.toList) (es:=es) (s0:=s0) (m:=m) (bits:=(bF ops.toList []).getD i 0) (π:=π) (π':=List.range i) pc bp (by intro k hk;simp at hk;omega) hn b8Q
     (λ k hk hb=>⟨C8 k hb,by simpa using KE k hb⟩) t hh
    obtain⟨hg,cJ,a0e⟩:=a4G i o rZ ez;have cG:SN ops.toList m ((bF ops.toList []).getD i 0) (dK ops.toList es s0 (List.range i))=SN ops.toList m ((bF ops.toList []).getD i 0) (dK ops.toList es s0 π):=by
     funext x;cases x with
     | tmp t =>
      simp only[SN];split
      .rfl
      .rename_i hh;exact ((I0 t hh).1).symm
     | _=>rfl
    have bS:O7 ops.toList m ((bF ops.toList []).getD i 0) (dK ops.toList es s0 (List.range i))=O7 ops.toList m ((bF ops.toList []).getD i 0) (dK ops.toList es s0 π):=by
     funext t;simp only[O7];split
     .rfl
     .rename_i hh;exact ((I0 t hh).2).symm
    have hg':fU ops.toList ((bF ops.toList []).getD i 0) (dK ops.toList es s0 π) o (es.getD i ⟨false, .any,none⟩).Hi:=by
     unfold fU at hg ⊢;split
     .rename_i zm;simpa [zm] using hg
     .rename_i g want zm;simp only[zm] at hg;obtain⟨t,b,q1,q2,q3,q4⟩:=hg;refine⟨t,b,q1,q2,?_,q4⟩;have hgm:g<m:=Nat.lt_trans (KE g q2) rZ;have hh:hidden ops.toList m ((bF ops.toList []).getD i 0) t=false:=by
       unfold hidden;rw[List.any_eq_false];intro k hk;simp only[List.mem_range] at hk;split
       .rename_i d hd;split
        .rename_i EV;have EV:=b5G EV;subst EV;have:=pc k g d hk hgm hd q1;subst this;rw[q2];simp
        .simp
       .simp
      exact ((I0 t hh).1).trans q3
    have hw:=Hz (ops:=ops) rfl hI hg';have wA:∀ (G':Gh) (a':Act) (w':World),Inv c G' (dK ops.toList es s0 (π++[i])) a' w'->wpAny c.P .any ops Q' fuel (listed.setIfInBounds i true) a' w':=by
     intro G' a' w' xF;refine ih (π++[i]) G' a' w' _ (by simp;omega) ?_ ?_ (by rw[b7j];exact cr) ?_ ?_ xF
     .rw[b6l];exact⟨hn,by simp,λ x hx y hy=>by simp at hy;subst hy;exact λ e=>uQ (e ▸ hx)⟩
     .intro k hk;rcases b5F.1 hk with hk|hk
      .exact bp k hk
      .simp at hk;omega
     .intro k hk;rw[sB (by omega),hl k hk];simp
     .intro k hk o' cI e he hb;rcases b5F.1 hk with hk|hk
      .exact b7v _ (wz k hk o' cI e he hb)
      .simp at hk;subst hk;rw[ez] at cI;simp only[b5E] at cI;subst cI;exact b7v _ (QV e he hb)
    have Mw:ck ops.toList i=o.dst:=by simp[ck,ez]
    unfold wpOp;simp only[cq];cases KM:(es.getD i ⟨false, .any,none⟩).Hi with
    | true =>
     rw[KM] at hw;rw[b5Q hw];obtain⟨vc,hq,eb⟩:=cJ KM;rw[cG,bS] at hq;refine .inl (b7o ?_ (Jl hE hI (lk':=O7 ops.toList m ((bF ops.toList []).getD i 0) (dK ops.toList es s0 π)) ?_ ?_ hq eb))
     .intro a' w' hd;obtain⟨G',pd⟩:=N8 hI (IS i o rZ ez) (λ t ob EV OO=>by
       rw[OO] at hq;have Z6:=Li hq;have h0:=qE i o t rZ ez Z6 EV;have AI:=(gq ops.toList es t π s0 (λ k hk hkd=>by
        have:=pc k i t (bp k hk) rZ hkd (by rw[Mw];exact EV);subst this;exact uQ hk)).2
       rw[AI,h0]) hd
      refine wA G' a' w' ?_;rw[vy,Mw];exact pd
     .intro id ob aS;unfold O7 at aS;split at aS
      .cases aS
      .exact aS
     .intro x;cases x with
      | tmp t =>
       simp only[SN];split
       .trivial
       .exact aW hI (.tmp t)
      | const v=>exact aW hI (.const v)
      | global g=>exact aW hI (.global g)
      | func f=>exact aW hI (.func f)
    | false =>
     rw[KM] at hw;rw[hw];obtain⟨hv,OO⟩:=a0e KM;refine wA G _ w ?_;rw[vy,Mw,hv,OO,MW];exact Inv.put (v := .dY) hI rfl
theorem Rh{l:List Oper}{K:Prop}(h:Inv c G s a w):u7 l s K->K:=by
 induction l with
 | nil=>exact λ h=>h
 | cons o r ih =>
  intro hk;simp only[u7] at hk;split at hk
  .exact ih (Gm (h.aA _) hk)
  .exact ih hk
theorem Qd(hE:bl c.P c.E)(gX:c.P.follows .mixedOrders=true){id:Nat}{ops:Array Oper}{Q:aq->Prop}{Q':Exit->Act->World->Prop}(hQ:∀ G s a w,Inv c G s a w->Q s->Q' .normal a w)
  (h:Inv c G s a w) (hd:Qc c.E ops Q s):(Code.region id ops true).wp c.P Q' a w:=by
 unfold Qc at hd;simp only at hd;split at hd;case h_2=>exact hd.elim
 case h_1 hb =>
  simp only[Bool.and_eq_true] at hb;obtain⟨ES,wv,dF⟩:=hb;obtain⟨r,ha1,ha2,_⟩:=xN ops.toList [];have QT:(bF ops.toList []).length=ops.size:=by rw[ha1];simpa using ha2
  obtain⟨hm1,_,hm3⟩:=zM (bF ops.toList []) 0 0 (b6k _);simp only[b7P] at hm1 hm3;rw[QT] at hm1;generalize hmd:nk (bF ops.toList []) 0 0=m at *
  have pb:∀ j o,m<=j->ops.toList[j]?=some o->∀ k,k<j->Nat.testBit ((bF ops.toList []).getD j 0) k=true:=by
   intro j o hmj ho k hk;have hj:j<ops.size:=by have:=(List.getElem?_eq_some_iff.1 ho).1;simpa using this
   have hg:(bF ops.toList [])[j]?=some ((bF ops.toList [])[j]'(by omega)):=List.getElem?_eq_getElem (by omega);have:=hm3 j _ hg hmj;rw[List.getD_eq_getElem?_getD,hg,Option.getD_some,show (bF ops.toList [])[j]'(by omega)=2 ^ j - 1 by omega,Nat.testBit_two_pow_sub_one];simpa using hk
  obtain⟨_,Mw⟩:=EB wv;have pc:∀ j k t,j<m->k<m->ck ops.toList j=some t->ck ops.toList k=some t->j=k:=by
   have get:∀ j t,j<m->ck ops.toList j=some t->((ops.toList.take m).map (·.dst))[j]?=some (some t):=by
    intro j t hj KH;unfold ck at KH;simp only[Option.bind_eq_some_iff] at KH;obtain⟨o,ho,XQ⟩:=KH;rw[List.getElem?_map,List.getElem?_take,if_pos hj,ho];simp[XQ]
   intro j k t hj hk KH hkt;exact Mw j k t (get j t hj KH) (get k t hk hkt)
  obtain⟨es,nV,s',wC,hq⟩:=rp hd;have hlen:(ops.toList.take m).length=m:=by simp;omega
  have Q4:∀ j o,(ops.toList.take m)[j]?=some o->ops.toList[0+j]?=some o:=λ j o ho=>by
   rw[b7h] at ho;split at ho
   .simpa using ho
   .cases ho
  obtain⟨KN,XT⟩:=UQ (ops.toList.take m) 0 es [] _ s' wC Q4 rfl rfl;simp only[b6B,b7P,hlen] at KN XT;subst XT;have hI0:Inv c G ((ops.toList.take m).foldl aq.fresh s) a w.drew:=B5 _ (bf.drew h);refine wp_region_any gX ?_;refine Zn hE (m:=m) (es:=es) (s0:=(ops.toList.take m).foldl aq.fresh s) dF hm1 pb pc ?_ (λ i o rZ ho=>b6y.1 ES o (b6N (by rw[b7h,b5Q rZ];exact ho))) ?_ hQ (kn:=nV) (λ G a w hI=>Rh hI hq) ops.size [] G a _ _ (by simp) (by simp) (by simp) (by simp) ?_ (by simp) hI0
  .intro i o rZ ho;exact KN i o (by rw[b7h,b5Q rZ];exact ho)
  .intro i o t rZ ho hc EV;exact (zd (ops.toList.take m) s t).2 o (b6N (by rw[b7h,b5Q rZ];exact ho)) hc EV
  .intro k hk;simp[hk]
end
section
variable {w w':World}
theorem PT.ctx{c c':Ctx}{S:Nat->Prop}{v:Arg}{x:Value}(h:PT c S w v x)(cb:∀ b,St c S b->St c' S b):PT c' S w v x:=by
 cases v with
 | ref v=>obtain⟨b,o,cs,h1,h2,h3⟩:=h;exact⟨b,o,cs,h1,cb b h2,h3⟩
 | val v=>exact h
 | fn f=>exact h
 | cO v=>exact h
 | own v=>exact h
 | box k=>exact h
theorem C1.ctx{c c':Ctx}(hP:c'.P=c.P){G:Gh}{lk:Nat->Option av}{v:AV}{x:Value}(h:C1 c G lk w v x)(cb:∀ b,St c G.S b->St c' G.S b):C1 c' G lk w v x:=by
 cases v with
 | cT v=>obtain⟨b,o,cs,h1,h2,h3⟩:=h;exact⟨b,o,cs,h1,cb b h2,h3⟩
 | il v=>obtain⟨f,ew,l,h1,h2,h3⟩:=h;exact⟨f,ew,l,h1,hP ▸ h2,h3.imp λ _ _ _ q=>q.ctx cb⟩
 | _=>exact h
theorem TR.ctx{c c':Ctx}(hP:c'.P=c.P){G:Gh}{lk:Nat->Option av}{v:AV}{x:Value}(h:TR c G lk w v x)(cb:∀ b,St c G.S b->St c' G.S b):TR c' G lk w v x:=by
 cases v with
 | aC id=>exact (show C1 c G lk w (.aC id) x from h).ctx hP cb
 | cT v=>exact (show C1 c G lk w (.cT v) x from h).ctx hP cb
 | agg cs=>obtain⟨l,h1,h2⟩:=h;exact⟨l,h1,h2.imp λ _ _ _ q=>q.ctx hP cb⟩
 | aO v=>exact h
 | any=>trivial
 | _=>exact h.elim
theorem CR.ctx{c c':Ctx}(hP:c'.P=c.P){G:Gh}{lk:Nat->Option av}{v:AV}{x:Value}(h:CR c G lk w v x)(cb:∀ b,St c G.S b->St c' G.S b):CR c' G lk w v x:=by
 cases v with
 | aO v=>exact h
 | agg cs=>obtain⟨l,h1,h2⟩:=h;exact⟨l,h1,h2.imp λ _ _ _ q=>q.ctx hP cb⟩
 | any=>exact (show C1 c G lk w (.any) x from h).ctx hP cb
 | dY=>exact (show C1 c G lk w (.dY) x from h).ctx hP cb
 | nil=>exact (show C1 c G lk w (.nil) x from h).ctx hP cb
 | cT v=>exact (show C1 c G lk w (.cT v) x from h).ctx hP cb
 | ptr i o=>exact (show C1 c G lk w (.ptr i o) x from h).ctx hP cb
 | row i=>exact (show C1 c G lk w (.row i) x from h).ctx hP cb
 | eA i j o=>exact (show C1 c G lk w (.eA i j o) x from h).ctx hP cb
 | hY vs=>exact (show C1 c G lk w (.hY vs) x from h).ctx hP cb
 | fn f=>exact (show C1 c G lk w (.fn f) x from h).ctx hP cb
 | aC i=>exact (show C1 c G lk w (.aC i) x from h).ctx hP cb
 | sub i j o z=>exact (show C1 c G lk w (.sub i j o z) x from h).ctx hP cb
 | eJ i j o z=>exact (show C1 c G lk w (.eJ i j o z) x from h).ctx hP cb
 | cO f cs=>exact (show C1 c G lk w (.cO f cs) x from h).ctx hP cb
 | il v=>exact (show C1 c G lk w (.il v) x from h).ctx hP cb
 | mp i=>exact (show C1 c G lk w (.mp i) x from h).ctx hP cb
theorem VR.ctx{c c':Ctx}(hP:c'.P=c.P){G:Gh}{lk:Nat->Option av}{v:AV}{x:Value}(h:VR c G lk w v x)(cb:∀ b,St c G.S b->St c' G.S b):VR c' G lk w v x:=by
 cases v with
 | aO v=>exact h
 | agg cs=>obtain⟨l,h1,h2⟩:=h;exact⟨l,h1,h2.imp λ _ _ _ q=>q.ctx hP cb⟩
 | hY vs=>obtain⟨l,h1,h2⟩:=h;exact⟨l,h1,h2.imp λ _ _ _ q=>q.ctx hP cb⟩
 | cO f cs=>obtain⟨l,h1,h2⟩:=h;exact⟨l,h1,h2.imp λ _ _ _ q=>q.ctx hP cb⟩
 | any=>exact (show C1 c G lk w (.any) x from h).ctx hP cb
 | dY=>exact (show C1 c G lk w (.dY) x from h).ctx hP cb
 | nil=>exact (show C1 c G lk w (.nil) x from h).ctx hP cb
 | cT v=>exact (show C1 c G lk w (.cT v) x from h).ctx hP cb
 | ptr i o=>exact (show C1 c G lk w (.ptr i o) x from h).ctx hP cb
 | row i=>exact (show C1 c G lk w (.row i) x from h).ctx hP cb
 | eA i j o=>exact (show C1 c G lk w (.eA i j o) x from h).ctx hP cb
 | fn f=>exact (show C1 c G lk w (.fn f) x from h).ctx hP cb
 | aC i=>exact (show C1 c G lk w (.aC i) x from h).ctx hP cb
 | sub i j o z=>exact (show C1 c G lk w (.sub i j o z) x from h).ctx hP cb
 | eJ i j o z=>exact (show C1 c G lk w (.eJ i j o z) x from h).ctx hP cb
 | il v=>exact (show C1 c G lk w (.il v) x from h).ctx hP cb
 | mp i=>exact (show C1 c G lk w (.mp i) x from h).ctx hP cb
theorem OR.ctx{c c':Ctx}(hP:c'.P=c.P){G:Gh}{lk:Nat->Option av}{id:Nat}{o:av}(h:OR c G lk w id o)(cb:∀ b,St c G.S b->St c' G.S b):OR c' G lk w id o:=by
 cases o with
 | box cs=>obtain⟨b,l,t,h1,h2,h3⟩:=h;exact⟨b,l,t,h1,h2,h3.imp λ _ _ _ q=>q.ctx hP cb⟩
 | row e τ xs=>exact h
 | aC τ xs=>exact h
 | map m=>exact h
def Ctx.fz(c:Ctx)(w:World)(S:Nat->Prop)(Z:Nat->Prop):Ctx :=
 { c with w0:=w,X:=λ b=>((c.w0.heap.size<=b/\b<w.heap.size)\/c.X b)/\¬ Z b,S0:=S,Z:=λ b=>Z b\/c.Z b }
theorem Inv.fz{c:Ctx}{G:Gh}{s:aq}{a:Act}(h:Inv c G s a w){Z:Nat->Prop}(hZ:∀ b,Z b->uM c G s.ai w b):Inv (c.fz w G.S Z) G s a w:=by
 have cb:∀ b,St c G.S b->St (c.fz w G.S Z) G.S b:=λ b hb=>by
  rcases hb with hb|⟨h1,h2,h3⟩
  .exact .inl hb
  .refine .inr ⟨b6a h1 h.keep.size,λ q=>q.1.elim (λ q=>by omega) h2,λ q=>q.elim (λ z=>(hZ b z).1.elim (λ q=>by omega) h2) h3⟩
 exact {
  defers:=h.defers,size:=h.size
  keep:=bX.refl _ _
  ju:=⟨λ b hb=>hb.1.elim (λ q=>q.2) λ q=>b6a (h.ju.1 b q) h.keep.size,λ g hg=>by
   obtain⟨_,h2,h3,_⟩:=h.ju.2 g hg;obtain⟨g1,g2⟩:=h.sOk.2 g hg;exact⟨g1,λ q=>q.1.elim (λ q=>by omega) h2,h.dx g g1,g2⟩⟩
  eo:=λ b _ _=>b7k
  sX:=λ b hb=>hb
  dx:=h.dx
  aA:=λ i=>(h.aA i).ctx (c:=c) (c':=c.fz w G.S Z) rfl cb
  aK:=λ id o ho=>(h.aK id o ho).ctx (c:=c) (c':=c.fz w G.S Z) rfl cb
  place:=λ id o b ho hb=>by
   obtain⟨h1,h2,h3⟩:=h.place id o b ho hb;exact⟨.inr ⟨h1.imp (λ q=>⟨q,h3⟩) (λ q=>q),λ z=>(hZ b z).2.2.2.1 id o ho hb⟩,h2,h3⟩
  apart:=h.apart
  aP:={
   tr:=h.aP.tr,nd:=h.aP.nd,ap:=h.aP.ap
   pl:=λ id τ xs b ht hb=>by
    obtain⟨h1,h2,h3,h4⟩:=h.aP.pl id τ xs b ht hb;exact⟨.inr ⟨h1.imp (λ q=>⟨q,h3⟩) (λ q=>q),λ z=>(hZ b z).2.2.2.2 id τ xs ht hb⟩,h2,h3,h4⟩ }
  root:=h.root,fZ:=h.fZ,dj:=h.dj,eQ:=h.eQ }
theorem Inv.b4G{c:Ctx}{G:Gh}{s:aq}{a:Act}{G':Gh}{s':aq}{a':Act}(h:Inv c G s a w){Z:Nat->Prop}(hZ:∀ b,Z b->uM c G s.ai w b)(h':Inv (c.fz w G.S Z) G' s' a' w') :
  Inv c G' s' a' w'/\∀ b,Z b->w'.heap[b]?=w.heap[b]?/\uM c G' s'.ai w' b:=by
 have cb:∀ b,St (c.fz w G.S Z) G'.S b->St c G'.S b:=λ b hb=>by
  rcases hb with hb|⟨h1,h2,h3⟩
  .exact .inl hb
  .have hz:¬ Z b:=λ z=>h3 (.inl z);refine .inr ⟨?_,λ q=>h2 ⟨.inr q,hz⟩,λ q=>h3 (.inr q)⟩;rcases b6E b c.w0.heap.size with q|q
   .exact q
   .exact absurd ⟨.inl ⟨q,h1⟩,hz⟩ h2
 have back:∀ b,(w.heap.size<=b\/(c.fz w G.S Z).X b)->c.w0.heap.size<=b\/c.X b:=λ b hb=>by
  have:=h.keep.size;exact hb.elim (λ q => .inl (by omega)) λ q=>q.1.elim (λ q => .inl q.1) .inr
 refine⟨{
  defers:=h'.defers,size:=h'.size
  keep:=h.keep.trans h'.keep λ i hi hx=>hx.1.elim (λ q=>by omega) (λ q=>q)
  ju:=h.ju
  eo:=λ b hb hx=>(h'.eo b (b6a hb h.keep.size) (λ q=>q.1.elim (λ q=>by omega) hx)).trans (h.eo b hb hx)
  sX:=λ b hb=>h'.sX b (h.sX b hb)
  dx:=h'.dx
  aA:=λ i=>(h'.aA i).ctx (c:=c.fz w G.S Z) (c':=c) rfl cb
  aK:=λ id o ho=>(h'.aK id o ho).ctx (c:=c.fz w G.S Z) (c':=c) rfl cb
  place:=λ id o b ho hb=>by
   obtain⟨h1,h2,h3⟩:=h'.place id o b ho hb;exact⟨back b h1,h2,h3⟩
  apart:=h'.apart
  aP:={
   tr:=h'.aP.tr,nd:=h'.aP.nd,ap:=h'.aP.ap
   pl:=λ id τ xs b ht hb=>by
    obtain⟨h1,h2,h3,h4⟩:=h'.aP.pl id τ xs b ht hb;exact⟨back b h1,h2,h3,h4⟩ }
  root:=h'.root,fZ:=h'.fZ,dj:=h'.dj,eQ:=h'.eQ },λ b z=>?_⟩
 obtain⟨z1,z2,z3,z4,z5⟩:=hZ b z;have AH:¬ (c.fz w G.S Z).X b:=λ q=>q.2 z;have hU:¬ (w.heap.size<=b\/(c.fz w G.S Z).X b):=λ q=>q.elim (λ q=>by omega) AH;exact⟨h'.keep.block b z3 AH,z1,λ q=>z2 ((h'.eo b z3 AH).1 q),b6a z3 h'.keep.size,λ i o cq hb=>hU (h'.place i o b cq hb).1,λ j τ xs hj hb=>hU (h'.aP.pl j τ xs b hj hb).1⟩
end
theorem wS{α β:Type}{f g:α->β}{l:Array α}(h:∀ x∈l.toList,f x=g x):l.map f=l.map g:=by
 apply b9o;rw[b7S,b7S];exact b9Y h
theorem execOp_congr{o:Oper}{ρ ρ':Operand->Value}{l:List Operand}(h:Wo o.op=some l)(he:∀ x∈l,ρ x=ρ' x):execOp ρ o=execOp ρ' o:=by
 have parts:∀ ps:Array (Nat×Operand),l=ps.toList.map (·.2)->(ps.map λ (i,x)=>(i,ρ x))=ps.map λ (i,x)=>(i,ρ' x):=λ ps hl=>wS λ x hx=>by
  obtain⟨i,x⟩:=x;simp only;rw[he x (by rw[hl];exact b5N.2 ⟨(i,x),hx,rfl⟩)]
 unfold Wo at h;split at h;case h_21=>cases h
 case h_20 T x l hh m bh =>
  simp only[b5E] at h;subst h;have key:∀ q:Option Operand,(∀ y∈q.toList,ρ y=ρ' y)->q.map ρ=q.map ρ':=λ q hq=>by
   cases q with
   | none=>rfl
   | some y=>rw[b8o,b8o,hq y (by simp)]
  simp only[execOp,bh,he x (by simp),key l (λ y hy=>he y (by simp at hy;simp[hy])),key hh (λ y hy=>he y (by simp at hy;simp[hy])),key m (λ y hy=>he y (by simp at hy;simp[hy]))]
 case h_18 c bh =>
  split at h;case h_3=>cases h
  case h_1 f hc =>
   simp only[b5E] at h;subst h;have ha:c.args.map ρ=c.args.map ρ':=wS λ x hx=>he x (by simp[hx]);simp only[execOp,bh,resolve,hc,ha,he f (by simp)]
  case h_2 b hc =>
   simp only[b5E] at h;subst h;have ha:c.args.map ρ=c.args.map ρ':=wS λ x hx=>he x hx;simp only[execOp,bh,resolve,hc,ha]
 all_goals
  rename_i bh
  simp only[b5E] at h
  first
   | (have:=parts _ h.symm;simp only[execOp,bh,this];done)
   | (subst h;simp only[execOp,bh];done)
   | (subst h;simp only[execOp,bh,b8V];done)
   | (subst h;simp only[b5X,b8B,b9S,b9x,forall_eq] at he;simp only[execOp,bh,he];done)
   | (subst h;simp only[b5X,b8B,b9S,b9x,forall_eq] at he;simp only[execOp,bh,he.1,he.2];done)
   | (subst h;simp only[b5X,b8B,b9S,b9x,forall_eq] at he;simp only[execOp,bh,he.1,he.2.1,he.2.2];done)
theorem Y8{u v:TV}(h:xr u v):u=v:=by
 unfold xr at h;split at h
 .rename_i x hx;have:=TV.aN hx;rw[this,h]
 .exact h.elim
theorem NN{v u:AV}(h:JQ v u):v=u:=by
 unfold JQ at h;split at h
 .rw[Y8 h]
 .rw[Y8 h]
 .rw[h]
 .rw[h]
 .rw[h.1,h.2]
 .rfl
 .rfl
 .exact h.elim
theorem Jm{c:Ctx}{G:Gh}{lk:Nat->Option av}{a:Act}{w:World}{o:Oper}{v:AV}{x:Value}(hr:(execOp a.eval o).run c.P w = .ok (.value x) w)(hv:VR c G lk w v x) :
  ∃ x,(execOp a.eval o).run c.P w = .ok (.value x) w/\VR c G lk w v x:=⟨x,hr,hv⟩
theorem a0A{c:Ctx}{G:Gh}{sl:Nat->AV}{n:Nat}{lk:Nat->Option av}{a:Act}{w:World}(hE:bl c.P c.E)(hI:bf c G sl n lk a w){lk':Nat->Option av}(bS:∀ id o,lk' id=some o->lk id=some o){ev:Operand->AV}(cG:∀ x,VR c G lk w (ev x) (a.eval x))
  {o:Oper} {vc:Vc} {v:AV} {ob:Option av} (hq:Jk c.E lk' ev o=some (vc,v,ob)) (eb:vc.ok) (VY:reads o.op=true) :
  ∃ x,(execOp a.eval o).run c.P w = .ok (.value x) w/\VR c G lk w v x:=by
 unfold Jk at hq;split at hq;case h_1 x bh =>
  simp only[b5E,b5H] at hq;obtain⟨rfl,rfl,rfl⟩:=hq;exact Jm (by simp[execOp,bh]) (cG x)
 case h_8 T ad bh =>
  split at hq
  .rename_i τ r hT;split at hq
   .rename_i u hu;simp only[b5E,b5H] at hq;obtain⟨rfl,rfl,rfl⟩:=hq;obtain⟨b,o',cs,h1,h2,h3,h4⟩:=pt hI.aK bS hu (cG ad);refine Jm ?_ h4;simp only[execOp,bh,h1,b6p,jB hE hT h2 h3,b6i,b6q]
   .cases hq
  .cases hq
 case h_9 x bh =>
  have key:∀ u,ev x=u->(∃ b o,a.eval x = .pointer (some ⟨b,o,none⟩))->vc = .none->v=u->ob=none->∃ x,(execOp a.eval o).run c.P w = .ok (.value x) w/\VR c G lk w v x:=by
   rintro u hu ⟨b,o',hx⟩ _ rfl rfl;refine Jm (x:=a.eval x) ?_ (hu ▸ cG x);simp only[execOp,bh,hx,b6q]
  have hx:=cG x;split at hq
  .rename_i u hu;simp only[b5E,b5H] at hq;rw[hu] at hx;obtain⟨b,o',cs,h1,_⟩:=hx;exact key _ hu ⟨b,o',h1⟩ hq.1.symm hq.2.1.symm hq.2.2.symm
  .rename_i id off hu;simp only[b5E,b5H] at hq;rw[hu] at hx;obtain⟨b,_,h1,_⟩:=hx;exact key _ hu ⟨b,off,h1⟩ hq.1.symm hq.2.1.symm hq.2.2.symm
  .rename_i id i off hu;simp only[b5E,b5H] at hq;rw[hu] at hx;obtain⟨b,_,_,_,_,_,_,_,_,h1⟩:=hx;exact key _ hu ⟨b,_,h1⟩ hq.1.symm hq.2.1.symm hq.2.2.symm
  .cases hq
 case h_10 T x i bh =>
  split at hq
  .rename_i s r hT;split at hq
   .cases hq
   .rename_i ha;split at hq
    .rename_i u hu;simp only[b5E,b5H] at hq;obtain⟨rfl,rfl,rfl⟩:=hq;obtain⟨b,o',h1,bp,h2⟩:=rq hu (cG x);refine Jm (x := .pointer (some ⟨b,o'+s.dL i,none⟩)) ?_ h2;simp only[execOp,bh,h1,b6p,CF hE hT ha bp,b6i,b6q]
    .cases hq
  .cases hq
 case h_12 T x ix bh =>
  split at hq
  .rename_i τ r hT;split at hq
   .rename_i k i hi;have hJ:=cG ix;rw[hi] at hJ;obtain⟨hJ,_⟩:=hJ;simp only[b5J,b5W] at hJ;have hx:=cG x;split at hq
    .rename_i u hu;rw[hu] at hx;split at hq
     .rename_i xs kE;have e:=TV.aN kE;subst e;simp only[b5E,b5H] at hq;obtain⟨rfl,rfl,rfl⟩:=hq;obtain⟨h0,h1⟩:=eb;obtain⟨ad,cap,h2,h3,h4,h5⟩:=jC hx;rcases h5 with h5|⟨b,o',h5,h6,h7⟩
      .subst h5;simp only[b6d] at h1;omega
      .subst h5;have bp:i.toNat<xs.length:=by omega
       obtain⟨cs,m1,m2,m3⟩:=dh.at_ (n:=τ.size) _ b o' h7 (by
        intro d hd;obtain⟨y,_,rfl⟩:=b5N.1 hd;exact Ty.cA τ y) i.toNat (τ.aL (xs.getD i.toNat τ.zero)) (by simp[List.getD,bp])
       refine Jm (x := .pointer (some ⟨b,o'+i.toNat * τ.size,none⟩)) ?_ ⟨b,_,cs,rfl, .inl h6,m3,m2⟩;simp only[execOp,bh,h2,hJ,b6p,pG hE hT h0 h1,b6i,b6q]
     .cases hq
    .rename_i id hu;rw[hu] at hx;split at hq
     .rename_i e' aU xs hl;split at hq
      .rename_i eN;have eN:=b6n eN;subst eN;simp only[b5E,b5H] at hq;obtain⟨rfl,rfl,rfl⟩:=hq;obtain⟨h0,h1⟩:=eb;obtain⟨h2,_,_⟩:=hx;have pd:=bS _ _ hl;obtain⟨l,m1,_,_⟩:=hI.aK _ _ pd;have bp:i.toNat<xs.length:=by omega
       rcases m1.2 with ⟨_,hn⟩|⟨g,cap,cur,hv,_⟩
       .omega
       .refine Jm (x := .pointer (some ⟨g,0+i.toNat * aU.size,none⟩)) ?_ ⟨g,_,cap,e',aU,xs,hv,pd,bp,by simp⟩;simp only[execOp,bh,h2,hv,hJ,b6p,pG hE hT h0 h1,b6i,b6q]
      .cases hq
     .cases hq
    .cases hq
   .cases hq
  .rename_i n r hT;split at hq
   .rename_i k i ha hi;have hJ:=cG ix;rw[hi] at hJ;obtain⟨hJ,_⟩:=hJ;simp only[b5J,b5W] at hJ;split at hq
    .rename_i u hu;simp only[b5E,b5H] at hq;obtain⟨rfl,rfl,rfl⟩:=hq;obtain⟨b,o',h1,bp,h2⟩:=rq hu (cG x);refine Jm (x := .pointer (some ⟨b,o'+n.dL i,none⟩)) ?_ h2;simp only[execOp,bh,h1,hJ,b6p,R5 hE hT ha bp,b6i,b6q]
    .cases hq
   .cases hq
  .cases hq
 case h_24=>cases hq
 all_goals
  rename_i bh
  rw[bh] at VY
  cases VY
theorem R1{c:Ctx}{G:Gh}{s:aq}{a:Act}{w:World}(hE:bl c.P c.E)(h:Inv c G s a w){o:Oper}{vc:Vc}{v:AV}(hq:rop c.E s o=some (vc,v))(eb:vc.ok) :
  ∃ x,(execOp a.eval o).run c.P w = .ok (.value x) w/\VR c G s.ai w v x:=by
 unfold rop at hq;split at hq
 .rename_i hr;split at hq
  .rename_i vc' v' XS;simp only[b5E,b5H] at hq;obtain⟨rfl,rfl⟩:=hq;exact a0A hE h (λ _ _ h=>h) (aW h) XS eb hr
  .cases hq
 .cases hq
theorem NO:∀ {v u:List AV},Qa v u->v=u
 | [],[],_=>rfl
 | a::Z9,b::bs,h=>by rw[NN h.1,NO h.2]
 | [],_::_,h=>h.elim
 | _::_,[],h=>h.elim
theorem Zp{v u:AV}(h:Ve v u):v=u:=by
 unfold Ve at h;split at h
 .rw[NO h]
 .exact NN h
structure mD(D:List Nat)(a b:Act):Prop where
 size:a.tmps.size=b.tmps.size
 da:a.defers=[]
 db:b.defers=[]
 at':∀ t,t∉D->a.tmps.getD t undef=b.tmps.getD t undef
theorem mD.put{D D':List Nat}{a b:Act}(h:mD D a b){d:Option Nat}{x:Value}(hD:∀ t,t∈D->t∉D'->d=some t):mD D' (a.put d x) (b.put d x) where
 size:=by cases d<;>simp[Act.put,h.size]
 da:=by cases d<;>exact h.da
 db:=by cases d<;>exact h.db
 at' t ht:=by
  rw[eh,eh,h.size];by_cases hd:d=some t
  .by_cases hl:t<b.tmps.size
   .rw[b5Q ⟨hd,hl⟩,b5Q ⟨hd,hl⟩]
   .rw[b5I (λ q=>hl q.2),b5I (λ q=>hl q.2)];have h1:a.tmps.getD t undef=undef:=by rw[b6D,b7i (by rw[h.size];omega)];rfl
    have h2:b.tmps.getD t undef=undef:=by rw[b6D,b7i (by omega)];rfl
    rw[h1,h2]
  .rw[b5I (λ q=>hd q.1),b5I (λ q=>hd q.1)];refine h.at' t λ hm=>hd (hD t hm ht)
theorem mD.exec{D:List Nat}{a b:Act}(h:mD D a b){o:Oper}(hu:fP D o=true):execOp a.eval o=execOp b.eval o:=by
 unfold fP at hu;split at hu
 .rename_i l hl;rw[b6y] at hu;refine execOp_congr hl λ x hx=>?_;have:=hu x hx;cases x with
  | tmp t=>exact h.at' t (by simpa using this)
  | _=>rfl
 .cases hu
theorem mz{D D':List Nat}{o:Oper}(h:fP D o=true)(hs:∀ t∈D',t∈D):fP D' o=true:=by
 unfold fP at h ⊢;split at h
 .rename_i l hl;rw[b6y] at h ⊢;intro x hx;have:=h x hx;cases x with
  | tmp t =>
   simp only[b6j,List.contains_eq_mem,b5L] at this ⊢;exact λ q=>this (hs t q)
  | _=>rfl
 .cases h
section
variable {c:Ctx} {G:Gh} {s:aq} {a:Act} {w w':World}
theorem a3s{P:Program}{o:Oper}{b:Act}{N N':Act->World->Prop}{Q:Exit->Act->World->Prop}(he:execOp a.eval o=execOp b.eval o)(hN:∀ x w',N (b.put o.dst x) w'->N' (a.put o.dst x) w')
  (hd:∀ b' w',N b' w'->b'.defers=[]) (h:o.wp P b w N (λ _ _ _=>False)):o.wp P a w N' Q:=by
 unfold Oper.wp at *
 rw[he];generalize (execOp b.eval o).run P w=r at *
 cases r with
 | ok n w' =>
  cases n<;>simp only[Oper.upon] at h ⊢;case value v=>exact hN _ _ h
  case skip=>exact hN _ _ h
  case defer d =>
   have:=hd _ _ h;cases hh:o.dst<;>simp[Act.put,hh] at this
  case enter f args=>exact Calls.mono h (λ e To q=>by cases e<;>first|exact hN _ _ q|exact q.elim λ _ q=>q.elim λ _ q=>q.elim|exact q.elim)
  case row r args=>exact Rows.mono h (λ _ _ q=>hN _ _ q)
 | halt x w'=>cases x<;>simp only[Oper.upon] at h ⊢
theorem exists_least{p:Nat->Prop}:∀ n,p n->∃ k,p k/\∀ j,j<k->¬ p j:=by
 intro n;induction n using Nat.strongRecOn with
 | _ n ih =>
  intro h;by_cases hq:∃ j,j<n/\p j
  .obtain⟨j,h1,h2⟩:=hq;exact ih j h1 h2
  .exact⟨n,h,λ j hj hp=>hq ⟨j,hj,hp⟩⟩
theorem mD.eq{a b:Act}(h:mD [] a b):a=b:=by
 obtain⟨ta,da⟩:=a;obtain⟨tb,db⟩:=b;obtain⟨h1,h2,h3,h4⟩:=h;simp only at h1 h2 h3 h4;subst h2 h3;congr 1;apply Array.ext h1;intro i hi hj;have:=h4 i (by simp);simpa [Array.getD_eq_getD_getElem?,Array.getElem?_eq_getElem hi,Array.getElem?_eq_getElem hj] using this
theorem gp{R:List (Nat×Oper)}{t:Nat}:t∈dstsOf R↔∃ r∈R,r.2.dst=some t:=by
 simp[dstsOf,b7T]
theorem a3j(h:Inv c G s a w){d:Nat}{x:Value}(hv:VR c G s.ai w (s.aA.getD d .any) x):Inv c G s (a.put (some d) x) w:=by
 have:=bf.put (d:=some d) h hv;unfold Inv;have e:jD s.aA.length s.sl (some d) (s.aA.getD d .any)=s.sl:=by
  funext i;unfold jD;split
  .rename_i hi;obtain⟨h1,_⟩:=hi;simp only[b5E] at h1;subst h1;rfl
  .rfl
 rwa [e] at this
theorem kl{E:Env}{K:Prop}:∀ {R:List (Nat×Oper)},gK E R s K->(∀ r∈R,∃ d vc,r.2.dst=some d/\rop E s r.2=some (vc,s.aA.getD d .any)/\Vc.ok vc)/\K
 | [],h=>⟨by simp,h⟩
 | r::rs,h=>by
  simp only[gK] at h;split at h
  .rename_i d vc v hd hr;have h1:=Vc.jE h;obtain⟨k1,k2⟩:=kl h1.2.2;refine⟨λ q hq=>?_,k2⟩;rcases b5X.1 hq with rfl|hq
   .exact⟨d,vc,hd,by rw[hr,Zp h1.2.1],h1.1⟩
   .exact k1 q hq
  .exact h.elim
theorem Od(hE:bl c.P c.E){K:aq->Prop}:∀ {R:List (Nat×Oper)} {s:aq} {a:Act},Inv c G s a w->JR c.E R K s->∃ t b,Inv c G t b w/\mD (dstsOf R) a b/\K t
 | [],s,a,hI,h=>⟨s,a,hI,⟨rfl,hI.defers,hI.defers,λ _ _=>rfl⟩,h⟩
 | r::rs,s,a,hI,h=>by
  simp only[JR] at h;split at h
  .rename_i d vc v hd hr;have h1:=Vc.jE h;obtain⟨x,_,hx⟩:=R1 hE hI hr h1.1;obtain⟨t,b,k1,k2,k3⟩:=Od hE (Inv.put (d:=some d) hI hx) (Gm hx h1.2);refine⟨t,b,k1,⟨by rw[<-k2.size];simp[Act.put],hI.defers,k2.db,λ i hi=>?_⟩,k3⟩;have eu:d≠i:=λ e=>hi (gp.2 ⟨r,by simp,by rw[hd,e]⟩);rw[<-k2.at' i λ hm=>hi (by
    obtain⟨q,hq,hqd⟩:=gp.1 hm;exact gp.2 ⟨q,by simp[hq],hqd⟩),eh,if_neg (λ q=>eu (by simpa using q.1))]
  .exact h.elim
theorem WB{E:Env}{o:Oper}{K:aq->Prop}{T:TypeId}{d:Nat}{τ:Ty}{r:Nat×Nat}(bh:o.op = .alloc T)(hd:o.dst=some d)(hT:ai E.ty T=some (τ,r)) :
  kH E o K s↔(d<400000/\K (s.lay (some d) (.ptr d 0) (some (.box (zeroCells τ))))):=by
 have h1:ku E s o=[]:=by
  unfold ku;rw[bh];split<;>rfl
 have h2:Vi E s o=none:=by
  unfold Vi;rw[hd,bh];simp only;split<;>rfl
 have h3:Vx E s o=none:=by unfold Vx;rw[bh]
 have h4:Wn E s o=none:=by unfold Wn;rw[bh]
 obtain⟨r1,r2⟩:=r;have h5:Jk E s.ai s.eval o=some (.none, .ptr d 0,some (.box (zeroCells τ))):=by
  unfold Jk;rw[bh];simp only[hd,hT]
 unfold kH;have h6:WJ E s o=none:=by unfold WJ;rw[hd,bh]
 have h7:Wj E s o=none:=by unfold Wj;rw[bh]
 simp only[h1,b8Z,h6,h2,h3,h4,h7,h5,Vc.and,bh,Sq,hd,ti];cases hb:Nat.blt d 400000 with
 | true=>simp only[b9p] at hb;simp[hb]
 | false=>simp only[Bool.eq_false_iff,b8J,b9p] at hb;simp[hb]
structure PE where
 i:Nat
 d:Nat
 x:Value
 b:Nat
 cs:List AV
noncomputable instance:DecidableEq PE:=λ _ _=>Classical.propDecidable _
structure Bv(c:Ctx)(G:Gh)(lk:Nat->Option av)(X:List (Nat×Oper))(a:Act)(w:World)(p:PE):Prop where
 ex:∃ o T τ r,(p.i,o)∈X/\o.op = .alloc T/\o.dst=some p.d/\ai c.E.ty T=some (τ,r)/\p.cs=zeroCells τ
 val:a.tmps.getD p.d undef=if p.d<a.tmps.size then p.x else undef
 ptr:p.x = .pointer (some ⟨p.b,0,none⟩)
 lt:p.d<400000
 new:∃ l t,w.heap[p.b]?=some (.cells l.toArray t (0,0))/\∀ (c:Ctx) (G:Gh) (lk:Nat->Option av) (w:World),aM (C1 c G lk w) p.cs l
 fr:uM c G lk w p.b
theorem Bv.put{lk:Nat->Option av}{X:List (Nat×Oper)}{p:PE}(h:Bv c G lk X a w p){d:Option Nat}{x:Value}(hd:d≠some p.d):Bv c G lk X (a.put d x) w p :=
 ⟨h.ex,by rw[eh,b5I (λ q=>hd q.1),gw];exact h.val,h.ptr,h.lt,h.new,h.fr⟩
theorem Zm(h:Inv c G s a w){p:PE}{X:List (Nat×Oper)}{a2:Act}(hp:Bv c G s.ai X a2 w p) :
  Inv c ⟨G.S,λ i=>if i=p.d then p.x else G.η i,G.φ⟩ (s.lay (some p.d) (.ptr p.d 0) (some (.box p.cs))) (a.put (some p.d) p.x) w:=by
 obtain⟨l,t,h1,h2⟩:=hp.new;refine Inv.a1Q h hp.lt ⟨p.b,l,t,hp.ptr,h1,h2 _ _ _ _⟩ ⟨_,rfl,rfl⟩ λ b hb=>?_;rw[hp.ptr] at hb;simp only[dD,b5E] at hb;subst hb;obtain⟨q1,q2,q3,q4,q5⟩:=hp.fr;exact⟨q1,q2,q3,λ i o' _ ho=>q4 i o' ho,q5⟩
theorem Zl{p:PE}{X:List (Nat×Oper)}{a2:Act}(hp:Bv c G s.ai X a2 w p){b:Nat}(hb:uM c G s.ai w b)(eu:b≠p.b) :
  uM c ⟨G.S,λ i=>if i=p.d then p.x else G.η i,G.φ⟩ (s.lay (some p.d) (.ptr p.d 0) (some (.box p.cs))).ai w b:=by
 have bS:(s.lay (some p.d) (.ptr p.d 0) (some (.box p.cs))).ai=λ i=>if i=p.d then some ((av.box p.cs).kill p.d) else (if i=p.d then none else (s.bQ p.d).ai i):=by
  funext i;show ai ((p.d,(av.box p.cs).kill p.d)::bB p.d (s.bQ p.d).aK) i=_;rw[dr,eB];rfl
 obtain⟨q1,q2,q3,q4,q5⟩:=hb;rw[bS];refine⟨q1,q2,q3,λ i o ho e=>?_,λ j τ xs hj mV=>?_⟩
 .by_cases hi:i=p.d
  .simp only[b5Q hi] at e;rw[hp.ptr] at e;simp only[dD,b5E] at e;exact eu e.symm
  .simp only[b5I hi] at e ho;rw[dX] at ho;simp only[b6C] at ho;obtain⟨o',cI,_⟩:=ho;exact q4 i o' cI e
 .by_cases hi:j=p.d
  .simp only[b5Q hi] at hj;cases hj
  .simp only[b5I hi] at hj;rw[dX] at hj;exact q5 j τ xs (jl hj) mV
theorem Vu(hE:bl c.P c.E)(h:Inv c G s a w){a2:Act}{o:Oper}{T:TypeId}{d i:Nat}{τ:Ty}{r:Nat×Nat}(bh:o.op = .alloc T)(hd:o.dst=some d)(hT:ai c.E.ty T=some (τ,r))(IS:d<400000){X:List (Nat×Oper)}(hX:(i,o)∈X) :
  ∃ w' p,p.i=i/\p.d=d/\p.b=w.heap.size/\(execOp a2.eval o).run c.P w = .ok (.value p.x) w'/\Inv c G s a w'/\Bv c G s.ai X (a2.put (some d) p.x) w' p/\bX (λ _=>False) w w':=by
 obtain⟨r1,r2⟩:=r;obtain⟨inf,z,h1,h2,h3,h4⟩:=(hE.info hT).ex;refine⟨w.alloc (.cells z.cells T),⟨i,d, .pointer (some ⟨w.heap.size,0,none⟩),w.heap.size,zeroCells τ⟩,rfl,rfl,rfl,?_,h.alloc _,?_,fw w _⟩
 .simp[execOp,bh,Instr.alloc,zeroValue,typeInfo,h1,h3,newVar,newRow]
 .refine⟨⟨o,T,τ,_,hX,bh,hd,hT,rfl⟩,?_,rfl,IS,⟨z.cells.toList,T,by simpa using heap_alloc_new w _,λ _ _ _ _=>ib h4⟩,?_⟩
  .simp only[eh,gw,b6t];split
   .rfl
   .rename_i bp;first|rfl|(rw[b6D,b7i (by omega)];rfl)
  .refine⟨.inl h.keep.size,λ q=>by have:=h.dx _ q;simp only at this;omega,by simp,λ j o' hj hb=>by have:=(h.place j o' _ hj hb).2.2;simp only at this;omega,λ j τ xs hj hb=>by have:=(h.aP.pl j τ xs _ hj hb).2.2.1;simp only at this;omega⟩
theorem Th{E:Env}{o:Oper}(h:Lm E o=true):reads o.op=true:=by
 unfold Lm at h;rw[Bool.and_eq_true] at h;exact h.1
theorem DF{E:Env}{o:Oper}(h:reads o.op=true):di E o=false:=by
 unfold di;generalize FW E o=q;generalize o.op=op at *
 cases op<;>first|rfl|cases h
theorem HC(bM:List Nat)(x:Nat×Oper):∀ l,(KQ bM x l).Perm (x::l)
 | [] => .refl _
 | y::ys=>by
  unfold KQ;split
  .exact .refl _
  .exact ((HC bM x ys).cons y).trans (.swap x y ys)
theorem jz(E:Env)(bM:List Nat):∀ l,(I9 E bM l).Perm l
 | [] => .refl _
 | x::xs=>by
  unfold I9;split
  .exact (HC bM x _).trans ((jz E bM xs).cons x)
  .exact (jz E bM xs).cons x
structure XE where
 i:Nat
 d:Nat
 x:Value
 o:Oper
noncomputable instance:DecidableEq XE:=λ _ _=>Classical.propDecidable _
structure XOk(E:Env)(P:Program)(X:List (Nat×Oper))(a:Act)(e:XE):Prop where
 mem:(e.i,e.o)∈X
 dst:e.o.dst=some e.d
 val:a.tmps.getD e.d undef=if e.d<a.tmps.size then e.x else undef
 run:(jQ e.o.op=true/\∀ w,(execOp a.eval e.o).run P w = .ok (.value e.x) w)\/((uR e.o.op=true/\FW E e.o=true)/\∃ p,e.x = .slice p 0 0)
theorem XOk.lz{E:Env}{P:Program}{X:List (Nat×Oper)}{a:Act}{e:XE}(h:XOk E P X a e):di E e.o=true:=by
 rcases h.run with ⟨q,_⟩|⟨⟨q,q'⟩,_⟩
 .simp[di,q]
 .simp[di,q,q']
theorem K9{op:Op}(h:uR op=true):∃ T,op = .buildSlice T 0 #[]:=by
 unfold uR at h;split at h
 .rename_i T len ps;simp only[b5M] at h;have h1:=b5G h.1;have h2:ps = #[]:=b7X (b5G h.2);exact⟨T,by rw[h1,h2]⟩
 .cases h
theorem a0Y{o:Oper}(h:uR o.op=true)(D:List Nat):fP D o=true:=by
 obtain⟨T,h⟩:=K9 h;simp[fP,Wo,h]
theorem XOk.put{E:Env}{P:Program}{X:List (Nat×Oper)}{e:XE}(h:XOk E P X a e)(hda:a.defers=[]){d:Option Nat}{x:Value}(hd:d≠some e.d)(hu:∀ t,d=some t->fP [t] e.o=true):XOk E P X (a.put d x) e :=
 ⟨h.mem,h.dst,by rw[eh,b5I (λ q=>hd q.1),gw];exact h.val,h.run.imp (λ hr=>⟨hr.1,λ w=>by
  cases d with
  | none=>exact hr.2 w
  | some t =>
   have hA:mD [t] (a.put (some t) x) a:=⟨gw a _ x,by rw[jw];exact hda,hda,λ u hu=>by rw[eh,if_neg (λ q=>hu (by simpa using q.1.symm))]⟩;rw[hA.exec (hu t rfl)];exact hr.2 w⟩) id⟩
theorem Vy(h:Inv c G s a w){o:Oper}{t:Operand}{i:Nat}(bh:o.op = .extract t i)(hc:xY s o.op=true):∃ x,∀ w',(execOp a.eval o).run c.P w' = .ok (.value x) w':=by
 rw[bh] at hc;simp only[xY] at hc;split at hc
 .rename_i vs hv;have hx:=aW h t;rw[hv] at hx;obtain⟨l,h1,h2⟩:=hx;have bp:i<l.length:=by rw[<-h2.length];exact b6R hc
  refine⟨l[i],λ w'=>?_⟩;have h3:l[i]?=some l[i]:=b6e bp;simp[execOp,bh,Instr.extract,h1,h3]
 .cases hc
theorem R4{E:Env}{o:Oper}{K:aq->Prop}{t:Operand}{i d:Nat}(bh:o.op = .extract t i)(hd:o.dst=some d)(hr:kH E o K s) :
  ∃ vs v,s.eval t = .hY vs/\vs[i]?=some v/\known v (K (s.put (some d) v)):=by
 have h1:ku E s o=[]:=by
  unfold ku;rw[bh];split<;>rfl
 have h2:Vi E s o=none:=by
  unfold Vi;rw[hd,bh];simp only;split<;>rfl
 have h3:Vx E s o=none:=by unfold Vx;rw[bh]
 have h4:Wn E s o=none:=by unfold Wn;rw[bh]
 have h6:WJ E s o=none:=by unfold WJ;rw[hd,bh]
 have h7:Wj E s o=none:=by unfold Wj;rw[bh]
 unfold kH at hr;split at hr
 .exact hr.elim
 simp only[h1,b8Z,h6,h2,h3,h4,h7] at hr;split at hr
 .rename_i vc v ob hq;unfold Jk at hq;rw[bh] at hq;simp only at hq;split at hq
  .rename_i vs hv;split at hq
   .rename_i u hu;simp only[Option.some.injEq,Prod.mk.injEq] at hq;obtain⟨rfl,rfl,rfl⟩:=hq;refine⟨vs,u,hv,hu,?_⟩;simpa [Vc.and,bh,Sq,hd,aq.lay] using hr
   .cases hq
  .cases hq
 .exact hr.elim
theorem Vz(h:Inv c G s a w){o:Oper}{t:Operand}{i:Nat}(bh:o.op = .extract t i){vs:List AV}{v:AV}(h1:s.eval t = .hY vs)(h2:vs[i]?=some v){x:Value}(hx:(execOp a.eval o).run c.P w = .ok (.value x) w):VR c G s.ai w v x:=by
 have hv:=aW h t;rw[h1] at hv;obtain⟨l,k1,k2⟩:=hv;obtain⟨y,k3,k4⟩:=k2.at_ i v h2;have:(execOp a.eval o).run c.P w = .ok (.value y) w:=by simp[execOp,bh,Instr.extract,k1,k3]
 rw[this] at hx;simp only[b9I,Next.value.injEq,b5W] at hx;subst hx;cases v<;>first|exact k4|exact k4.elim|trivial
theorem YL{E:Env}{o:Oper}{K:aq->Prop}{d:Nat}(hn:uR o.op=true/\FW E o=true)(ha:oR E o=true)(hd:o.dst=some d)(hr:kH E o K s) :
  ∃ τ,K (s.put (some d) (.aO ⟨.slice τ,[]⟩)):=by
 obtain⟨hn,gV⟩:=hn;obtain⟨T,bh⟩:=K9 hn;unfold oR at ha;simp only[bh,hd,gV] at ha;split at ha
 .rename_i d' τ r DW hT;simp only[b5E] at DW;subst DW;have ha:Nat.blt d 400000=true/\E.ro.contains d=true/\E.own.contains d=false:=by
   have ha:(Nat.blt d 400000&&(E.ro.contains d && !E.own.contains d))=true:=ha;simp only[b5M,b6j] at ha;exact⟨ha.1,ha.2.1,ha.2.2⟩
  obtain⟨h4,hro,kV⟩:=ha;have h1:ku E s o=[]:=by
   unfold ku;simp only[hd,kV,bh];simp
  have h2:Vi E s o=none:=by
   unfold Vi;simp only[hd,kV]
  have h3:Vx E s o=none:=by unfold Vx;rw[bh]
  have h4':Wn E s o=none:=by unfold Wn;rw[bh]
  have h6:WJ E s o=none:=by unfold WJ;rw[hd,bh]
  have h7:Wj E s o=none:=by unfold Wj;rw[bh]
  obtain⟨r1,r2⟩:=r;have h8:Jk E s.ai s.eval o=some (.none, .aO ⟨.slice τ,[]⟩,none):=by
   unfold Jk;rw[bh];simp only[hd,hT,hro];rfl
  unfold kH at hr;simp only[h1,List.foldl_nil,h6,h2,h3,h4',h7,h8,Vc.and,bh,Sq,hd,ti,h4] at hr;exact⟨τ,hr⟩
 .simp at ha
theorem Xm(hE:bl c.P c.E)(h:Inv c G s a w){a2:Act}{o:Oper}{d:Nat}(hn:uR o.op=true/\FW c.E o=true)(ha:oR c.E o=true)(hd:o.dst=some d) :
  ∃ w' x,(execOp a2.eval o).run c.P w = .ok (.value x) w'/\Inv c G s a w'/\(∃ p,x = .slice p 0 0)/\bX (λ _=>False) w w':=by
 obtain⟨hn,gV⟩:=hn;obtain⟨T,bh⟩:=K9 hn;unfold oR at ha;simp only[bh,hd,gV] at ha;split at ha
 .rename_i d' τ r DW hT;obtain⟨r1,r2⟩:=r;obtain⟨k1,_,inf,z,k2,k3,k4,k5,k6⟩:=hE.slice hT;refine⟨w.alloc (.cells #[] r2), .slice (some ⟨w.heap.size,0,none⟩) 0 0,?_,h.alloc _,⟨_,rfl⟩,fw w _⟩;have hz:(Array.range 0).map (λ _=>(default:Value)) = #[]:=by apply b7X;simp
  simp[execOp,bh,Instr.buildSlice,b6F k1,sizeOf,typeInfo,k2,Instr.fill,newRow,hz]
 .simp at ha
theorem lK(E:Env){X:List (Nat×Oper)}{x:Nat×Oper}{t:Nat}(hx:x∈X)(ha:di E x.2=true)(hd:x.2.dst=some t):t∈rB E X :=
 b7T.2 ⟨x,hx,by simp[ha,hd]⟩
theorem Ur{E:Env}{bM:List Nat}{n:Nat}{R:List (Nat×Oper)}{K:aq->Prop}{s:aq}:ik E bM n R [] K s=K s:=by cases n<;>rfl
theorem Jc{E:Env}{bM:List Nat}{n:Nat}{R:List (Nat×Oper)}{x:Nat×Oper}{xs:List (Nat×Oper)}{K:aq->Prop}{s:aq}(h:ik E bM n R (x::xs) K s) :
  ∃ m,Wf E bM (x::xs) s=true/\(((fP (dstsOf (R.filter λ r => !Nat.testBit (bM.getD x.1 0) r.1)++rB E xs) x.2&&xs.all λ y=>di E y.2||Nat.testBit (bM.getD y.1 0) x.1)=true /\
    kH E x.2 (λ s'=>gK E (R.filter λ r => !Nat.testBit (bM.getD x.1 0) r.1) s' (ik E bM m (R.filter λ r => !Nat.testBit (bM.getD x.1 0) r.1) xs K s')) s) \/
   (di E x.2=false/\Ar (Qk E bM (x::xs)) (λ y=>match fP (dstsOf (R.filter λ r => !Nat.testBit (bM.getD y.1 0) r.1)++rB E ((x::xs).filter λ z => !Nat.beq z.1 y.1)) y.2 with
      | true=>kH E y.2 (λ s'=>gK E (R.filter λ r => !Nat.testBit (bM.getD y.1 0) r.1) s' (ik E bM m (R.filter λ r => !Nat.testBit (bM.getD y.1 0) r.1) ((x::xs).filter λ z => !Nat.beq z.1 y.1) K s')) s
      | false=>False) (x::xs))):=by
 cases n with
 | zero=>exact h.elim
 | succ n =>
  simp only[ik] at h;refine⟨n,?_⟩;split at h
  .rename_i h1;refine⟨h1,?_⟩;split at h
   .rename_i h2;exact .inl ⟨h2,h⟩
   .split at h
    .exact h.elim
    .rename_i h3;exact .inr ⟨h3,h⟩
  .exact h.elim
theorem RE{E:Env}{bM:List Nat}{n:Nat}{R:List (Nat×Oper)}{x:Nat×Oper}{xs:List (Nat×Oper)}{K:aq->Prop}{s:aq}(hz:di E x.2=true)(h:ik E bM n R (x::xs) K s) :
  ∃ m,kH E x.2 (λ s'=>gK E (R.filter λ r => !Nat.testBit (bM.getD x.1 0) r.1) s' (ik E bM m (R.filter λ r => !Nat.testBit (bM.getD x.1 0) r.1) xs K s')) s:=by
 obtain⟨m,_,h|h⟩:=Jc h
 .exact⟨m,h.2⟩
 .rw[hz] at h;cases h.1
theorem BQ{p:Nat×Oper->Bool}{f:Nat×Oper->Prop}:∀ {l:List (Nat×Oper)},Ar p f l->∀ y∈l,p y=true->f y
 | [],_,y,hy,_=>by cases hy
 | x::l,h,y,hy,hp=>by
  unfold Ar at h;split at h
  .rcases b5X.1 hy with rfl|hy
   .exact h.1
   .exact BQ h.2 y hy hp
  .rename_i h0;rcases b5X.1 hy with rfl|hy
   .rw[hp] at h0;cases h0
   .exact BQ h y hy hp
theorem a1T{a b:Nat}:Nat.beq a b=false↔a≠b:=by
 constructor
 .intro h e;subst e;rw[Nat.beq_refl] at h;cases h
 .intro h;cases hb:Nat.beq a b
  .rfl
  .exact absurd (b5G hb) h
theorem QE{x:Nat×Oper}{xs:List (Nat×Oper)}(h:x.1∉xs.map (·.1)):((x::xs).filter λ z => !Nat.beq z.1 x.1)=xs:=by
 rw[b9y,b5I (by simp)];refine List.filter_eq_self.2 λ z hz=>?_;have:z.1≠x.1:=λ e=>h (b5N.2 ⟨z,hz,e⟩);rw[a1T.2 this];rfl
theorem T7{i:Nat}{o:Oper}:∀ {X:List (Nat×Oper)},(i,o)∈X->(X.map (·.1)).Nodup->(X.filter λ z => !Nat.beq z.1 i).length+1=X.length
 | [],h,_=>by cases h
 | x::xs,h,hn=>by
  simp only[b6w,b6z] at hn;rcases b5X.1 h with e|h
  .subst e;rw[QE (x:=(i,o)) hn.1];rfl
  .have eu:x.1≠i:=λ e=>hn.1 (b5N.2 ⟨_,h,e.symm⟩);rw[b9y,b5Q (by rw[a1T.2 eu];rfl),b5S,b5S,T7 h hn.2]
theorem a0m{E:Env}{bM:List Nat}{n:Nat}{R X:List (Nat×Oper)}{y:Nat×Oper}{K:aq->Prop}{s:aq}(h:ik E bM n R X K s)(hy:y∈X)(c6:(X.map (·.1)).Nodup)(hc:Qk E bM X y=true)
  (hh:∀ x xs,X=x::xs->di E x.2=true->Nat.testBit (bM.getD y.1 0) x.1=false) :
  ∃ m,fP (dstsOf (R.filter λ r => !Nat.testBit (bM.getD y.1 0) r.1)++rB E (X.filter λ z => !Nat.beq z.1 y.1)) y.2=true /\
   kH E y.2 (λ s'=>gK E (R.filter λ r => !Nat.testBit (bM.getD y.1 0) r.1) s' (ik E bM m (R.filter λ r => !Nat.testBit (bM.getD y.1 0) r.1) (X.filter λ z => !Nat.beq z.1 y.1) K s')) s:=by
 match X,hy,c6,hc,hh,h with
 | x::xs,hy,c6,hc,hh,h =>
  obtain⟨m,_,h|h⟩:=Jc h
  .obtain⟨h1,h2⟩:=h;simp only[b5M,b6y,b7d] at h1;have e:y=x:=by
    rcases b5X.1 hy with e|hy
    .exact e
    .simp only[Qk,b5M,b6j,b6y,b7d] at hc;rcases h1.2 y hy with q|q
     .rw[hc.1] at q;cases q
     .rcases hc.2 x (by simp) with k|k
      .rw[hh x xs rfl k] at q;cases q
      .rw[k] at q;cases q
   subst e;simp only[b6w,b6z] at c6;rw[QE c6.1];exact⟨m,h1.1,h2⟩
  .have:=BQ h.2 y hy hc;split at this
   .rename_i hu;exact⟨m,hu,this⟩
   .exact this.elim
theorem Yk(
          hE:bl c.P c.E) {ops:Array Oper} {hi:Nat} {Seg:List (Nat×Oper)} (dF:backward ops.toList=true) (hhi:hi<=ops.size)
  (pb:∀ j o,hi<=j->ops.toList[j]?=some o->∀ k,k<hi->Nat.testBit ((bF ops.toList []).getD j 0) k=true)
  (a7W:∀ x∈Seg,x.2.guard=none) (Pz:∀ x∈Seg,oR c.E x.2=true) (a4H:∀ x∈Seg,jQ x.2.op=true->fP (dstsOf (Seg.filter λ y => !Nat.testBit ((bF ops.toList []).getD x.1 0) y.1)++rB c.E Seg) x.2=true) (a4E:∀ x∈Seg,∀ y∈Seg,∀ t,x.2.dst=some t->y.2.dst=some t->x.1=y.1) {K:aq->Prop} {Q':Exit->Act->World->Prop}
  (QW:∀ (fuel:Nat) (G:Gh) (s:aq) (a:Act) (w:World) (listed:Array Bool),ops.size=hi+fuel->listed.size=ops.size->(∀ k,k<ops.size->(listed.getD k false=true↔k<hi))->Inv c G s a w->K s->wpAny c.P .any ops Q' fuel listed a w) :
  ∀ (N fuel:Nat) (Rc X:List (Nat×Oper)) (R:List Nat) (PL:List PE) (SL:List XE) (G:Gh) (t:aq) (a b:Act) (w:World) (listed:Array Bool),fuel+X.length<=N->fuel+PL.length+SL.length=R.length+X.length+(ops.size - hi)->listed.size=ops.size ->
   (∀ i∈R,i<hi/\∃ o,ops.toList[i]?=some o/\(i,o)∈Rc/\(i,o)∈Seg/\my c.E (bF ops.toList []) Seg (i,o)=true/\fP (dstsOf (Seg.filter λ y => !Nat.testBit ((bF ops.toList []).getD i 0) y.1)) o=true)->(∀ x∈X,x.1<hi/\ops.toList[x.1]?=some x.2/\x∈Seg)->R.Nodup->(X.map (·.1)).Nodup->(∀ i∈R,∀ x∈X,i≠x.1) ->
   (PL.map PE.i++SL.map XE.i).Nodup->(PL.map PE.b).Nodup->(∀ p∈PL,Bv c G t.ai X a w p)->(∀ e∈SL,XOk c.E c.P X a e) ->
   (∀ k,k<ops.size->(listed.getD k false=true↔k<hi/\k∉R/\((∀ x∈X,x.1≠k)\/k∈PL.map PE.i++SL.map XE.i)))->(∀ k,k<ops.size->listed.getD k false=true->∀ o,ops.toList[k]?=some o->∀ e∈o.after.toList,Region.binds .any e=true->listed.getD e.on false=true) ->
   Inv c G t b w->mD (R.filterMap (ck ops.toList)++(PL.map PE.d++SL.map XE.d)) a b->(∀ i∈R,∀ o,ops.toList[i]?=some o->∃ d vc,o.dst=some d/\rop c.E t o=some (vc,t.aA.getD d .any)/\Vc.ok vc) ->
   ∀ n,ik c.E (bF ops.toList []) n Rc X K t->wpAny c.P .any ops Q' fuel listed a w:=by
 intro N;induction N with
 | zero =>
  intro fuel Rc X R PL SL G t a b w listed hN hf cr hR hX Mu KC Kz OI VJ mc mU hl xH hI hA hs nn hK;have h2:X=[]:=b6S (by omega);subst h2;have h3:PL=[]:=by
   cases PL with
   | nil=>rfl
   | cons p PL=>obtain⟨o,T,τ,r,hm,_⟩:=(mc p (by simp)).ex;cases hm
  subst h3;have h4:SL=[]:=by
   cases SL with
   | nil=>rfl
   | cons p SL=>have hm:=(mU p (by simp)).mem;cases hm
  subst h4;have h1:R=[]:=List.eq_nil_of_length_eq_zero (by simp at hf;omega);subst h1;have xG:a=b:=mD.eq (by simpa using hA);subst xG;exact QW fuel G t a w listed (by simp at hf;omega) cr (λ k hk=>by rw[hl k hk];simp) hI (by rw[Ur] at hK;exact hK)
 | succ N ih =>
  intro fuel Rc X R PL SL G t a b w listed hN hf cr hR hX Mu KC Kz OI VJ mc mU hl xH hI hA hs nn hK;by_cases IT:R=[]/\X=[]
  .obtain⟨rfl,rfl⟩:=IT;have h3:PL=[]:=by
    cases PL with
    | nil=>rfl
    | cons p PL=>obtain⟨o,T,τ,r,hm,_⟩:=(mc p (by simp)).ex;cases hm
   subst h3;have h4:SL=[]:=by
    cases SL with
    | nil=>rfl
    | cons p SL=>have hm:=(mU p (by simp)).mem;cases hm
   subst h4;have xG:a=b:=mD.eq (by simpa using hA);subst xG;exact QW fuel G t a w listed (by simp at hf;omega) cr (λ k hk=>by rw[hl k hk];simp) hI (by rw[Ur] at hK;exact hK)
  have Z1:∀ i o,i<ops.size->ops.toList[i]?=some o->listed.getD i false=true->∀ k,Nat.testBit ((bF ops.toList []).getD i 0) k=true->listed.getD k false=true/\k<ops.size:=λ i o hi ho hli k hk =>
   Ei (l:=ops.toList) (D:=λ k=>listed.getD k false=true/\k<ops.size) (λ k hk o' cI e he hb=>⟨xH k hk.2 hk.1 o' cI e he hb,by
    have:=bL dF k o' cI e he hb;have:=hk.2;omega⟩) i o ho (λ e he hb=>⟨xH i hi hli o ho e he hb,by
    have:=bL dF i o ho e he hb;omega⟩) k hk
  by_cases Py:∃ x0 xs p,X=x0::xs/\p∈PL/\p.i=x0.1
  .obtain⟨x0,xs,p,rfl,hp,hpi⟩:=Py;obtain⟨o,T,τ,r,hm,bh,IY,hT,jt⟩:=(mc p hp).ex;have hx0:x0=(p.i,o):=by
    have h1:=(hX x0 (by simp)).2.1;have h2:=(hX _ hm).2.1;rw[<-hpi,h2] at h1;simp only[b5E] at h1;rw[h1,hpi]
   subst hx0;obtain⟨mm,hK⟩:=RE (by simp[di,nf,bh]) hK;rw[WB bh IY hT,<-jt] at hK;obtain⟨k1,k2⟩:=kl hK.2;have QQ:=hX _ hm;have hlp:listed.getD p.i false=true:=(hl p.i (by have:=QQ.1;simp only at this;omega)).2 ⟨QQ.1,λ q=>Kz _ q _ hm rfl, .inr (b5F.2 (.inl (b5N.2 ⟨p,hp,rfl⟩)))⟩;have fv:∀ j∈R,∃ o',ops.toList[j]?=some o'/\(j,o')∈Rc.filter λ r => !Nat.testBit ((bF ops.toList []).getD p.i 0) r.1:=λ j hj=>by
    obtain⟨q1,o',q2,q3,_,_⟩:=hR j hj;refine⟨o',q2,b7b.2 ⟨q3,?_⟩⟩;simp only[b6j];cases hb:Nat.testBit ((bF ops.toList []).getD p.i 0) j with
    | false=>rfl
    | true=>exact absurd hj ((hl j (by omega)).1 (Z1 p.i o (by have:=QQ.1;simp only at this;omega) QQ.2.1 hlp j hb).1).2.1
   have a4K:∀ q∈PL.erase p,q∈PL/\q.i≠p.i/\q.b≠p.b:=λ q hq=>by
    have a1J:=b7r hq;have Mz:=b9T hp;have n1:=(Mz.map PE.i).nodup_iff.1 (b6l.1 OI).1;have n2:=(Mz.map PE.b).nodup_iff.1 VJ;simp only[b6w,b6z] at n1 n2;exact⟨a1J,λ e=>n1.1 (b5N.2 ⟨q,hq,e⟩),λ e=>n2.1 (b5N.2 ⟨q,hq,e⟩)⟩
   have b1s:(PL.erase p).length+1=PL.length:=by
    have:=b7Y hp;have:=b8c hp;omega
   simp only[b6w,b6z] at KC;refine ih fuel _ xs R (PL.erase p) SL _ _ a (b.put (some p.d) p.x) w listed (by simp at hN;omega) (by simp at hf;omega) cr (λ j hj=>?_) (λ y hy=>hX y (by simp[hy])) Mu KC.2 (λ j hj y hy=>Kz j hj y (by simp[hy])) ?_ ?_ (λ q hq=>?_) (λ e he=>?_) (λ k hk=>?_) xH (Zm hI (mc p hp)) ?_ (λ j hj o' cI=>?_) _ k2
   .obtain⟨q1,o',q2,q3,q4,q7⟩:=hR j hj;obtain⟨o2,q5,q6⟩:=fv j hj;have e:o'=o2:=by rw[q2] at q5;simpa using q5
    subst e;exact⟨q1,o',q2,q6,q4,q7⟩
   .exact OI.sublist ((b8C _ b9b).append (List.Sublist.refl _))
   .exact VJ.sublist (b8C _ b9b)
   .obtain⟨DY,E1,hq3⟩:=a4K q hq;obtain⟨o2,T2,j0,r2,m1,m2,m3,m4,m5⟩:=(mc q DY).ex;refine⟨⟨o2,T2,j0,r2,?_,m2,m3,m4,m5⟩,(mc q DY).val,(mc q DY).ptr,(mc q DY).lt,(mc q DY).new,Zl (mc p hp) (mc q DY).fr hq3⟩;rcases b5X.1 m1 with e|m1
    .simp only[b5H] at e;exact absurd e.1 E1
    .exact m1
   .have h3:=mU e he;refine⟨?_,h3.dst,h3.val,h3.run⟩;rcases b5X.1 h3.mem with q|q
    .simp only[b5H] at q;rcases h3.run with ⟨q',_⟩|⟨⟨q',_⟩,_⟩<;>(rw[q.2,bh] at q';cases q')
    .exact q
   .rw[hl k hk];constructor
    .rintro⟨q1,q2,q3⟩;refine⟨q1,q2,?_⟩;by_cases zj:k=p.i
     .subst zj;exact .inl λ y hy e=>KC.1 (b5N.2 ⟨y,hy,e⟩)
     .rcases q3 with q3|q3
      .exact .inl λ y hy=>q3 y (by simp[hy])
      .rcases b5F.1 q3 with q3|q3
       .obtain⟨q,hq,rfl⟩:=b5N.1 q3;exact .inr (b5F.2 (.inl (b5N.2 ⟨q,(b8f (λ e=>zj (by rw[e]))).2 hq,rfl⟩)))
       .exact .inr (b5F.2 (.inr q3))
    .rintro⟨q1,q2,q3⟩;refine⟨q1,q2,?_⟩;by_cases zj:k=p.i
     .subst zj;exact .inr (b5F.2 (.inl (b5N.2 ⟨p,hp,rfl⟩)))
     .rcases q3 with q3|q3
      .refine .inl λ y hy=>?_;rcases b5X.1 hy with rfl|hy
       .exact λ e=>zj e.symm
       .exact q3 y hy
      .rcases b5F.1 q3 with q3|q3
       .obtain⟨q,hq,rfl⟩:=b5N.1 q3;exact .inr (b5F.2 (.inl (b5N.2 ⟨q,b7r hq,rfl⟩)))
       .exact .inr (b5F.2 (.inr q3))
   .refine⟨by rw[gw];exact hA.size,hA.da,by rw[jw];exact hA.db,λ u hu=>?_⟩;by_cases hud:u=p.d
    .subst hud;rw[(mc p hp).val,eh,<-hA.size];by_cases bp:p.d<a.tmps.size
     .rw[b5Q bp,b5Q ⟨rfl,bp⟩]
     .rw[b5I bp,b5I (λ q=>bp q.2),b6D,b7i (by rw[<-hA.size];omega)];rfl
    .rw[eh,if_neg (λ q=>hud (by simpa using q.1.symm))];refine hA.at' u λ hm=>hu ?_;rcases List.mem_append.1 hm with hm|hm
     .exact b5F.2 (.inl hm)
     .rcases b5F.1 hm with hm|hm
      .obtain⟨q,hq,rfl⟩:=b5N.1 hm;exact b5F.2 (.inr (b5F.2 (.inl (b5N.2 ⟨q,(b8f (λ e=>hud (by rw[e]))).2 hq,rfl⟩))))
      .exact b5F.2 (.inr (b5F.2 (.inr hm)))
   .obtain⟨o2,q5,q6⟩:=fv j hj;rw[q5] at cI;simp only[b5E] at cI;subst cI;exact k1 (j,o2) q6
  by_cases KD:∃ x0 xs e,X=x0::xs/\e∈SL/\e.i=x0.1
  .obtain⟨x0,xs,e,rfl,he,hei⟩:=KD;have VI:=mU e he;have hx0:x0=(e.i,e.o):=by
    have h1:=(hX x0 (by simp)).2.1;have h2:=(hX _ VI.mem).2.1;rw[<-hei,h2] at h1;simp only[b5E] at h1;rw[h1,hei]
   subst hx0;obtain⟨mm,hK⟩:=RE VI.lz hK;have QQ:=hX _ VI.mem;have hlp:listed.getD e.i false=true:=(hl e.i (by have:=QQ.1;simp only at this;omega)).2 ⟨QQ.1,λ q=>Kz _ q _ VI.mem rfl, .inr (b5F.2 (.inr (b5N.2 ⟨e,he,rfl⟩)))⟩;have a4D:=Z1 e.i e.o (by have:=QQ.1;simp only at this;omega) QQ.2.1 hlp;have fv:∀ j∈R,∃ o',ops.toList[j]?=some o'/\(j,o')∈Rc.filter λ r => !Nat.testBit ((bF ops.toList []).getD e.i 0) r.1:=λ j hj=>by
    obtain⟨q1,o',q2,q3,_,_⟩:=hR j hj;refine⟨o',q2,b7b.2 ⟨q3,?_⟩⟩;simp only[b6j];cases hb:Nat.testBit ((bF ops.toList []).getD e.i 0) j with
    | false=>rfl
    | true=>exact absurd hj ((hl j (by omega)).1 (a4D j hb).1).2.1
   have hDu:∀ u,u∈R.filterMap (ck ops.toList)++(PL.map PE.d++SL.map XE.d)->u∈dstsOf (Seg.filter λ y => !Nat.testBit ((bF ops.toList []).getD e.i 0) y.1)++rB c.E Seg:=λ u hu=>by
    rcases b5F.1 hu with hu|hu
    .obtain⟨j,hj,DX⟩:=List.mem_filterMap.1 hu;obtain⟨q1,o',q2,_,q3,_⟩:=hR j hj;refine List.mem_append.2 (.inl (gp.2 ⟨(j,o'),List.mem_filter.2 ⟨q3,?_⟩,by simpa [ck,q2] using DX⟩));simp only[Bool.not_eq_true'];cases hb:Nat.testBit ((bF ops.toList []).getD e.i 0) j with
     | false=>rfl
     | true=>exact absurd hj ((hl j (by omega)).1 (a4D j hb).1).2.1
    .rcases b5F.1 hu with hu|hu
     .obtain⟨p,hp,rfl⟩:=b5N.1 hu;obtain⟨o2,T,τ,r,hm,Q1,IY,_⟩:=(mc p hp).ex;exact b5F.2 (.inr (lK c.E (hX _ hm).2.2 (by simp[di,nf,Q1]) IY))
     .obtain⟨q,hq,rfl⟩:=b5N.1 hu;exact b5F.2 (.inr (lK c.E (hX _ (mU q hq).mem).2.2 (mU q hq).lz (mU q hq).dst))
   obtain⟨v,S2,hK⟩:∃ v,VR c G t.ai w v e.x/\gK c.E (Rc.filter λ r => !Nat.testBit ((bF ops.toList []).getD e.i 0) r.1) (t.put (some e.d) v) (ik c.E (bF ops.toList []) mm (Rc.filter λ r => !Nat.testBit ((bF ops.toList []).getD e.i 0) r.1) xs K (t.put (some e.d) v)):=by
    rcases VI.run with ⟨hx,hr⟩|⟨hx,p,hp⟩
    .obtain⟨tt,ix,bh⟩:∃ tt ix,e.o.op = .extract tt ix:=by
      have:=hx;unfold jQ at this;split at this
      .exact⟨_,_,by assumption⟩
      .cases this
     obtain⟨vs,v,hv1,hv2,hK⟩:=R4 bh VI.dst hK;have cJ:=hr w;rw[hA.exec (mz (a4H _ QQ.2.2 hx) hDu)] at cJ;have S2:=Vz hI bh hv1 hv2 cJ;exact⟨v,S2,Gm S2 hK⟩
    .obtain⟨τ,hK⟩:=YL hx (Pz _ QQ.2.2) VI.dst hK;refine⟨_,?_,hK⟩;rw[hp];exact⟨p,0,rfl,b6k _,by simp[maxLen],by simp, .inl rfl⟩
   obtain⟨k1,k2⟩:=kl hK;have a4K:∀ q∈SL.erase e,q∈SL/\q.i≠e.i:=λ q hq=>by
    have a1J:=b7r hq;have Mz:=b9T he;have n1:=(Mz.map XE.i).nodup_iff.1 (b6l.1 OI).2.1;simp only[b6w,b6z] at n1;exact⟨a1J,λ q'=>n1.1 (b5N.2 ⟨q,hq,q'⟩)⟩
   have b1s:(SL.erase e).length+1=SL.length:=by
    have:=b7Y he;have:=b8c he;omega
   simp only[b6w,b6z] at KC;refine ih fuel _ xs R PL (SL.erase e) _ _ a (b.put (some e.d) e.x) w listed (by simp at hN;omega) (by simp at hf;omega) cr (λ j hj=>?_) (λ y hy=>hX y (by simp[hy])) Mu KC.2 (λ j hj y hy=>Kz j hj y (by simp[hy])) ?_ VJ (λ q hq=>?_) (λ q hq=>?_) (λ k hk=>?_) xH (Inv.put (d:=some e.d) hI S2) ?_ (λ j hj o' cI=>?_) _ k2
   .obtain⟨q1,o',q2,q3,q4,q7⟩:=hR j hj;obtain⟨o2,q5,q6⟩:=fv j hj;have e:o'=o2:=by rw[q2] at q5;simpa using q5
    subst e;exact⟨q1,o',q2,q6,q4,q7⟩
   .exact OI.sublist ((List.Sublist.refl _).append (b8C _ b9b))
   .obtain⟨o2,T2,j0,r2,m1,m2,m3,m4,m5⟩:=(mc q hq).ex;refine⟨⟨o2,T2,j0,r2,?_,m2,m3,m4,m5⟩,(mc q hq).val,(mc q hq).ptr,(mc q hq).lt,(mc q hq).new,(mc q hq).fr⟩;rcases b5X.1 m1 with e'|m1
    .simp only[b5H] at e';rcases VI.run with ⟨q',_⟩|⟨⟨q',_⟩,_⟩<;>(rw[<-e'.2,m2] at q';cases q')
    .exact m1
   .obtain⟨DY,E1⟩:=a4K q hq;have h3:=mU q DY;refine⟨?_,h3.dst,h3.val,h3.run⟩;rcases b5X.1 h3.mem with e'|e'
    .simp only[b5H] at e';exact absurd e'.1 E1
    .exact e'
   .rw[hl k hk];constructor
    .rintro⟨q1,q2,q3⟩;refine⟨q1,q2,?_⟩;by_cases zj:k=e.i
     .subst zj;exact .inl λ y hy e=>KC.1 (b5N.2 ⟨y,hy,e⟩)
     .rcases q3 with q3|q3
      .exact .inl λ y hy=>q3 y (by simp[hy])
      .rcases b5F.1 q3 with q3|q3
       .exact .inr (b5F.2 (.inl q3))
       .obtain⟨q,hq,rfl⟩:=b5N.1 q3;exact .inr (b5F.2 (.inr (b5N.2 ⟨q,(b8f (λ e=>zj (by rw[e]))).2 hq,rfl⟩)))
    .rintro⟨q1,q2,q3⟩;refine⟨q1,q2,?_⟩;by_cases zj:k=e.i
     .subst zj;exact .inr (b5F.2 (.inr (b5N.2 ⟨e,he,rfl⟩)))
     .rcases q3 with q3|q3
      .refine .inl λ y hy=>?_;rcases b5X.1 hy with rfl|hy
       .exact λ e=>zj e.symm
       .exact q3 y hy
      .rcases b5F.1 q3 with q3|q3
       .exact .inr (b5F.2 (.inl q3))
       .obtain⟨q,hq,rfl⟩:=b5N.1 q3;exact .inr (b5F.2 (.inr (b5N.2 ⟨q,b7r hq,rfl⟩)))
   .refine⟨by rw[gw];exact hA.size,hA.da,by rw[jw];exact hA.db,λ u hu=>?_⟩;by_cases hud:u=e.d
    .subst hud;rw[VI.val,eh,<-hA.size];by_cases bp:e.d<a.tmps.size
     .rw[b5Q bp,b5Q ⟨rfl,bp⟩]
     .rw[b5I bp,b5I (λ q=>bp q.2),b6D,b7i (by rw[<-hA.size];omega)];rfl
    .rw[eh,if_neg (λ q=>hud (by simpa using q.1.symm))];refine hA.at' u λ hm=>hu ?_;rcases List.mem_append.1 hm with hm|hm
     .exact b5F.2 (.inl hm)
     .rcases b5F.1 hm with hm|hm
      .exact b5F.2 (.inr (b5F.2 (.inl hm)))
      .obtain⟨q,hq,rfl⟩:=b5N.1 hm;exact b5F.2 (.inr (b5F.2 (.inr (b5N.2 ⟨q,(b8f (λ e=>hud (by rw[e]))).2 hq,rfl⟩))))
   .obtain⟨o2,q5,q6⟩:=fv j hj;rw[q5] at cI;simp only[b5E] at cI;subst cI;exact k1 (j,o2) q6
  have a4C:∀ p∈PL,∃ x∈X,x.1=p.i:=λ p hp=>by
   obtain⟨o,T,τ,r,hm,_⟩:=(mc p hp).ex;exact⟨_,hm,rfl⟩
  have XC:∀ p∈SL,∃ x∈X,x.1=p.i:=λ p hp=>⟨_,(mU p hp).mem,rfl⟩;have hun:∃ k,k<hi/\¬ (listed.getD k false=true):=by
   rcases R with _|⟨i,R⟩
   .rcases X with _|⟨x,X⟩
    .exact absurd ⟨rfl,rfl⟩ IT
    .have:=(hX x (by simp)).1;refine⟨x.1,this,λ hh=>((hl x.1 (by omega)).1 hh).2.2.elim (λ q=>q x (by simp) rfl) λ q=>?_⟩;rcases b5F.1 q with q|q
     .obtain⟨p,hp,e⟩:=b5N.1 q;exact Py ⟨x,X,p,rfl,hp,e⟩
     .obtain⟨p,hp,e⟩:=b5N.1 q;exact KD ⟨x,X,p,rfl,hp,e⟩
   .have:=(hR i (by simp)).1;exact⟨i,this,λ hh=>((hl i (by omega)).1 hh).2.1 (by simp)⟩
  have E0:PL.length+SL.length<R.length+X.length:=by
   rcases R with _|⟨i,R⟩
   .rcases X with _|⟨x,X⟩
    .exact absurd ⟨rfl,rfl⟩ IT
    .have yb:(PL.map PE.i++SL.map XE.i) ⊆ X.map (·.1):=λ k hk=>by
      rcases b5F.1 hk with hk|hk
      .obtain⟨p,hp,rfl⟩:=b5N.1 hk;obtain⟨y,hy,e⟩:=a4C p hp;rcases b5X.1 hy with rfl|hy
       .exact absurd ⟨_,_,p,rfl,hp,e.symm⟩ Py
       .exact b5N.2 ⟨y,hy,e⟩
      .obtain⟨p,hp,rfl⟩:=b5N.1 hk;obtain⟨y,hy,e⟩:=XC p hp;rcases b5X.1 hy with rfl|hy
       .exact absurd ⟨_,_,p,rfl,hp,e.symm⟩ KD
       .exact b5N.2 ⟨y,hy,e⟩
     have:=b8p OI yb;simp at this ⊢;omega
   .have yb:(PL.map PE.i++SL.map XE.i) ⊆ X.map (·.1):=λ k hk=>by
     rcases b5F.1 hk with hk|hk
     .obtain⟨p,hp,rfl⟩:=b5N.1 hk;obtain⟨y,hy,e⟩:=a4C p hp;exact b5N.2 ⟨y,hy,e⟩
     .obtain⟨p,hp,rfl⟩:=b5N.1 hk;obtain⟨y,hy,e⟩:=XC p hp;exact b5N.2 ⟨y,hy,e⟩
    have:=b8p OI yb;simp at this ⊢;omega
  obtain⟨fuel,rfl⟩:∃ f,fuel=f+1:=⟨fuel - 1,by omega⟩;obtain⟨k1,IW⟩:=hun;obtain⟨k0,⟨a1H,sa⟩,XP⟩:=exists_least (p:=λ k=>k<hi/\¬ (listed.getD k false=true)) k1 IW;have XK:ops[k0]?=some (ops[k0]'(by omega)):=b6O (by omega);constructor
  .intro p9;have:k0∈Region.ready .any ops listed:=(mem_ready cr).2 ⟨_,XK,by
    cases hb:listed.getD k0 false with
    | false=>rfl
    | true=>exact absurd hb sa,λ e he hb=>by
    have bp:=bL dF k0 ops[k0] (by simp) e he hb;exact b8I λ hh=>XP e.on bp ⟨by omega,hh⟩⟩
   rw[p9] at this;cases this
  .intro i kg;obtain⟨o,cq,h1,h2⟩:=(mem_ready cr).1 kg;have HA:=(Array.getElem?_eq_some_iff.1 cq).1;have ez:ops.toList[i]?=some o:=by simpa using cq
   have C8:=Ei (l:=ops.toList) (D:=λ k=>listed.getD k false=true/\k<ops.size) (λ k hk o' cI e he hb=>⟨xH k hk.2 hk.1 o' cI e he hb,by
    have:=bL dF k o' cI e he hb;have:=hk.2;omega⟩) i o ez (λ e he hb=>⟨h2 e he hb,by
    have:=bL dF i o ez e he hb;omega⟩)
   have rZ:i<hi:=by
    rcases b6E i hi with h|h
    .exact h
    .exact absurd (C8 k0 (pb i o h ez k0 a1H)).1 sa
   have Da:∀ k,(listed.setIfInBounds i true).getD k false=true↔listed.getD k false=true\/k=i:=λ k=>sB (by omega);have XH:∀ k,k<ops.size->(listed.setIfInBounds i true).getD k false=true->∀ o,ops.toList[k]?=some o->∀ e∈o.after.toList,Region.binds .any e=true->(listed.setIfInBounds i true).getD e.on false=true:=by
    intro k hk OM o' cI e he hb;rw[Da] at OM ⊢;rcases OM with OM|rfl
    .exact .inl (xH k hk OM o' cI e he hb)
    .rw[ez] at cI;simp only[b5E] at cI;subst cI;exact .inl (h2 e he hb)
   have a4M:¬ (listed.getD i false=true):=by rw[h1];simp
   have a1M:=a4M;rw[hl i HA] at a1M;have hXi:i∉R->∃ x∈X,x.1=i:=λ IU=>b8I λ hh=>a1M ⟨rZ,IU, .inl λ x hx e=>hh ⟨x,hx,e⟩⟩;have Ue:∀ p∈PL,p.i≠i:=λ p hp e=>by
    obtain⟨x,hx,hxe⟩:=a4C p hp;exact a1M ⟨rZ,λ q=>Kz i q x hx (by rw[hxe,e]), .inr (b5F.2 (.inl (b5N.2 ⟨p,hp,e⟩)))⟩
   have Uf:∀ p∈SL,p.i≠i:=λ p hp e=>by
    obtain⟨x,hx,hxe⟩:=XC p hp;exact a1M ⟨rZ,λ q=>Kz i q x hx (by rw[hxe,e]), .inr (b5F.2 (.inr (b5N.2 ⟨p,hp,e⟩)))⟩
   have KA:(i,o)∈Seg:=by
    by_cases IU:i∈R
    .obtain⟨_,o',cI,_,hm,_⟩:=hR i IU;rw[ez] at cI;simp only[b5E] at cI;subst cI;exact hm
    .obtain⟨x,hx,Ra⟩:=hXi IU;have:=(hX x hx).2.1;rw[Ra,ez] at this;simp only[b5E] at this;have e:x=(i,o):=by rw[<-Ra,this]
     rw[<-e];exact (hX x hx).2.2
   have hg:o.guard=none:=a7W _ KA;have hPd:∀ p∈PL,o.dst≠some p.d:=λ p hp e=>by
    obtain⟨o2,T,τ,r,hm,bh,IY,_⟩:=(mc p hp).ex;have hsg:=(hX _ hm).2.2;exact Ue p hp (a4E _ hsg _ KA p.d IY e)
   have hSd:∀ p∈SL,o.dst≠some p.d:=λ p hp e=>Uf p hp (a4E _ (hX _ (mU p hp).mem).2.2 _ KA p.d (mU p hp).dst e);have hSu:∀ p∈SL,∀ t,o.dst=some t->fP [t] p.o=true:=λ p hp t ht=>by
    have hm:=hX _ (mU p hp).mem;have hlp:listed.getD p.i false=true:=(hl p.i (by have:=hm.1;simp only at this;omega)).2 ⟨hm.1,λ q=>Kz _ q _ (mU p hp).mem rfl, .inr (b5F.2 (.inr (b5N.2 ⟨p,hp,rfl⟩)))⟩;rcases (mU p hp).run with ⟨hex,_⟩|⟨Cc,_⟩;rotate_left
    .exact a0Y Cc.1 _
    refine mz (a4H _ hm.2.2 hex) λ u hu=>?_;simp only[b5Z] at hu;subst hu;refine b5F.2 (.inl (gp.2 ⟨_,b7b.2 ⟨KA,?_⟩,ht⟩));simp only[b6j];cases hb:Nat.testBit ((bF ops.toList []).getD p.i 0) i with
    | false=>rfl
    | true=>exact absurd (Z1 p.i p.o (by have:=hm.1;simp only at this;omega) hm.2.1 hlp i hb).1 a4M
   have hw:Region.wanted o (yielded ops a.tmps)=true:=by simp[Region.wanted,hg]
   unfold wpOp;simp only[cq];rw[if_pos hw];refine .inl ?_;by_cases IU:i∈R
   ·
    obtain⟨_,o',cI,a1J,_,gV,hu⟩:=hR i IU;rw[ez] at cI;simp only[b5E] at cI;subst cI;obtain⟨d,vc,hd,hr,eb⟩:=hs i IU o ez;obtain⟨x,hx,hvx⟩:=R1 hE hI hr eb;have hu:fP (R.filterMap (ck ops.toList)++(PL.map PE.d++SL.map XE.d)) o=true:=mz hu λ t ht=>by
     rcases b5F.1 ht with ht|ht
     .obtain⟨j,hj,DX⟩:=List.mem_filterMap.1 ht;obtain⟨q1,o',q2,_,q3,_⟩:=hR j hj;refine gp.2 ⟨(j,o'),List.mem_filter.2 ⟨q3,?_⟩,by simpa [ck,q2] using DX⟩;simp only[Bool.not_eq_true'];cases hb:Nat.testBit ((bF ops.toList []).getD i 0) j with
      | false=>rfl
      | true=>exact absurd hj ((hl j (by omega)).1 (C8 j hb).1).2.1
     .obtain⟨zi,zo,hm,XO,IY⟩:∃ zi zo,(zi,zo)∈X/\di c.E zo=true/\zo.dst=some t:=by
       rcases b5F.1 ht with ht|ht
       .obtain⟨p,hp,rfl⟩:=b5N.1 ht;obtain⟨o2,T,τ,r,hm,bh,IY,_⟩:=(mc p hp).ex;exact⟨_,o2,hm,by simp[di,nf,bh],IY⟩
       .obtain⟨p,hp,rfl⟩:=b5N.1 ht;exact⟨_,p.o,(mU p hp).mem,(mU p hp).lz,(mU p hp).dst⟩
      have hsg:=(hX _ hm).2.2;by_cases hb:Nat.testBit ((bF ops.toList []).getD i 0) zi=true
      .simp only[my,b5M,b6y,b7d,b6j] at gV;rcases gV.2 _ hsg with q|q
       .rw[DF (Th q)] at XO;cases XO
       .rw[hb] at q;cases q
      .exact gp.2 ⟨_,List.mem_filter.2 ⟨hsg,by simpa using hb⟩,IY⟩
    unfold Oper.wp;rw[hA.exec hu,hx];show wpAny c.P .any ops Q' fuel _ (a.put o.dst x) w;have SV:(R.erase i).length+1=R.length:=by
     have:=b7Y IU;have:=b8c IU;omega
    have yb:∀ t,t∈(R.erase i).filterMap (ck ops.toList)->t∈R.filterMap (ck ops.toList):=λ t ht=>by
     obtain⟨q,hq,hqd⟩:=b7T.1 ht;exact b7T.2 ⟨q,b7r hq,hqd⟩
    refine ih fuel Rc X (R.erase i) PL SL G t (a.put o.dst x) (b.put o.dst x) w _ (by omega) (by omega) (by rw[b7j];exact cr) (λ j hj=>?_) hX (Mu.erase i) KC (λ j hj=>Kz j (b7r hj)) OI VJ (λ p hp=>(mc p hp).put (hPd p hp)) (λ e he=>(mU e he).put hA.da (hSd e he) (hSu e he)) (λ k hk=>?_) XH (by rw[hd];exact a3j hI hvx) (hA.put λ q hq XS=>?_) (λ j hj=>hs j (b7r hj)) _ hK
    .exact hR j (b7r hj)
    .rw[Da,hl k hk,Mu.mem_erase_iff];constructor
     .rintro (⟨q1,q2,q3⟩|rfl)
      .exact⟨q1,λ q=>q2 q.2,q3⟩
      .exact⟨rZ,λ q=>q.1 rfl, .inl λ x hx=>(Kz _ IU x hx).symm⟩
     .rintro⟨q1,q2,q3⟩;by_cases KI:k=i
      .exact .inr KI
      .exact .inl ⟨q1,λ q=>q2 ⟨KI,q⟩,q3⟩
    .rcases b5F.1 hq with hq|hq
     .obtain⟨j,hj,DX⟩:=b7T.1 hq;by_cases tN:j=i
      .subst tN;rw[<-DX];simp[ck,ez]
      .exact absurd (b5F.2 (.inl (b7T.2 ⟨j,Mu.mem_erase_iff.2 ⟨tN,hj⟩,DX⟩))) XS
     .exact absurd (b5F.2 (.inr hq)) XS
   .obtain⟨x,hx,Ra⟩:=hXi IU;have hxo:x=(i,o):=by
     have:=(hX x hx).2.1;rw[Ra,ez] at this;simp only[b5E] at this;rw[<-Ra,this]
    subst hxo;have hZ:∀ b,(∃ p∈PL,p.b=b)->uM c G t.ai w b:=λ b ⟨p,hp,e⟩=>e ▸ (mc p hp).fr;by_cases hal:nf o.op=true
    ·
     have OK:=Pz _ KA;obtain⟨T,bh⟩:∃ T,o.op = .alloc T:=by
      unfold nf at hal;split at hal
      .exact⟨_,by assumption⟩
      .cases hal
     unfold oR at OK;simp only[bh,Bool.and_eq_true,Option.isSome_iff_exists] at OK;obtain⟨⟨d,hd⟩,IS,⟨⟨τ,r⟩,hT⟩⟩:=OK;simp only[hd,ti,Nat.blt_eq] at IS;obtain⟨w',p,hpi,hpd,hpb,cJ,xF,hpo,zj⟩:=Vu hE hI (a2:=a) bh hd hT IS hx;unfold Oper.wp;rw[cJ];show wpAny c.P .any ops Q' fuel _ (a.put o.dst p.x) w';rw[hd];refine ih fuel Rc X R (p::PL) SL G t (a.put (some d) p.x) b w' _ (by omega) (by simp;omega) (by rw[Array.size_setIfInBounds];exact cr) hR hX Mu KC Kz ?_ ?_ (λ q hq=>?_) (λ e he=>(mU e he).put hA.da (by rw[<-hd];exact hSd e he) (by rw[<-hd];exact hSu e he)) (λ k hk=>?_) XH xF ?_ hs _ hK
     .simp only[b6w,b6x,b6z];refine⟨λ hm=>?_,OI⟩;rcases b5F.1 hm with hm|hm
      .obtain⟨q,hq,e⟩:=b5N.1 hm;exact Ue q hq (by rw[e,hpi])
      .obtain⟨q,hq,e⟩:=b5N.1 hm;exact Uf q hq (by rw[e,hpi])
     .simp only[b6w,b6z];refine⟨λ hm=>?_,VJ⟩;obtain⟨q,hq,e⟩:=b5N.1 hm;have:=(mc q hq).fr.2.2.1;rw[e,hpb] at this;exact b8n _ this
     .rcases b5X.1 hq with rfl|hq
      .exact hpo
      .have h3:=(mc q hq).put (d:=some d) (x:=p.x) (by rw[<-hd];exact hPd q hq);have bp:=h3.fr.2.2.1;refine⟨h3.ex,h3.val,h3.ptr,h3.lt,?_,h3.fr.grow zj.size⟩;obtain⟨l,ty,q1,q2⟩:=h3.new;exact⟨l,ty,by rw[zj.block q.b bp (λ h=>h)];exact q1,q2⟩
     .rw[Da,hl k hk,b6w,b6x,b5X,hpi];constructor
      .rintro (⟨q1,q2,q3⟩|rfl)
       .exact⟨q1,q2,q3.imp id .inr⟩
       .exact⟨rZ,IU, .inr (.inl rfl)⟩
      .rintro⟨q1,q2,q3⟩;by_cases KI:k=i
       .exact .inr KI
       .exact .inl ⟨q1,q2,q3.imp id λ q=>q.resolve_left KI⟩
     .refine⟨by rw[gw];exact hA.size,by rw[jw];exact hA.da,hA.db,λ u hu=>?_⟩;simp only[List.map_cons,List.cons_append,List.mem_append,List.mem_cons,hpd] at hu;rw[eh,if_neg (λ q=>hu (.inr (.inl (by simpa using q.1.symm))))];exact hA.at' u λ hm=>hu ((List.mem_append.1 hm).imp id λ q => .inr (List.mem_append.1 q))
    by_cases hex:jQ o.op=true
    ·
     obtain⟨tt,ix,bh⟩:∃ tt ix,o.op = .extract tt ix:=by
      have:=hex;unfold jQ at this;split at this
      .exact⟨_,_,by assumption⟩
      .cases this
     have b3J:xY t o.op=true:=by
      obtain⟨x0,xs,rfl⟩:∃ x0 xs,X=x0::xs:=by
       cases X with
       | nil=>cases hx
       | cons x0 xs=>exact⟨x0,xs,rfl⟩
      obtain⟨_,h3,_⟩:=Jc hK;unfold Wf at h3;rw[List.all_eq_true] at h3;have h4:=h3 _ hx;rw[Bool.or_eq_true] at h4;rcases h4 with h4|h4
      .exact h4
      .rw[b9z] at h4;obtain⟨y,hy,h4⟩:=h4;rw[b5M,b6j] at h4;have h5:=(C8 y.1 h4.2).1;have h6:=(hX y hy).1;rcases ((hl y.1 (by omega)).1 h5).2.2 with h7|h7
       .exact absurd rfl (h7 y hy)
       .have hyl:di c.E y.2=true:=by
         have e0:=(hX y hy).2.1;rcases b5F.1 h7 with h7|h7
         .obtain⟨p,hp,e⟩:=b5N.1 h7;obtain⟨o2,T,τ,r,hm,Q1,IY,_⟩:=(mc p hp).ex;have e1:=(hX _ hm).2.1;simp only at e1;rw[e,e0] at e1;simp only[b5E] at e1;rw[e1];simp[di,nf,Q1]
         .obtain⟨p,hp,e⟩:=b5N.1 h7;have e1:=(hX _ (mU p hp).mem).2.1;simp only at e1;rw[e,e0] at e1;simp only[b5E] at e1;rw[e1];simp[(mU p hp).lz]
        rw[hyl] at h4;exact absurd h4.1 (by simp)
     obtain⟨x,cJ⟩:=Vy hI bh b3J;have OK:=a4H _ KA hex;obtain⟨d,hd⟩:∃ d,o.dst=some d:=by
      have:=Pz _ KA;simp only[oR,bh,b9A] at this;exact this
     have hDu:∀ u,u∈R.filterMap (ck ops.toList)++(PL.map PE.d++SL.map XE.d)->u∈dstsOf (Seg.filter λ y => !Nat.testBit ((bF ops.toList []).getD i 0) y.1)++rB c.E Seg:=λ u hu=>by
      rcases b5F.1 hu with hu|hu
      .obtain⟨j,hj,DX⟩:=List.mem_filterMap.1 hu;obtain⟨q1,o',q2,_,q3,_⟩:=hR j hj;refine List.mem_append.2 (.inl (gp.2 ⟨(j,o'),List.mem_filter.2 ⟨q3,?_⟩,by simpa [ck,q2] using DX⟩));simp only[Bool.not_eq_true'];cases hb:Nat.testBit ((bF ops.toList []).getD i 0) j with
       | false=>rfl
       | true=>exact absurd hj ((hl j (by omega)).1 (C8 j hb).1).2.1
      .rcases b5F.1 hu with hu|hu
       .obtain⟨p,hp,rfl⟩:=b5N.1 hu;obtain⟨o2,T,τ,r,hm,Q1,IY,_⟩:=(mc p hp).ex;exact b5F.2 (.inr (lK c.E (hX _ hm).2.2 (by simp[di,nf,Q1]) IY))
       .obtain⟨q,hq,rfl⟩:=b5N.1 hu;exact b5F.2 (.inr (lK c.E (hX _ (mU q hq).mem).2.2 (mU q hq).lz (mU q hq).dst))
     have a4O:∀ w',(execOp a.eval o).run c.P w' = .ok (.value x) w':=λ w'=>by
      rw[hA.exec (mz OK hDu)];exact cJ w'
     have b1t:fP [d] o=true:=mz OK λ u hu=>by
      simp only[b5Z] at hu;subst hu;exact b5F.2 (.inr (lK c.E KA (by simp[di,hex]) hd))
     unfold Oper.wp;rw[a4O w];show wpAny c.P .any ops Q' fuel _ (a.put o.dst x) w;rw[hd];refine ih fuel Rc X R PL (⟨i,d,x,o⟩::SL) G t (a.put (some d) x) b w _ (by omega) (by simp;omega) (by rw[Array.size_setIfInBounds];exact cr) hR hX Mu KC Kz ?_ VJ (λ q hq=>(mc q hq).put (by rw[<-hd];exact hPd q hq)) (λ e he=>?_) (λ k hk=>?_) XH hI ?_ hs _ hK
     .rw[b6w];refine (b9B.nodup_iff).2 (b6z.2 ⟨λ hm=>?_,OI⟩);rcases b5F.1 hm with hm|hm
      .obtain⟨q,hq,e⟩:=b5N.1 hm;exact Ue q hq e
      .obtain⟨q,hq,e⟩:=b5N.1 hm;exact Uf q hq e
     .rcases b5X.1 he with rfl|he
      .refine⟨hx,hd,?_, .inl ⟨hex,λ w'=>?_⟩⟩
       .simp only[eh,gw,b6t];split
        .rfl
        .rename_i bp;first|rfl|(rw[b6D,b7i (by omega)];rfl)
       .have hA':mD [d] (a.put (some d) x) a:=⟨gw a _ x,by rw[jw];exact hA.da,hA.da,λ u hu=>by rw[eh,if_neg (λ q=>hu (by simpa using q.1.symm))]⟩;show (execOp (a.put (some d) x).eval o).run c.P w'=_;rw[hA'.exec b1t];exact a4O w'
      .exact (mU e he).put hA.da (by rw[<-hd];exact hSd e he) (by rw[<-hd];exact hSu e he)
     .rw[Da,hl k hk,b6w];constructor
      .rintro (⟨q1,q2,q3⟩|rfl)
       .refine⟨q1,q2,q3.imp (λ q=>q) λ q=>?_⟩;rcases b5F.1 q with q|q
        .exact b5F.2 (.inl q)
        .exact b5F.2 (.inr (b6U _ q))
       .exact⟨rZ,IU, .inr (b5F.2 (.inr (b8e ..)))⟩
      .rintro⟨q1,q2,q3⟩;by_cases KI:k=i
       .exact .inr KI
       .refine .inl ⟨q1,q2,q3.imp (λ q=>q) λ q=>?_⟩;rcases b5F.1 q with q|q
        .exact b5F.2 (.inl q)
        .exact b5F.2 (.inr ((b5X.1 q).resolve_left KI))
     .refine⟨by rw[gw];exact hA.size,by rw[jw];exact hA.da,hA.db,λ u hu=>?_⟩;simp only[List.map_cons,List.mem_append,List.mem_cons] at hu;rw[eh,if_neg (λ q=>hu (.inr (.inr (.inl (by simpa using q.1.symm)))))];exact hA.at' u λ hm=>hu ((List.mem_append.1 hm).imp (λ q=>q) λ q=>(List.mem_append.1 q).imp (λ q=>q) .inr)
    by_cases Cc:uR o.op=true/\FW c.E o=true
    ·
     have OK:=Pz _ KA;obtain⟨d,hd⟩:∃ d,o.dst=some d:=by
      obtain⟨T,bh⟩:=K9 Cc.1;unfold oR at OK;rw[bh,Cc.2] at OK;cases hd:o.dst with
      | some d=>exact⟨d,rfl⟩
      | none=>rw[hd] at OK;simp at OK
     obtain⟨w',x,cJ,xF,V1,zj⟩:=Xm hE hI (a2:=a) Cc OK hd;unfold Oper.wp;rw[cJ];show wpAny c.P .any ops Q' fuel _ (a.put o.dst x) w';rw[hd];refine ih fuel Rc X R PL (⟨i,d,x,o⟩::SL) G t (a.put (some d) x) b w' _ (by omega) (by simp;omega) (by rw[Array.size_setIfInBounds];exact cr) hR hX Mu KC Kz ?_ VJ (λ q hq=>?_) (λ e he=>?_) (λ k hk=>?_) XH xF ?_ hs _ hK
     .rw[b6w];refine (b9B.nodup_iff).2 (b6z.2 ⟨λ hm=>?_,OI⟩);rcases b5F.1 hm with hm|hm
      .obtain⟨q,hq,e⟩:=b5N.1 hm;exact Ue q hq e
      .obtain⟨q,hq,e⟩:=b5N.1 hm;exact Uf q hq e
     .have h3:=(mc q hq).put (d:=some d) (x:=x) (by rw[<-hd];exact hPd q hq);have bp:=h3.fr.2.2.1;refine⟨h3.ex,h3.val,h3.ptr,h3.lt,?_,h3.fr.grow zj.size⟩;obtain⟨l,ty,q1,q2⟩:=h3.new;exact⟨l,ty,by rw[zj.block q.b bp (λ h=>h)];exact q1,q2⟩
     .rcases b5X.1 he with rfl|he
      .refine⟨hx,hd,?_, .inr ⟨Cc,V1⟩⟩;simp only[eh,gw,b6t];split
       .rfl
       .rename_i bp;first|rfl|(rw[b6D,b7i (by omega)];rfl)
      .exact (mU e he).put hA.da (by rw[<-hd];exact hSd e he) (by rw[<-hd];exact hSu e he)
     .rw[Da,hl k hk,b6w];constructor
      .rintro (⟨q1,q2,q3⟩|rfl)
       .refine⟨q1,q2,q3.imp (λ q=>q) λ q=>?_⟩;rcases b5F.1 q with q|q
        .exact b5F.2 (.inl q)
        .exact b5F.2 (.inr (b6U _ q))
       .exact⟨rZ,IU, .inr (b5F.2 (.inr (b8e ..)))⟩
      .rintro⟨q1,q2,q3⟩;by_cases KI:k=i
       .exact .inr KI
       .refine .inl ⟨q1,q2,q3.imp (λ q=>q) λ q=>?_⟩;rcases b5F.1 q with q|q
        .exact b5F.2 (.inl q)
        .exact b5F.2 (.inr ((b5X.1 q).resolve_left KI))
     .refine⟨by rw[gw];exact hA.size,by rw[jw];exact hA.da,hA.db,λ u hu=>?_⟩;simp only[List.map_cons,List.mem_append,List.mem_cons] at hu;rw[eh,if_neg (λ q=>hu (.inr (.inr (.inl (by simpa using q.1.symm)))))];exact hA.at' u λ hm=>hu ((List.mem_append.1 hm).imp (λ q=>q) λ q=>(List.mem_append.1 q).imp (λ q=>q) .inr)
    ·
     have b3X:di c.E o=false:=by
      simp only[di,Bool.or_eq_false_iff];exact⟨by simpa using hal,by simpa using hex,by
       cases q1:uR o.op
       .rfl
       .cases q2:FW c.E o
        .rfl
        .exact absurd ⟨q1,q2⟩ Cc⟩
     have XO:∀ z∈X,Nat.testBit ((bF ops.toList []).getD i 0) z.1=true->di c.E z.2=true/\z.1∈PL.map PE.i++SL.map XE.i:=λ z hz hb=>by
      have h3:=(C8 z.1 hb).1;have h4:=(hX z hz).1;rcases ((hl z.1 (by omega)).1 h3).2.2 with h5|h5
      .exact absurd rfl (h5 z hz)
      .refine⟨?_,h5⟩;have e0:=(hX z hz).2.1;rcases b5F.1 h5 with h7|h7
       .obtain⟨p,hp,e⟩:=b5N.1 h7;obtain⟨o2,T,τ,r,hm,Q1,IY,_⟩:=(mc p hp).ex;have e1:=(hX _ hm).2.1;simp only at e1;rw[e,e0] at e1;simp only[b5E] at e1;rw[e1];simp[di,nf,Q1]
       .obtain⟨p,hp,e⟩:=b5N.1 h7;have e1:=(hX _ (mU p hp).mem).2.1;simp only at e1;rw[e,e0] at e1;simp only[b5E] at e1;rw[e1];exact (mU p hp).lz
     obtain⟨mm,hu0,hK⟩:=a0m (y:=(i,o)) hK hx KC (by
      simp only[Qk,b3X,b5T,b7x,b6y,b7d,b6j];intro z hz;cases hb:Nat.testBit ((bF ops.toList []).getD i 0) z.1 with
      | false=>exact .inr rfl
      | true=>exact .inl (XO z hz hb).1) (λ x0 xs e hz=>by
      cases hb:Nat.testBit ((bF ops.toList []).getD i 0) x0.1 with
      | false=>rfl
      | true =>
       rcases b5F.1 (XO x0 (by rw[e];simp) hb).2 with h5|h5
       .obtain⟨p,hp,e'⟩:=b5N.1 h5;exact absurd ⟨x0,xs,p,e,hp,e'⟩ Py
       .obtain⟨p,hp,e'⟩:=b5N.1 h5;exact absurd ⟨x0,xs,p,e,hp,e'⟩ KD)
     have hxm:∀ z,z∈X->z.1≠i->z∈X.filter λ z => !Nat.beq z.1 i:=λ z hz eu=>List.mem_filter.2 ⟨hz,by rw[a1T.2 eu];rfl⟩;have a1O:∀ z,z∈(X.filter λ z => !Nat.beq z.1 i)->z∈X/\z.1≠i:=λ z hz=>⟨(List.mem_filter.1 hz).1,a1T.1 (by simpa using (List.mem_filter.1 hz).2)⟩;have sd:(X.filter λ z => !Nat.beq z.1 i).length+1=X.length:=T7 hx KC;generalize kE:(X.filter λ z => !Nat.beq z.1 i)=xs at *
     have hxn:(xs.map (·.1)).Nodup:=by rw[<-kE];exact KC.sublist (b8C _ b9Z)
     .simp only at hu0 hK;have fv:∀ j∈R,∃ o',ops.toList[j]?=some o'/\(j,o')∈Rc.filter λ r => !Nat.testBit ((bF ops.toList []).getD i 0) r.1:=λ j hj=>by
       obtain⟨q1,o',q2,q3,_,_⟩:=hR j hj;refine⟨o',q2,b7b.2 ⟨q3,?_⟩⟩;simp only[b6j];cases hb:Nat.testBit ((bF ops.toList []).getD i 0) j with
       | false=>rfl
       | true=>exact absurd hj ((hl j (by omega)).1 (C8 j hb).1).2.1
      have hu:fP (R.filterMap (ck ops.toList)++(PL.map PE.d++SL.map XE.d)) o=true:=mz hu0 λ t ht=>by
       rcases b5F.1 ht with ht|ht
       .obtain⟨j,hj,DX⟩:=List.mem_filterMap.1 ht;obtain⟨o',q2,q3⟩:=fv j hj;exact List.mem_append.2 (.inl (gp.2 ⟨(j,o'),q3,by simpa [ck,q2] using DX⟩))
       .rcases b5F.1 ht with ht|ht
        .obtain⟨p,hp,rfl⟩:=b5N.1 ht;obtain⟨o2,T,τ,r,hm,bh,IY,_⟩:=(mc p hp).ex;exact b5F.2 (.inr (lK c.E (hxm _ hm (Ue p hp)) (by simp[di,nf,bh]) IY))
        .obtain⟨p,hp,rfl⟩:=b5N.1 ht;exact b5F.2 (.inr (lK c.E (hxm _ (mU p hp).mem (Uf p hp)) ((mU p hp).lz) (mU p hp).dst))
      have hIz:=hI.fz hZ;refine a3s (hA.exec hu) ?_ ?_ (Lp (c:=c.fz w G.S λ b=>∃ p∈PL,p.b=b) hE hIz hK (Q:=λ _ _ _=>False))
      .rintro x w' ⟨G',s',b3z,hsr⟩;obtain⟨xF,iC⟩:=hI.b4G hZ b3z;obtain⟨k1,k2⟩:=kl hsr;refine ih fuel _ xs R PL SL G' s' (a.put o.dst x) (b.put o.dst x) w' _ (by omega) (by omega) (by rw[b7j];exact cr) (λ j hj=>?_) (λ y hy=>hX y (a1O y hy).1) Mu hxn (λ j hj y hy=>Kz j hj y (a1O y hy).1) OI VJ (λ p hp=>?_) (λ e he=>?_) (λ k hk=>?_) XH xF (hA.put λ q hq XS=>absurd hq XS) (λ j hj o' cI=>?_) _ k2
       .obtain⟨q1,o',q2,q3,q4,q7⟩:=hR j hj;obtain⟨o2,q5,q6⟩:=fv j hj;have e:o'=o2:=by rw[q2] at q5;simpa using q5
        subst e;exact⟨q1,o',q2,q6,q4,q7⟩
       .have h3:=(mc p hp).put (d:=o.dst) (x:=x) (hPd p hp);obtain⟨e1,e2⟩:=iC p.b ⟨p,hp,rfl⟩;refine⟨?_,h3.val,h3.ptr,h3.lt,?_,e2⟩
        .obtain⟨o2,T,τ,r,hm,m2,m3,m4,m5⟩:=h3.ex;exact⟨o2,T,τ,r,hxm _ hm (Ue p hp),m2,m3,m4,m5⟩
        .obtain⟨l,ty,q1,q2⟩:=h3.new;exact⟨l,ty,by rw[e1];exact q1,q2⟩
       .have h3:=(mU e he).put (x:=x) hA.da (hSd e he) (hSu e he);exact⟨hxm _ h3.mem (Uf e he),h3.dst,h3.val,h3.run⟩
       .rw[Da,hl k hk];constructor
        .rintro (⟨q1,q2,q3⟩|rfl)
         .exact⟨q1,q2,q3.imp (λ q y hy=>q y (a1O y hy).1) λ q=>q⟩
         .exact⟨rZ,IU, .inl λ y hy e=>(a1O y hy).2 e⟩
        .rintro⟨q1,q2,q3⟩;by_cases KI:k=i
         .exact .inr KI
         .refine .inl ⟨q1,q2,q3.imp (λ q y hy=>?_) λ q=>q⟩;by_cases e:y.1=i
          .rw[e];exact Ne.symm KI
          .exact q y (hxm y hy e)
       .obtain⟨o2,q5,q6⟩:=fv j hj;rw[q5] at cI;simp only[b5E] at cI;subst cI;exact k1 (j,o2) q6
      .rintro b' w' ⟨G',s',xF,_⟩;exact xF.defers
end
theorem yc{bM:List Nat}{p:Nat}(h:Rg bM p=true){j k:Nat}(hj:p<=j)(hl:j<bM.length)(hk:k<p):Nat.testBit (bM.getD j 0) k=true:=by
 unfold Rg at h;rw[List.all_eq_true] at h;have hm:bM[j]∈bM.drop p:=by
  rw[List.mem_iff_getElem?];refine⟨j - p,?_⟩;rw[b8d,show p+(j - p)=j by omega,b6e hl]
 have h1:=Nat.eq_of_beq_eq_true (h _ hm);rw[List.getD_eq_getElem?_getD,List.getElem?_eq_getElem hl,Option.getD_some];have h2:Nat.testBit (bM[j] % 2 ^ p) k=true:=by rw[h1,Nat.testBit_two_pow_sub_one];simpa using hk
 rw[Nat.testBit_mod_two_pow] at h2;simp only[b5M] at h2;exact h2.2
theorem UK{l:List Oper}{es:List LP}{lo m bits:Nat}{s0:aq}{π π':List Nat}(pc:∀ j k t,lo<=j->j<m->lo<=k->k<m->ck l j=some t->ck l k=some t->j=k)
  (hπ:∀ k∈π,lo<=k/\k<m) (Re:∀ k∈π',lo<=k/\k<m) (hn:π.Nodup) (zm:π'.Nodup) (ha:∀ k,lo<=k->k<m->Nat.testBit bits k=true->k∈π/\k∈π') (t:Nat) (hh:hidden l m bits t=false) :
  (dK l es s0 π).sl t=(dK l es s0 π').sl t/\(dK l es s0 π).ai t=(dK l es s0 π').ai t:=by
 by_cases hex:∃ k,lo<=k/\k<m/\ck l k=some t
 .obtain⟨k,bS,hk,hd⟩:=hex;have hb:Nat.testBit bits k=true:=by
   have:=hh;unfold hidden at this;rw[List.any_eq_false] at this;have:=this k (by simpa using hk);simp only[hd] at this;simp only[Nat.beq_refl] at this;simpa using this
  obtain⟨h1,h2⟩:=ha k bS hk hb;obtain⟨e1,e2⟩:=xj l es t k hd π s0 h1 hn (λ j hj eu DX=>eu (pc j k t (hπ j hj).1 (hπ j hj).2 bS hk DX hd));obtain⟨e3,e4⟩:=xj l es t k hd π' s0 h2 zm (λ j hj eu DX=>eu (pc j k t (Re j hj).1 (Re j hj).2 bS hk DX hd));exact⟨e1.trans e3.symm,e2.trans e4.symm⟩
 .have hU:∀ k,lo<=k->k<m->ck l k≠some t:=λ k hl hk hd=>hex ⟨k,hl,hk,hd⟩;obtain⟨e1,e2⟩:=gq l es t π s0 (λ k hk=>hU k (hπ k hk).1 (hπ k hk).2);obtain⟨e3,e4⟩:=gq l es t π' s0 (λ k hk=>hU k (Re k hk).1 (Re k hk).2);exact⟨e1.trans e3.symm,e2.trans e4.symm⟩
def e8(lo i:Nat):List Nat:=List.range' lo (i - lo)
theorem Bk{lo i k:Nat}:k∈e8 lo i↔lo<=k/\k<i:=by
 unfold e8;rw[List.mem_range'_1];omega
theorem Jp(lo i:Nat):(e8 lo i).Nodup:=List.nodup_range'
theorem a3l{lo i:Nat}(h:lo<=i):e8 lo (i+1)=e8 lo i++[i]:=by
 unfold e8;rw[show i+1 - lo=(i - lo)+1 by omega,List.range'_1_concat,show lo+(i - lo)=i by omega]
theorem Sw{E:Env}{l:List Oper}{m lo:Nat}{bM:List Nat}{s0:aq}:∀ (r:List Oper) (i:Nat) (es yV:List LP) (s s':aq),Trace E l m bM i r es s s'->(∀ j o,r[j]?=some o->l[i+j]?=some o)->yV.length=i->lo<=i ->
  s=dK l (yV++es) s0 (e8 lo i) ->
  (∀ j o,r[j]?=some o->PU E l m (bM.getD (i+j) 0) (dK l (yV++es) s0 (e8 lo (i+j))) o ((yV++es).getD (i+j) ⟨false, .any,none⟩))/\s'=dK l (yV++es) s0 (e8 lo (i+r.length))
 | [],i,[],yV,s,s',h,_,_,_,hs=>by
  have h:s=s':=h;subst h;exact⟨by simp,by simpa using hs⟩
 | o::r,i,e::es,yV,s,s',h,hl,h0,hlo,hs=>by
  obtain⟨h1,h2⟩:=h;have ho:l[i]?=some o:=hl 0 o rfl;have N3:(yV++e::es).getD i ⟨false, .any,none⟩=e:=by simp[b5P,<-h0]
  have cb:s.jj o.dst e.v e.ob=dK l ((yV++[e])++es) s0 (e8 lo (i+1)):=by
   rw[b6v,a3l hlo,vy,b8w,N3,<-hs];simp[ck,ho]
  have ih:=Sw r (i+1) es (yV++[e]) _ s' h2 (λ j p hj=>by
   have:=hl (j+1) p (by simpa using hj);rwa [show i+(j+1)=i+1+j by omega] at this) (by simp[h0]) (by omega) cb
  rw[b6v,b8w] at ih;refine⟨λ j p hj=>?_,by rw[ih.2];congr 2;simp;omega⟩;cases j with
  | zero =>
   simp at hj;subst hj;rw[b7W,N3,<-hs];exact h1
  | succ j =>
   have:=ih.1 j p (by simpa using hj);rwa [show i+1+j=i+(j+1) by omega] at this
 | [],_,_::_,_,_,_,h,_,_,_,_=>h.elim
 | _::_,_,[],_,_,_,h,_,_,_,_=>h.elim
theorem RO:∀ (l π:List Nat),l.Nodup->(∀ k∈l,k∈π)->l.length<=π.length
 | [],_,_,_=>by simp
 | x::l,π,hn,h=>by
  have zm:=b6z.1 hn;have hx:=h x (by simp);have h1:=RO l (π.erase x) zm.2 (λ k hk=>by
   have eu:k≠x:=λ e=>by subst e;exact zm.1 hk
   exact (b8f eu).2 (h k (by simp[hk])))
  have h3:=b7Y hx;have:0<π.length:=b8c hx;simp only[b5S];omega
theorem RN{lo m:Nat}(π:List Nat)(hn:π.Nodup)(h:∀ k∈π,lo<=k/\k<m):π.length<=m - lo:=by
 have h1:(List.range lo++π).Nodup:=by
  rw[b6l];refine⟨b8Q,hn,λ x hx y hy e=>?_⟩;simp at hx;have:=(h y hy).1;omega
 have h2:=u9 (max lo m) (List.range lo++π) h1 (λ k hk=>by
  rcases b5F.1 hk with hk|hk
  .simp at hk;omega
  .have:=(h k hk).2;omega)
 rw[b5Y,List.length_range] at h2;cases π with
 | nil=>simp
 | cons k r =>
  have:=h k (by simp);omega
section
variable {c:Ctx} {G:Gh} {s:aq} {a:Act} {w w':World}
theorem a5v(hE:bl c.P c.E){ops:Array Oper}{j:Nat}(dF:backward ops.toList=true)(hj:j<ops.size)(hcut:∀ i,j<i->i<ops.size->Nat.testBit ((bF ops.toList []).getD i 0) j=true)
  {P:aq->Prop} {Q':Exit->Act->World->Prop} {fuel:Nat} {kn:List (Nat×Bool)} {listed:Array Bool} (cr:listed.size=ops.size) (hl:∀ k,k<ops.size->(listed.getD k false=true↔k<j))
  (hI:Inv c G s a w) (hr:eZ c.E ops [ops[j]] kn P s)
  (wA:∀ G s a w (listed:Array Bool),listed.size=ops.size->(∀ k,k<ops.size->(listed.getD k false=true↔k<j+1))->Inv c G s a w->P s->wpAny c.P .any ops Q' fuel listed a w):wpAny c.P .any ops Q' (fuel+1) listed a w:=by
 have ho:ops[j]?=some ops[j]:=b6O hj;constructor
 .intro p9;have:j∈Region.ready .any ops listed:=(mem_ready cr).2 ⟨_,ho,by
   cases hb:listed.getD j false with
   | false=>rfl
   | true=>have:=(hl j hj).1 hb;omega,λ e he hb=>by
   have:=bL dF j ops[j] (by simp) e he hb;exact (hl e.on (by omega)).2 this⟩
  rw[p9] at this;cases this
 .intro i hi;obtain⟨o,cq,h1,h2⟩:=(mem_ready cr).1 hi;have HA:=(b7n.1 cq).1;have VT:j<=i:=by
   rcases b6E i j with h|h
   .have:=(hl i HA).2 h;rw[h1] at this;cases this
   .exact h
  have tM:i=j:=by
   rcases b6E j i with h|h
   .have fv:=Ei (l:=ops.toList) (D:=λ k=>k<j) (λ k hk o' cI e he hb=>by
     have:=bL dF k o' cI e he hb;omega) i o (by simpa using cq) (λ e he hb=>by
      have bp:=bL dF i o (by simpa using cq) e he hb;exact (hl e.on (by omega)).1 (h2 e he hb)) j (hcut i h HA)
    omega
   .omega
  subst tM;have Da:∀ k,k<ops.size->((listed.setIfInBounds i true).getD k false=true↔k<i+1):=λ k hk=>by
   rw[sB (by omega),hl k hk];omega
  unfold wpOp;simp only[ho];have wB:=BA hE hI hr;split at wB
  .rename_i hw;rw[b5Q hw];exact .inl (b7o (λ a' w' ⟨G',s',nV,h1,h2⟩=>wA G' s' a' w' _ (by rw[b7j];exact cr) Da h1 h2) (wB Q'))
  .rename_i hw;rw[b5I hw];obtain⟨G',s',nV,h1,h2⟩:=wB;exact wA G' s' _ w _ (by rw[b7j];exact cr) Da h1 h2
theorem a3G(hE:bl c.P c.E){ops:Array Oper}{lo m:Nat}{es:List LP}{s0:aq}(dF:backward ops.toList=true)(hm:m<=ops.size)
  (pb:∀ j o,m<=j->ops.toList[j]?=some o->∀ k,k<m->Nat.testBit ((bF ops.toList []).getD j 0) k=true)
  (b3U:∀ j o,lo<=j->ops.toList[j]?=some o->∀ k,k<lo->Nat.testBit ((bF ops.toList []).getD j 0) k=true)
  (pc:∀ j k t,lo<=j->j<m->k<m->ck ops.toList j=some t->ck ops.toList k=some t->j=k)
  (a4G:∀ i o,lo<=i->i<m->ops.toList[i]?=some o->PU c.E ops.toList m ((bF ops.toList []).getD i 0) (dK ops.toList es s0 (e8 lo i)) o (es.getD i ⟨false, .any,none⟩))
  (IS:∀ i o,lo<=i->i<m->ops.toList[i]?=some o->ti o.dst=true) (qE:∀ i o t,lo<=i->i<m->ops.toList[i]?=some o->vP o.op=true->o.dst=some t->s0.ai t=none)
  {Q':Exit->Act->World->Prop}
  (QW:∀ (fuel:Nat) (G:Gh) (a:Act) (w:World) (listed:Array Bool),ops.size=m+fuel->listed.size=ops.size->(∀ k,k<ops.size->(listed.getD k false=true↔k<m))->Inv c G (dK ops.toList es s0 (e8 lo m)) a w->wpAny c.P .any ops Q' fuel listed a w) :
  ∀ (fuel:Nat) (π:List Nat) (G:Gh) (a:Act) (w:World) (listed:Array Bool),ops.size=lo+π.length+fuel->π.Nodup->(∀ k∈π,lo<=k/\k<m)->listed.size=ops.size->(∀ k,k<ops.size->(listed.getD k false=true↔k<lo\/k∈π)) ->
   (∀ k∈π,∀ o,ops.toList[k]?=some o->∀ e∈o.after.toList,Region.binds .any e=true->e.on<lo\/e.on∈π)->lo<=m->Inv c G (dK ops.toList es s0 π) a w->wpAny c.P .any ops Q' fuel listed a w:=by
 have a4F:∀ j k t,lo<=j->j<m->lo<=k->k<m->ck ops.toList j=some t->ck ops.toList k=some t->j=k:=λ j k t h1 h2 _ h4=>pc j k t h1 h2 h4;have fin:∀ (fuel:Nat) (π:List Nat) (G:Gh) (a:Act) (w:World) (listed:Array Bool),ops.size=lo+π.length+fuel->π.Nodup->(∀ k∈π,lo<=k/\k<m)->listed.size=ops.size->(∀ k,k<ops.size->(listed.getD k false=true↔k<lo\/k∈π)) ->
   lo<=m->(∀ k,lo<=k->k<m->k∈π)->Inv c G (dK ops.toList es s0 π) a w->wpAny c.P .any ops Q' fuel listed a w:=by
  intro fuel π G a w listed hf hn bp cr hl VV gW hI;have hlen:=RN π hn bp;have VT:m - lo<=π.length:=by
   have h2:(e8 lo m).length<=π.length:=RO (e8 lo m) π (Jp lo m) λ k hk=>gW k (Bk.1 hk).1 (Bk.1 hk).2;simpa [e8] using h2
  have heq:∀ t,(dK ops.toList es s0 π).sl t=(dK ops.toList es s0 (e8 lo m)).sl t/\(dK ops.toList es s0 π).ai t=(dK ops.toList es s0 (e8 lo m)).ai t:=λ t =>
   UK (bits:=2 ^ m - 1) a4F bp (λ k hk=>Bk.1 hk) hn (Jp lo m) (λ k bS hk _=>⟨gW k bS hk,Bk.2 ⟨bS,hk⟩⟩) t (by
    unfold hidden;rw[List.any_eq_false];intro k hk;simp only[List.mem_range] at hk;split
    .split
     .simp[b8y,hk]
     .simp
    .simp)
  refine QW fuel G a w listed (by omega) cr (λ k hk=>?_) ?_
  .rw[hl k hk];constructor
   .rintro (h|h)
    .omega
    .exact (bp k h).2
   .intro h;rcases b6E k lo with h'|h'
    .exact .inl h'
    .exact .inr (gW k h' h)
  .unfold Inv at hI ⊢;rw[KZ] at hI ⊢;rw[<-funext λ t=>(heq t).1,<-funext λ t=>(heq t).2];exact hI
 intro fuel;induction fuel with
 | zero =>
  intro π G a w listed hf hn bp cr hl wz VV hI;refine fin 0 π G a w listed hf hn bp cr hl VV (λ k bS hk=>?_) hI;cases hb:decide (k∈π) with
  | true=>exact b6n hb
  | false =>
   have:=RN (lo:=lo) (m:=m) (k::π) (b6z.2 ⟨b7E hb,hn⟩) (λ j hj=>by
    rcases b5X.1 hj with rfl|hj
    .exact⟨bS,hk⟩
    .exact bp j hj)
   simp at this;omega
 | succ fuel ih =>
  intro π G a w listed hf hn bp cr hl wz VV hI;by_cases gW:∀ k,lo<=k->k<m->k∈π
  .exact fin (fuel+1) π G a w listed hf hn bp cr hl VV gW hI
  ·
   have hex:∃ k,lo<=k/\k<m/\k∉π/\∀ j,lo<=j->j<k->j∈π:=by
    have:∀ n,(∃ k,k<n/\lo<=k/\k<m/\k∉π)->∃ k,lo<=k/\k<m/\k∉π/\∀ j,lo<=j->j<k->j∈π:=by
     intro n;induction n with
     | zero=>rintro⟨k,hk,_⟩;omega
     | succ n ihn =>
      rintro⟨k,hk,OM,hkm,zj⟩;by_cases hs:∃ k,k<n/\lo<=k/\k<m/\k∉π
      .exact ihn hs
      .refine⟨k,OM,hkm,zj,λ j hjl hj=>?_⟩;cases hb:decide (j∈π) with
       | true=>exact b6n hb
       | false=>exact absurd ⟨j,by omega,hjl,by omega,b7E hb⟩ hs
    refine this m ?_;obtain⟨k,hk⟩:=b8W.1 gW;have h2:=b8M.1 hk;have h3:=b8M.1 h2.2;exact⟨k,h3.1,h2.1,h3.1,h3.2⟩
   obtain⟨k0,b5x,a1H,sa,XP⟩:=hex;have XK:ops[k0]?=some (ops[k0]'(by omega)):=b6O (by omega);constructor
   .intro p9;have:k0∈Region.ready .any ops listed:=(mem_ready cr).2 ⟨_,XK,by
     cases hb:listed.getD k0 false with
     | false=>rfl
     | true =>
      rcases (hl k0 (by omega)).1 hb with h|h
      .omega
      .exact absurd h sa,λ e he hb=>by
     have XN:=bL dF k0 ops[k0] (by simp) e he hb;refine (hl e.on (by omega)).2 ?_;rcases b6E e.on lo with h|h
     .exact .inl h
     .exact .inr (XP e.on h XN)⟩
    rw[p9] at this;cases this
   .intro i hi;obtain⟨o,cq,h1,h2⟩:=(mem_ready cr).1 hi;have HA:=(Array.getElem?_eq_some_iff.1 cq).1;have ez:ops.toList[i]?=some o:=by simpa using cq
    have Cc:¬ (i<lo\/i∈π):=λ hh=>by
     have:=(hl i HA).2 hh;rw[h1] at this;cases this
    have uQ:i∉π:=λ h=>Cc (.inr h);have hil:lo<=i:=by
     rcases b6E i lo with h|h
     .exact absurd (.inl h) Cc
     .exact h
    have QV:∀ e∈o.after.toList,Region.binds .any e=true->e.on<lo\/e.on∈π:=λ e he hb=>by
     have XN:=bL dF i o ez e he hb;exact (hl e.on (by omega)).1 (h2 e he hb)
    have C8:=Ei (l:=ops.toList) (D:=λ k=>k<lo\/k∈π) (λ k hk o' cI e he hb=>by
     rcases hk with hk|hk
     .have:=bL dF k o' cI e he hb;exact .inl (by omega)
     .exact wz k hk o' cI e he hb) i o ez QV
    have rZ:i<m:=by
     rcases b6E i m with h|h
     .exact h
     .rcases C8 k0 (pb i o h ez k0 a1H) with h|h
      .omega
      .exact absurd h sa
    have KE:=Ei (l:=ops.toList) (D:=λ k=>k<i) (λ k hk o' cI e he hb=>by
     have:=bL dF k o' cI e he hb;omega) i o ez (λ e he hb=>bL dF i o ez e he hb)
    have I0:=λ t hh=>UK (l:=ops.toList) (es:=es) (s0:=s0) (lo:=lo) (m:=m) (bits:=(bF ops.toList []).getD i 0) (π:=π) (π':=e8 lo i) a4F bp (λ k hk=>by have:=Bk.1 hk;omega) hn (Jp lo i)
     (λ k bS hk hb=>⟨by
      rcases C8 k hb with h|h
      .omega
      .exact h,Bk.2 ⟨bS,KE k hb⟩⟩) t hh
    obtain⟨hg,cJ,a0e⟩:=a4G i o hil rZ ez;have cG:SN ops.toList m ((bF ops.toList []).getD i 0) (dK ops.toList es s0 (e8 lo i))=SN ops.toList m ((bF ops.toList []).getD i 0) (dK ops.toList es s0 π):=by
     funext x;cases x with
     | tmp t =>
      simp only[SN];split
      .rfl
      .rename_i hh;exact ((I0 t hh).1).symm
     | _=>rfl
    have bS:O7 ops.toList m ((bF ops.toList []).getD i 0) (dK ops.toList es s0 (e8 lo i))=O7 ops.toList m ((bF ops.toList []).getD i 0) (dK ops.toList es s0 π):=by
     funext t;simp only[O7];split
     .rfl
     .rename_i hh;exact ((I0 t hh).2).symm
    have hg':fU ops.toList ((bF ops.toList []).getD i 0) (dK ops.toList es s0 π) o (es.getD i ⟨false, .any,none⟩).Hi:=by
     unfold fU at hg ⊢;split
     .rename_i zm;simpa [zm] using hg
     .rename_i g want zm;simp only[zm] at hg;obtain⟨t,b,q1,q2,q3,q4⟩:=hg;refine⟨t,b,q1,q2,?_,q4⟩;have hgm:g<m:=Nat.lt_trans (KE g q2) rZ;have hh:hidden ops.toList m ((bF ops.toList []).getD i 0) t=false:=by
       unfold hidden;rw[List.any_eq_false];intro k hk;simp only[List.mem_range] at hk;split
       .rename_i d hd;split
        .rename_i EV;have EV:=b5G EV;subst EV;rcases b6E k lo with OM|OM
         .rw[b3U i o hil ez k OM];simp
         .have:=pc k g d OM hk hgm hd q1;subst this;rw[q2];simp
        .simp
       .simp
      exact ((I0 t hh).1).trans q3
    have hw:=Hz (ops:=ops) rfl hI hg';have wA:∀ (G':Gh) (a':Act) (w':World),Inv c G' (dK ops.toList es s0 (π++[i])) a' w'->wpAny c.P .any ops Q' fuel (listed.setIfInBounds i true) a' w':=by
     intro G' a' w' xF;refine ih (π++[i]) G' a' w' _ (by simp;omega) ?_ ?_ (by rw[b7j];exact cr) ?_ ?_ VV xF
     .rw[b6l];exact⟨hn,by simp,λ x hx y hy=>by simp at hy;subst hy;exact λ e=>uQ (e ▸ hx)⟩
     .intro k hk;rcases b5F.1 hk with hk|hk
      .exact bp k hk
      .simp at hk;omega
     .intro k hk;rw[sB (by omega),hl k hk];simp[c0i]
     .intro k hk o' cI e he hb;rcases b5F.1 hk with hk|hk
      .exact (wz k hk o' cI e he hb).imp id (b7v _)
      .simp at hk;subst hk;rw[ez] at cI;simp only[b5E] at cI;subst cI;exact (QV e he hb).imp id (b7v _)
    have Mw:ck ops.toList i=o.dst:=by simp[ck,ez]
    unfold wpOp;simp only[cq];cases KM:(es.getD i ⟨false, .any,none⟩).Hi with
    | true =>
     rw[KM] at hw;rw[b5Q hw];obtain⟨vc,hq,eb⟩:=cJ KM;rw[cG,bS] at hq;refine .inl (b7o ?_ (Jl hE hI (lk':=O7 ops.toList m ((bF ops.toList []).getD i 0) (dK ops.toList es s0 π)) ?_ ?_ hq eb))
     .intro a' w' hd;obtain⟨G',pd⟩:=N8 hI (IS i o hil rZ ez) (λ t ob EV OO=>by
       rw[OO] at hq;have Z6:=Li hq;have h0:=qE i o t hil rZ ez Z6 EV;have AI:=(gq ops.toList es t π s0 (λ k hk hkd=>by
        have:=pc k i t (bp k hk).1 (bp k hk).2 rZ hkd (by rw[Mw];exact EV);subst this;exact uQ hk)).2
       rw[AI,h0]) hd
      refine wA G' a' w' ?_;rw[vy,Mw];exact pd
     .intro id ob aS;unfold O7 at aS;split at aS
      .cases aS
      .exact aS
     .intro x;cases x with
      | tmp t =>
       simp only[SN];split
       .trivial
       .exact aW hI (.tmp t)
      | const v=>exact aW hI (.const v)
      | global g=>exact aW hI (.global g)
      | func f=>exact aW hI (.func f)
    | false =>
     rw[KM] at hw;rw[hw];obtain⟨hv,OO⟩:=a0e KM;refine wA G _ w ?_;rw[vy,Mw,hv,OO,MW];exact Inv.put (v := .dY) hI rfl
theorem F5{α:Type}{l:List α}{lo hi j:Nat}{o:α}(h:((l.take hi).drop lo)[j]?=some o):l[lo+j]?=some o/\lo+j<hi:=by
 rw[b8d,b7h] at h;split at h
 .rename_i bp;exact⟨h,bp⟩
 .cases h
theorem je{α:Type}{l:List α}{lo hi i:Nat}{o:α}(h:l[i]?=some o)(h1:lo<=i)(h2:i<hi):((l.take hi).drop lo)[i - lo]?=some o:=by
 rw[b8d,b7h,show lo+(i - lo)=i by omega,b5Q h2,h]
theorem th:∀ {l:List (Option Nat)},vQ l=true->∀ (i j t:Nat),l[i]?=some (some t)->l[j]?=some (some t)->i=j
 | [],_,i,j,t,h,_=>by simp at h
 | none::r,h,i,j,t,hi,hj=>by
  cases i with
  | zero=>simp at hi
  | succ i =>
   cases j with
   | zero=>simp at hj
   | succ j=>rw[th (l:=r) h i j t (by simpa using hi) (by simpa using hj)]
 | some d::r,h,i,j,t,hi,hj=>by
  simp only[vQ] at h;split at h
  .cases h
  .rename_i XF;rw[b9l] at XF;have no:∀ k:Nat,r[k]?=some (some d)->False:=λ k hk=>by
    have:=XF _ (b6N hk);simp at this
   cases i with
   | zero =>
    simp at hi;subst hi;cases j with
    | zero=>rfl
    | succ j=>exact (no j (by simpa using hj)).elim
   | succ i =>
    cases j with
    | zero =>
     simp at hj;subst hj;exact (no i (by simpa using hi)).elim
    | succ j=>rw[th (l:=r) h i j t (by simpa using hi) (by simpa using hj)]
theorem Hy{l:List Oper}{lo hi:Nat}(h:EN l lo hi=true):∀ j k t,lo<=j->j<hi->k<hi->ck l j=some t->ck l k=some t->j=k:=by
 unfold EN at h;rw[Bool.and_eq_true,Bool.and_eq_true] at h;obtain⟨⟨_,h1⟩,h2⟩:=h;have hd:=th h1;have get:∀ j t,ck l j=some t->∃ o,l[j]?=some o/\o.dst=some t:=by
  intro j t h;unfold ck at h;simp only[Option.bind_eq_some_iff] at h;exact h
 intro j k t hj hjh hkh KH hkt;obtain⟨o,ho,XQ⟩:=get j t KH;obtain⟨o',cI,a9y⟩:=get k t hkt;have g1:=je ho hj hjh;rcases b6E k lo with hk|hk
 .rw[b6y] at h2;have hm:o'∈l.take lo:=b6N (by rw[b7h,b5Q hk];exact cI);have:=h2 o' hm;rw[a9y] at this;simp only[b6j] at this;rw[b9l] at this;have:=this o (b6N g1);rw[XQ] at this;simp at this
 .have g2:=je cI hk hkh;have:=hd (j - lo) (k - lo) t (by rw[b7m,g1];simp[XQ]) (by rw[b7m,g2];simp[a9y]);omega
theorem Xy{l:List Oper}{lo hi:Nat}(h:EN l lo hi=true){i:Nat}{o:Oper}(h1:lo<=i)(h2:i<hi)(ho:l[i]?=some o):ti o.dst=true:=by
 unfold EN at h;rw[Bool.and_eq_true,Bool.and_eq_true] at h;exact List.all_eq_true.1 h.1.1 o (List.mem_of_getElem? (je ho h1 h2))
theorem Fv{i:Nat}{o:Oper}:∀ {l:List Oper} {lo:Nat},(i,o)∈kY lo l↔∃ j,i=lo+j/\l[j]?=some o
 | [],lo=>by simp[kY]
 | x::l,lo=>by
  simp only[kY,b5X,b5H,Fv (l:=l)];constructor
  .rintro (⟨rfl,rfl⟩|⟨j,rfl,h⟩)
   .exact⟨0,rfl,rfl⟩
   .exact⟨j+1,by omega,by simpa using h⟩
  .rintro⟨j,rfl,h⟩;cases j with
   | zero=>simp at h;exact .inl ⟨rfl,h.symm⟩
   | succ j=>exact .inr ⟨j,by omega,by simpa using h⟩
theorem HV:∀ (l:List Oper) (lo:Nat),((kY lo l).map (·.1)).Nodup
 | [],lo=>b7c
 | x::l,lo=>by
  simp only[kY,b6w,b6z];refine⟨λ h=>?_,HV l (lo+1)⟩;obtain⟨⟨i,o⟩,h1,h2⟩:=b5N.1 h;obtain⟨j,h3,_⟩:=Fv.1 h1;simp only at h2;omega
theorem mD.mono{D D':List Nat}{a b:Act}(h:mD D a b)(hs:∀ t∈D,t∈D'):mD D' a b:=⟨h.size,h.da,h.db,λ t ht=>h.at' t λ q=>ht (hs t q)⟩
theorem Oh:∀ (l:List Oper) (lo:Nat),(kY lo l).length=l.length
 | [],lo=>rfl
 | x::l,lo=>by simp[kY,Oh l]
theorem Kj{α:Type}(p:α->Bool):∀ l:List α,(l.filter p).length+(l.filter λ x => !p x).length=l.length
 | []=>rfl
 | x::l=>by
  have:=Kj p l;cases h:p x<;>simp[b9y,h]<;>omega
theorem YP(hE:bl c.P c.E){ops:Array Oper}(dF:backward ops.toList=true){Q:aq->Prop}{Q':Exit->Act->World->Prop}(hQ:∀ G s a w,Inv c G s a w->Q s->Q' .normal a w) :
  ∀ (a1s:List Nat) (lo:Nat) (kn:List (Nat×Bool)) (fuel:Nat) (G:Gh) (s:aq) (a:Act) (w:World) (listed:Array Bool),ops.size=lo+fuel->listed.size=ops.size->(∀ k,k<ops.size->(listed.getD k false=true↔k<lo))->Inv c G s a w ->
   vK c.E ops ops.toList (bF ops.toList []) a1s lo kn Q s->wpAny c.P .any ops Q' fuel listed a w:=by
 obtain⟨r,ha1,ha2,_⟩:=xN ops.toList [];have QT:(bF ops.toList []).length=ops.size:=by rw[ha1];simpa using ha2
 intro a1s;induction a1s with
 | nil =>
  intro lo kn fuel G s a w listed hf cr hl hI hr;simp only[vK] at hr;split at hr
  .rename_i hb;have hb:=Nat.eq_of_beq_eq_true hb;have hlo:lo=ops.size:=by simpa using hb
   have h0:fuel=0:=by omega
   subst h0;refine⟨?_,hQ _ _ _ _ hI hr⟩;apply b8q.2;intro i hi;obtain⟨o,ho,h1,_⟩:=(mem_ready cr).1 hi;have bp:=(b7n.1 ho).1;have:=(hl i bp).2 (by omega);rw[h1] at this;cases this
  .exact hr.elim
 | cons hi a1s ih =>
  intro lo kn fuel G s a w listed hf cr hl hI hr;simp only[vK] at hr;split at hr;case h_2=>exact hr.elim
  case h_1 hc =>
  simp only[b5M,b9p,Nat.ble_eq,b6M] at hc;obtain⟨Mv,hc0,hc2,hc3⟩:=hc;split at hr
  .rename_i hb;have hb:=b5G hb;subst hb;have bp:lo<ops.size:=by omega
   obtain⟨fuel,rfl⟩:∃ f,fuel=f+1:=⟨fuel - 1,by omega⟩;have EZ:(ops.toList.take (lo+1)).drop lo=[ops[lo]]:=by
    rw[List.drop_take,show lo+1 - lo=1 by omega,List.drop_eq_getElem_cons (by simpa using bp)];simp
   rw[EZ] at hr;refine a5v hE dF bp (λ i h1 h2=>yc Mv (by omega) (by omega) (by omega)) cr hl hI hr ?_;intro G s a w listed cr hl hI hp;exact ih (lo+1) kn fuel G s a w listed (by omega) cr hl hI hp
  .split at hr;case h_3=>exact hr.elim
   case h_1 G6 hal =>
    unfold a1k at hr;split at hr;case h_2=>exact hr.elim
    case h_1 gX =>
    have uy:∀ i o,(i,o)∈kY lo ((ops.toList.take hi).drop lo)↔lo<=i/\i<hi/\ops.toList[i]?=some o:=λ i o=>by
     rw[Fv];constructor
     .rintro⟨j,rfl,h⟩;obtain⟨h1,h2⟩:=F5 h;exact⟨by omega,h2,h1⟩
     .rintro⟨h1,h2,h3⟩;exact⟨i - lo,by omega,je h3 h1 h2⟩
    have c6:=HV ((ops.toList.take hi).drop lo) lo;have zp:(kY lo ((ops.toList.take hi).drop lo)).length=hi - lo:=by rw[Oh];simp;omega
    have ya:∀ x∈kY lo ((ops.toList.take hi).drop lo),∀ y∈kY lo ((ops.toList.take hi).drop lo),∀ t,x.2.dst=some t->y.2.dst=some t->x.1=y.1:=λ x hx y hy t hxt hyt=>by
     have h1:=(uy x.1 x.2).1 hx;have h2:=(uy y.1 y.2).1 hy;exact Hy G6 x.1 y.1 t h1.1 h1.2.1 h2.2.1 (by simp[ck,h1.2.2,hxt]) (by simp[ck,h2.2.2,hyt])
    generalize kY lo ((ops.toList.take hi).drop lo)=e8 at *
    simp only[a5n,b5M,b6y] at gX;obtain⟨t,b,q1,q2,q3⟩:=Od hE hI hr;obtain⟨q4,q5⟩:=kl q3;have a4P:∀ p:Nat×Oper->Bool,((e8.filter p).map (·.1)).Nodup:=λ p=>c6.sublist (b8C _ b9Z);have b1u:∀ x∈e8,∀ y∈e8,x.1=y.1->x=y:=λ x hx y hy e=>by
     obtain⟨x1,x2⟩:=x;obtain⟨y1,y2⟩:=y;simp only at e;subst e;have h1:=((uy _ _).1 hx).2.2;rw[((uy _ _).1 hy).2.2] at h1;simp only[b5E] at h1;rw[h1]
    refine Yk hE (hi:=hi) (Seg:=e8) dF hc3 ?_ (λ x hx=>by simpa using (gX.1 x hx).1) (λ x hx=>(gX.1 x hx).2) ?_ ya (λ fuel G s a w listed hf cr hl hI hp=>ih hi kn fuel G s a w listed (by omega) cr hl hI hp) (fuel+(I9 c.E (bF ops.toList []) (e8.filter λ r => !my c.E (bF ops.toList []) e8 r)).length) fuel (e8.filter (my c.E (bF ops.toList []) e8)) (I9 c.E (bF ops.toList []) (e8.filter λ r => !my c.E (bF ops.toList []) e8 r))
     ((e8.filter (my c.E (bF ops.toList []) e8)).map (·.1)) [] [] G t a b w listed (b6k _) ?_ cr ?_ ?_ (a4P _) ((((jz _ _ _).map (·.1)).nodup_iff).2 (a4P _)) ?_ b7c b7c (λ p hp=>by cases hp) (λ p hp=>by cases hp) ?_ ?_ ?_ ?_ ?_ e8.length ?_
    .intro j o hj ho k hk;have:=(List.getElem?_eq_some_iff.1 ho).1;exact yc Mv hj (by rw[QT];simpa using this) hk
    .intro x hx he;have:=gX.2 x hx;simpa [he] using this
    .rw[b6G,(jz _ _ _).length_eq,Kj,zp,b6d,b6d];omega
    .intro i kg;obtain⟨⟨i',o⟩,h1,rfl⟩:=b5N.1 kg;obtain⟨h2,h3⟩:=b7b.1 h1;have h4:=(uy _ _).1 h2;refine⟨h4.2.1,o,h4.2.2,h1,h2,?_⟩;have:=gX.2 _ h2;rw[h3] at this;have eu:jQ o.op=false:=by
      have:=DF (E:=c.E) (o:=o) (by simp only[my,Lm,b5M] at h3;exact h3.1.1);simp only[di,b9U] at this;exact this.2.1
     exact⟨h3,by simpa [eu] using this⟩
    .intro x hx;have hx:=(jz _ _ _).mem_iff.1 hx;have h2:=(b7b.1 hx).1;have h4:=(uy _ _).1 h2;exact⟨h4.2.1,h4.2.2,h2⟩
    .intro i kg x hx e;have hx:=(jz _ _ _).mem_iff.1 hx;obtain⟨y,h1,rfl⟩:=b5N.1 kg;obtain⟨h2,h3⟩:=b7b.1 h1;obtain⟨h4,h5⟩:=b7b.1 hx;have:=b1u _ h2 _ h4 e;subst this;rw[h3] at h5;cases h5
    .intro k hk;rw[hl k hk];constructor
     .intro h;refine⟨by omega,λ hm=>?_, .inl λ x hx e=>?_⟩
      .obtain⟨y,h1,rfl⟩:=b5N.1 hm;have:=((uy _ _).1 (b7b.1 h1).1).1;omega
      .have:=((uy _ _).1 (b7b.1 ((jz _ _ _).mem_iff.1 hx)).1).1;omega
     .rintro⟨h1,h2,h3⟩;have h3:=h3.resolve_right (by simp);rcases b6E k lo with h|h
      .exact h
      .have hm:(k,ops[k])∈e8:=(uy _ _).2 ⟨h,h1,by simp⟩;cases hr:my c.E (bF ops.toList []) e8 (k,ops[k]) with
       | true=>exact absurd (b5N.2 ⟨_,b7b.2 ⟨hm,hr⟩,rfl⟩) h2
       | false=>exact absurd rfl (h3 _ ((jz _ _ _).mem_iff.2 (b7b.2 ⟨hm,by simp[hr]⟩)))
    .intro k hk OM o ho e he hb;have h1:=bL dF k o ho e he hb;have h2:=(hl k hk).1 OM;exact (hl e.on (by omega)).2 (by omega)
    .exact q1
    .refine q2.mono λ d hd=>?_;obtain⟨r,h1,h2⟩:=gp.1 hd;have h4:=(uy _ _).1 (b7b.1 h1).1;exact b5F.2 (.inl (b7T.2 ⟨r.1,b5N.2 ⟨r,h1,rfl⟩,by simp[ck,h4.2.2,h2]⟩))
    .intro i kg o ho;obtain⟨⟨i',o'⟩,h1,rfl⟩:=b5N.1 kg;have h4:=((uy _ _).1 (b7b.1 h1).1).2.2;simp only at ho;rw[h4] at ho;simp only[b5E] at ho;subst ho;exact q4 _ h1
    .exact q5
   case h_2 G6 hal =>
   have pc:=Hy G6;obtain⟨es,nV,s',wC,hq⟩:=rp hr;have hlen:((ops.toList.take hi).drop lo).length=hi - lo:=by simp;omega
   obtain⟨KN,XT⟩:=Sw (lo:=lo) (s0:=((ops.toList.take hi).drop lo).foldl aq.fresh s) ((ops.toList.take hi).drop lo) lo es (List.replicate lo ⟨false, .any,none⟩) _ s' wC (λ j o ho=>(F5 ho).1) (by simp) (Nat.le_refl _) (by simp[e8,dK]);rw[hlen,show lo+(hi - lo)=hi by omega] at XT;subst XT;have hI0:Inv c G (((ops.toList.take hi).drop lo).foldl aq.fresh s) a w:=B5 _ hI;refine a3G hE (lo:=lo) (m:=hi) (es:=List.replicate lo ⟨false, .any,none⟩++es) (s0:=((ops.toList.take hi).drop lo).foldl aq.fresh s) dF hc3 ?_ ?_ pc ?_ (λ i o h1 h2 ho=>Xy G6 h1 h2 ho) ?_ ?_ fuel [] G a w listed (by simp;omega) (by simp) (by simp) cr (by simpa using hl) (by simp) (by omega) hI0
   .intro j o hj ho k hk;have:=(List.getElem?_eq_some_iff.1 ho).1;exact yc Mv hj (by rw[QT];simpa using this) hk
   .intro j o hj ho k hk;have:=(List.getElem?_eq_some_iff.1 ho).1;exact yc hc0 hj (by rw[QT];simpa using this) hk
   .intro i o h1 h2 ho;have:=KN (i - lo) o (je ho h1 h2);rwa [show lo+(i - lo)=i by omega] at this
   .intro i o t h1 h2 ho Z6 EV;exact (zd ((ops.toList.take hi).drop lo) s t).2 o (b6N (je ho h1 h2)) Z6 EV
   .intro fuel G a w listed hf cr hl hI;exact ih hi nV fuel G _ a w listed (by omega) cr hl hI (Rh hI hq)
theorem Oz(hE:bl c.P c.E)(gX:c.P.follows .mixedOrders=true){id:Nat}{ops:Array Oper}{Q:aq->Prop}{Q':Exit->Act->World->Prop}(hQ:∀ G s a w,Inv c G s a w->Q s->Q' .normal a w)
  (h:Inv c G s a w) (hd:LY c.E ops Q s):(Code.region id ops true).wp c.P Q' a w:=by
 unfold LY at hd;simp only at hd;split at hd
 .exact Qd hE gX hQ h hd
 .split at hd;case h_2=>exact hd.elim
  case h_1 dF =>
  refine wp_region_any gX ?_;exact YP hE dF hQ _ 0 [] ops.size G s a _ _ (by simp) (by simp) (by intro k hk;simp[hk]) (bf.drew h) hd
end
def Qb{c:Ctx}{G:Gh}{s:aq}{a:Act}{w:World}(hE:bl c.P c.E)(gX:c.P.follows .mixedOrders=true){id:Nat}{ops:Array Oper}{Q:aq->Prop}{Q':Exit->Act->World->Prop}(hQ:∀ G s a w,Inv c G s a w->Q s->Q' .normal a w)
  (h:Inv c G s a w) (hd:W6 c.E ops Q s):(Code.region id ops true).wp c.P Q' a w:=Oz hE gX hQ h hd
theorem jZ{u v:TV}(h:xr u v):u=v:=by
 unfold xr at h;split at h
 .rename_i x hx;have:=TV.aN hx;rw[this,h]
 .exact h.elim
theorem CB:∀ {l:List Nat},nodupB l=true->l.Nodup
 | [],_=>b7c
 | a::r,h=>by
  simp only[nodupB] at h;split at h
  .cases h
  .rename_i hc;exact List.nodup_cons.2 ⟨by simpa using hc,CB h⟩
theorem zu{α:Type}(f:α->Nat):∀ {l:List α},(l.map f).Nodup->∀ x∈l,∀ y∈l,f x=f y->x=y
 | [],_,x,hx,_,_,_=>by simp at hx
 | a::r,h,x,hx,y,hy,he=>by
  simp only[b6w,b6z] at h;rcases b5X.1 hx with Q9|Q9
  .rcases b5X.1 hy with S3|S3
   .rw[Q9,S3]
   .exact absurd (b5N.2 ⟨y,S3,by rw[<-he,Q9]⟩) h.1
  .rcases b5X.1 hy with S3|S3
   .exact absurd (b5N.2 ⟨x,Q9,by rw[he,S3]⟩) h.1
   .exact zu f h.2 x Q9 y S3 he
section
variable {c:Ctx} {G:Gh} {s t:aq} {a:Act} {w w':World}
def gh(G:Gh)(s t:aq)(ρ:List (Nat×Nat))(id:Nat):Value:=match s.ai (c7 ρ id) with
 | some _=>G.η (c7 ρ id)
 | none=>match cR (t.ai id) with
  | true => .tuple [.slice none 0 0].toArray
  | false => .slice none 0 0
def qY(G:Gh)(s:aq)(ρ:List (Nat×Nat))(id:Nat):List Nat:=match s.ai (c7 ρ id) with
 | some _=>G.φ (c7 ρ id)
 | none=>[]
theorem nv{ρ:List (Nat×Nat)}{x:Value}{u v:AV}(h:AV.uv ρ s t u v)(hu:C1 c G s.ai w u x):C1 c ⟨G.S,gh G s t ρ,qY G s ρ⟩ t.ai w v x:=by
 unfold AV.uv at h;split at h
 .trivial
 .split at h
  .have:=jZ h;subst this;exact hu
  .split at h
   .subst h;exact⟨rfl,Pq (c:=c) (G:=G) (lk:=s.ai) (τ := .slice _) (v := .nil) rfl (show C1 c G s.ai w .nil x from hu)⟩
   .exact h.elim
  .exact h.elim
 .split at h
  .exact hu
  .exact h.elim
 .split at h
  .have:=jZ h;subst this;exact hu
  .exact h.elim
 .split at h
  .split at h
   .rename_i hb;simp only[b5M] at hb;have h1:=b5G hb.1.1;have h2:=b5G hb.1.2;subst h1 h2;obtain⟨b,k1,k2,k3⟩:=hu;refine⟨b,?_,k2,hb.2⟩;simp only[gh];match hl:s.ai (c7 ρ _),k3 with
    | some o,_=>exact k1
   .exact h.elim
  .exact h.elim
 .split at h
  .split at h
   .rename_i hb;simp only[b5M] at hb;have h1:=b5G hb.1;subst h1;obtain⟨k1,k2,k3⟩:=hu;refine⟨?_,hb.2,k3⟩;simp only[gh];match hl:s.ai (c7 ρ _),k2 with
    | some o,_=>exact k1
   .exact h.elim
  .split at h
   .rename_i hr hn;refine⟨?_,hr,none,0,0,hu⟩;simp only[gh,hn,rH hr];exact hu
   .exact h.elim
  .exact h.elim
 .split at h
  .split at h
   .rename_i hb;simp only[b5M] at hb;have h1:=b5G hb.1;subst h1;obtain⟨k1,l,k2,k3⟩:=hu;refine⟨hb.2,l,?_,k3⟩;simp only[gh];match hl:s.ai (c7 ρ _),k1 with
    | some o,_=>exact k2
   .exact h.elim
  .split at h
   .rename_i hr hn;have hu:x = .slice none 0 0:=hu;refine⟨hr,[],?_,none,0,0,hu⟩;simp only[gh,hn,hr];rw[hu]
   .exact h.elim
  .exact h.elim
 .split at h
  .split at h
   .rename_i hb;have h1:=b5G hb;subst h1;exact hu
   .exact h.elim
  .exact h.elim
 .split at h
  .split at h
   .rename_i hb;simp only[b5M] at hb;have h1:=b5G hb.1;subst h1;obtain⟨k1,k2,k3⟩:=hu;refine⟨?_,hb.2,k3⟩;simp only[gh];match hl:s.ai (c7 ρ _),k2 with
    | some o,_=>exact k1
   .exact h.elim
  .exact h.elim
 .exact h.elim
theorem EJ{ρ:List (Nat×Nat)}:∀ {us vs:List AV} {l:List Value},Hw ρ s t us vs->aM (C1 c G s.ai w) us l->aM (C1 c ⟨G.S,gh G s t ρ,qY G s ρ⟩ t.ai w) vs l
 | [],[],[],_,_=>trivial
 | u::us,v::vs,x::l,h,hu=>by
  simp only[Hw] at h;split at h
  .exact⟨af,EJ h hu.2⟩
  .exact⟨nv h.1 hu.1,EJ h.2 hu.2⟩
 | [],_::_,_,h,_=>h.elim
 | _::_,[],_,h,_=>h.elim
 | [],[],_::_,_,h=>h.elim
 | _::_,_::_,[],_,h=>h.elim
theorem a4v{ρ:List (Nat×Nat)}{x:Value}{u v:AV}(h:AV.a9i ρ s t u v)(hu:CR c G s.ai w u x):CR c ⟨G.S,gh G s t ρ,qY G s ρ⟩ t.ai w v x:=by
 rcases hu.inv with ⟨z,rfl,h1⟩|⟨cs,l,rfl,rfl,h1⟩|h1
 .cases v with
  | any=>trivial
  | aO z' =>
   have:=jZ (show xr z z' from h);subst this;exact hu
  | _=>exact (show False from h).elim
 .cases v with
  | any=>trivial
  | agg vs=>exact⟨l,rfl,EJ (show Hw ρ s t cs vs from h) h1⟩
  | _=>exact (show False from h).elim
 .cases u with
  | agg cs=>exact (show False from h1).elim
  | _=>exact (nv (show AV.uv ρ s t _ v by cases v<;>exact h) h1).Y4
theorem QG{ρ:List (Nat×Nat)}:∀ {us vs:List AV} {l:List Value},Xu ρ s t us vs->aM (CR c G s.ai w) us l->aM (CR c ⟨G.S,gh G s t ρ,qY G s ρ⟩ t.ai w) vs l
 | [],[],[],_,_=>trivial
 | u::us,v::vs,x::l,h,hu=>by
  simp only[Xu] at h;split at h
  .exact⟨af,QG h hu.2⟩
  .exact⟨a4v h.1 hu.1,QG h.2 hu.2⟩
 | [],_::_,_,h,_=>h.elim
 | _::_,[],_,h,_=>h.elim
 | [],[],_::_,_,h=>h.elim
 | _::_,_::_,[],_,h=>h.elim
theorem ZO{u v:FV}(h:a1D u v):u=v:=by
 unfold a1D at h;split at h
 .rename_i F hF;have:=FV.aN hF;rw[this,h]
 .exact h.elim
theorem a7M{ρ:List (Nat×Nat)}{x:Value}{u v:AV}(h:AV.fit ρ s t u v)(hu:VR c G s.ai w u x):VR c ⟨G.S,gh G s t ρ,qY G s ρ⟩ t.ai w v x:=by
 cases u with
 | agg us =>
  obtain⟨l,h1,h2⟩:=hu;cases v with
  | any=>trivial
  | agg vs=>exact⟨l,h1,EJ (show Hw ρ s t us vs from h) h2⟩
  | aO z =>
   obtain⟨τ,q⟩:=z;simp only[AV.fit] at h;split at h
   .rename_i y hy;have hr:dE w G.S ⟨τ,y⟩ x:=zY (c:=c) (G:=G) (lk:=s.ai) (w:=w) (x:=x) hy ⟨l,h1,h2⟩;have h':y=q:=h;show dE w G.S ⟨τ,q⟩ x;rw[<-h'];exact hr
   .exact h.elim
  | _=>exact (show False from h).elim
 | hY us =>
  cases v with
  | any=>trivial
  | _=>exact (show False from h).elim
 | aO z =>
  cases v with
  | any=>trivial
  | aO z' =>
   have:=jZ (show xr z z' from h);subst this;exact hu
  | _=>exact (show False from h).elim
 | cO f us =>
  obtain⟨l,h1,h2⟩:=hu;cases v with
  | any=>trivial
  | cO g vs =>
   simp only[AV.fit] at h;split at h
   .rename_i hb;have hb:=b5G hb;subst hb;exact⟨l,h1,QG h h2⟩
   .exact h.elim
  | _=>exact (show False from h).elim
 | il z =>
  cases v with
  | any=>trivial
  | il z' =>
   have:=ZO (show a1D z z' from h);subst this;exact hu
  | _=>exact (show False from h).elim
 | any=>cases v<;>first|trivial|exact (show False from h).elim
 | dY=>cases v<;>first|trivial|exact (show False from h).elim
 | nil=>exact (nv (u := .nil) (show AV.uv ρ s t .nil v by cases v<;>exact h) (show C1 c G s.ai w .nil x from hu)).fO
 | cT z=>exact (nv (u := .cT z) (show AV.uv ρ s t (.cT z) v by cases v<;>exact h) (show C1 c G s.ai w (.cT z) x from hu)).fO
 | ptr i o=>exact (nv (u := .ptr i o) (show AV.uv ρ s t (.ptr i o) v by cases v<;>exact h) (show C1 c G s.ai w (.ptr i o) x from hu)).fO
 | row i=>exact (nv (u := .row i) (show AV.uv ρ s t (.row i) v by cases v<;>exact h) (show C1 c G s.ai w (.row i) x from hu)).fO
 | eA i k o=>exact (nv (u := .eA i k o) (show AV.uv ρ s t (.eA i k o) v by cases v<;>exact h) (show C1 c G s.ai w (.eA i k o) x from hu)).fO
 | fn f=>exact (nv (u := .fn f) (show AV.uv ρ s t (.fn f) v by cases v<;>exact h) (show C1 c G s.ai w (.fn f) x from hu)).fO
 | mp i=>exact (nv (u := .mp i) (show AV.uv ρ s t (.mp i) v by cases v<;>exact h) (show C1 c G s.ai w (.mp i) x from hu)).fO
 | aC i=>exact (nv (u := .aC i) (show AV.uv ρ s t (.aC i) v by cases v<;>exact h) (show C1 c G s.ai w (.aC i) x from hu)).fO
 | sub i k o z=>exact (nv (u := .sub i k o z) (show AV.uv ρ s t (.sub i k o z) v by cases v<;>exact h) (show C1 c G s.ai w (.sub i k o z) x from hu)).fO
 | eJ i k o z=>exact (nv (u := .eJ i k o z) (show AV.uv ρ s t (.eJ i k o z) v by cases v<;>exact h) (show C1 c G s.ai w (.eJ i k o z) x from hu)).fO
theorem B4{ρ:List (Nat×Nat)}:∀ {us vs:List AV},Aw ρ s t us vs->us.length=vs.length/\∀ i,vs.getD i .any = .any\/AV.fit ρ s t (us.getD i .any) (vs.getD i .any)
 | [],[],_=>⟨rfl,λ i => .inl (by simp)⟩
 | u::us,v::vs,h=>by
  simp only[Aw] at h;split at h
  .obtain⟨h1,h2⟩:=B4 h;refine⟨by simp[h1],λ i=>?_⟩;cases i with
   | zero=>exact .inl rfl
   | succ i=>simpa using h2 i
  .obtain⟨h1,h2⟩:=B4 h.2;refine⟨by simp[h1],λ i=>?_⟩;cases i with
   | zero=>exact .inr h.1
   | succ i=>simpa using h2 i
 | [],_::_,h=>h.elim
 | _::_,[],h=>h.elim
def a3C(aU:Ty)(ys:List aU.den)(τ:Ty)(xs:List τ.den):Prop:=∀ (w:World) (η:Value) (fp:List Nat),iK w η aU ys fp->iK w η τ xs fp
theorem WO{aU:Ty}{ys:List aU.den}{τ:Ty}{xs:List τ.den}(h:WN aU ys τ xs):a3C aU ys τ xs:=by
 unfold WN at h;split at h
 .rename_i h1 h2;have h1:=b6n h1;have h2:=b6n h2;subst h1 h2;have h:=jZ h;rw[TV.Zo] at h;cases h;intro w η fp hT;obtain⟨v,l,a,cap,q1,q2,q3,q4,q5,q6⟩:=hT;have e1:(List.map toO ys).length=ys.length:=b6G _;have e2:((show List J from ys).map toO).map (Ty.aL (.st .oExpr))=ys.map (Ty.aL (.st .expr)):=by
   rw[List.map_map];refine b9Y λ x _=>?_;show aH.aL .oExpr (toO x)=aH.aL .expr x;rw[aH.bT,aH.bT];rfl
  refine⟨v,l,a,cap,q1,by rw[q2];exact congrArg (Value.slice a · cap) e1.symm,by exact e1 ▸ q3,q4,by exact e1 ▸ q5,?_⟩;rcases q6 with ⟨rfl,q7,q8⟩|⟨b,f,t,q7,q8,q9,q10,q11⟩
  .exact .inl ⟨rfl,q7,q8⟩
  .exact .inr ⟨b,f,t,q7,q8,q9,q10,e2 ▸ q11⟩
 .have h:=jZ h;cases h;exact λ _ _ _ h=>h
def a6z(ρ:List (Nat×Nat))(s t:aq)(id:Nat):av->Prop
 | .box bs=>∃ Z9,s.ai (c7 ρ id)=some (.box Z9)/\Hw ρ s t Z9 bs
 | .row e τ xs=>s.ai (c7 ρ id)=some (.row e τ xs)\/(s.ai (c7 ρ id)=none/\xs=[])
 | .aC τ xs=>(∃ aU ys,s.ai (c7 ρ id)=some (.aC aU ys)/\a3C aU ys τ xs)\/(s.ai (c7 ρ id)=none/\xs=[])
 | .map m=>s.ai (c7 ρ id)=some (.map m)
theorem Yd{a b:MV}(h:a0l a b):a=b:=by
 unfold a0l at h;split at h
 .rename_i f n hf;rw[MV.aN hf];simp only;rw[h.1,h.2]
 .exact h.elim
theorem lv{ρ:List (Nat×Nat)}:∀ {l:List (Nat×av)},kf ρ s t l->∀ id o,(id,o)∈l->a6z ρ s t id o
 | [],_,id,o,h=>by simp at h
 | (k, .box bs)::r,h,id,o,hm=>by
  simp only[kf] at h;split at h
  .rename_i Z9 ha;rcases b5X.1 hm with e|hm
   .simp only[b5H] at e;obtain⟨rfl,rfl⟩:=e;exact⟨Z9,ha,h.1⟩
   .exact lv h.2 id o hm
  .exact h.elim
 | (k, .row e τ xs)::r,h,id,o,hm=>by
  simp only[kf] at h;split at h
  .rename_i e' aU ys ha;split at h
   .rename_i he;have he:=b5G he;subst he;rcases b5X.1 hm with e1|hm
    .simp only[b5H] at e1;obtain⟨rfl,rfl⟩:=e1;have:=jZ h.1;cases this;exact .inl ha
    .exact lv h.2 id o hm
   .exact h.elim
  .rename_i ha;rcases b5X.1 hm with e1|hm
   .simp only[b5H] at e1;obtain⟨rfl,rfl⟩:=e1;exact .inr ⟨ha,h.1⟩
   .exact lv h.2 id o hm
  .exact h.elim
 | (k, .aC τ xs)::r,h,id,o,hm=>by
  simp only[kf] at h;split at h
  .rename_i aU ys ha;rcases b5X.1 hm with e1|hm
   .simp only[b5H] at e1;obtain⟨rfl,rfl⟩:=e1;exact .inl ⟨aU,ys,ha,WO h.1⟩
   .exact lv h.2 id o hm
  .rename_i ha;rcases b5X.1 hm with e1|hm
   .simp only[b5H] at e1;obtain⟨rfl,rfl⟩:=e1;exact .inr ⟨ha,h.1⟩
   .exact lv h.2 id o hm
  .exact h.elim
 | (k, .map m)::r,h,id,o,hm=>by
  simp only[kf] at h;split at h
  .rename_i m' ha;rcases b5X.1 hm with e1|hm
   .simp only[b5H] at e1;obtain⟨rfl,rfl⟩:=e1;rw[Yd h.1] at ha;exact ha
   .exact lv h.2 id o hm
  .exact h.elim
theorem EK{ρ:List (Nat×Nat)}(h:Inv c G s a w)(hf:Fits ρ s t):∃ G',Inv c G' t a w:=by
 unfold Fits at hf;split at hf;case h_2=>exact hf.elim
 case h_1 hb =>
  rw[b5M] at hb;obtain⟨hb,hb4⟩:=hb;rw[b5M] at hb;obtain⟨hb,QU⟩:=hb;simp only[b5M] at hb;obtain⟨hs,ho⟩:=hf;obtain⟨hlen,I1⟩:=B4 hs;have kh:=lv ho;have e9:∀ id b,dD (gh G s t ρ id)=some b->∃ o,s.ai (c7 ρ id)=some o/\dD (G.η (c7 ρ id))=some b:=by
   intro id b hb;unfold gh at hb;split at hb
   .rename_i o ho;exact⟨o,ho,hb⟩
   .split at hb<;>cases hb
  refine⟨⟨G.S,gh G s t ρ,qY G s ρ⟩,?_⟩;exact {
   defers:=h.defers
   size:=h.size.trans hlen
   keep:=h.keep,ju:=h.ju,eo:=h.eo,sX:=h.sX,dx:=h.dx
   aA:=λ i=>by
    rcases I1 i with e|e
    .rw[show t.sl i = .any from e];trivial
    .exact a7M e (h.aA i)
   aK:=λ id o aS=>by
    have hof:=kh id o (fM aS);cases o with
    | box bs =>
     obtain⟨Z9,h1,h2⟩:=hof;obtain⟨b,l,ty,k1,k2,k3⟩:=h.aK _ _ h1;refine⟨b,l,ty,?_,k2,EJ h2 k3⟩;simp only[gh,h1];exact k1
    | row e τ xs =>
     rcases hof with h1|⟨h1,rfl⟩
     .obtain⟨l,k1,k2,k3⟩:=h.aK _ _ h1;refine⟨l,?_,k2,k3⟩;simp only[gh,h1];exact k1
     .refine⟨[],?_,rfl,by simp⟩;simp only[gh,h1,rH (show isRow (t.ai id)=true by rw[aS];rfl)];exact World.ownsRow_nil w 0 e τ.size
    | aC τ xs=>trivial
    | map m =>
     have h1:s.ai (c7 ρ id)=some (.map m):=hof;obtain⟨b,es,clock,k1,k2⟩:=h.aK _ _ h1;refine⟨b,es,clock,?_,k2⟩;simp only[gh,h1];exact k1
   place:=λ id o b aS im=>by
    obtain⟨o',h1,h2⟩:=e9 id b im;exact h.place _ _ b h1 h2
   apart:=λ id dk o o' b aS EX im b3G=>by
    obtain⟨p,h1,h2⟩:=e9 id b im;obtain⟨p',h3,h4⟩:=e9 dk b b3G;have:=h.apart _ _ _ _ b h1 h3 h2 h4;have C9:=zu (λ p:Nat×av=>c7 ρ p.1) (CB hb.2) (id,o) (fM aS) (dk,o') (fM EX) this;exact congrArg Prod.fst C9
   aP:=by
    have Rf:∀ id b,b∈qY G s ρ id->(∃ o,s.ai (c7 ρ id)=some o)/\b∈G.φ (c7 ρ id):=λ id b cw=>by
     unfold qY at cw;split at cw
     .rename_i o ho;exact⟨⟨o,ho⟩,cw⟩
     .simp at cw
    have wC:∀ id τ xs,t.ai id=some (.aC τ xs)->(∃ aU ys,s.ai (c7 ρ id)=some (.aC aU ys)/\a3C aU ys τ xs)\/(s.ai (c7 ρ id)=none/\xs=[]):=λ id τ xs aS=>kh id _ (fM aS);have fv:∀ id τ xs b,t.ai id=some (.aC τ xs)->b∈qY G s ρ id->∃ aU ys,s.ai (c7 ρ id)=some (.aC aU ys)/\b∈G.φ (c7 ρ id):=λ id τ xs b aS cw=>by
     obtain⟨⟨o,ho⟩,h2⟩:=Rf id b cw;rcases wC id τ xs aS with ⟨aU,ys,h1,_⟩|⟨h1,_⟩
     .exact⟨aU,ys,h1,h2⟩
     .rw[h1] at ho;cases ho
    exact {
     tr:=λ id τ xs aS=>by
      rcases wC id τ xs aS with ⟨aU,ys,h1,hle⟩|⟨h1,rfl⟩
      .simp only[gh,qY,h1];exact hle _ _ _ (h.aP.tr _ _ _ h1)
      .simp only[gh,qY,h1,show cR (t.ai id)=true by rw[aS];rfl];exact⟨_,[],none,0,rfl,rfl,by simp,by simp[maxLen],by simp, .inl ⟨rfl,⟨rfl,rfl⟩,rfl⟩⟩
     nd:=λ id τ xs aS=>by
      rcases wC id τ xs aS with ⟨aU,ys,h1,_⟩|⟨h1,_⟩
      .simp only[qY,h1];exact h.aP.nd _ _ _ h1
      .simp only[qY,h1];exact b7c
     pl:=λ id τ xs b aS cw=>by
      obtain⟨_,_,h1,h2⟩:=fv id τ xs b aS cw;obtain⟨q1,q2,q3,q4⟩:=h.aP.pl _ _ _ b h1 h2;refine⟨q1,q2,q3,λ i o hi tJ=>?_⟩;obtain⟨o',k1,k2⟩:=e9 i b tJ;exact q4 _ o' k1 k2
     ap:=λ id dk τ aU xs cK b aS EX wv ET=>by
      obtain⟨_,_,h1,h2⟩:=fv id τ xs b aS wv;obtain⟨_,_,h3,h4⟩:=fv dk aU cK b EX ET;have:=h.aP.ap _ _ _ _ _ _ b h1 h3 h2 h4;have C9:=zu (λ p:Nat×av=>c7 ρ p.1) (CB hb.2) (id, .aC τ xs) (fM aS) (dk, .aC aU cK) (fM EX) this;exact congrArg Prod.fst C9 }
   root:=λ id v hr ht=>by
    have hrg:=h.fZ id v hr;match hl:t.ai id,ht with
    | some (.aC τ xs),_ =>
     have hq:=b6y.1 QU _ (fM hl);simp only[b7d,b5M,b9p,Nat.ble_eq] at hq;rcases hq with hq|hq|⟨DY,E1⟩
     .omega
     .omega
     .have DY:=Nat.eq_of_beq_eq_true DY;obtain⟨l,h2⟩:=h.root id v hr E1;refine⟨l,?_⟩;show gh G s t ρ id=_;unfold gh;rw[DY];match hs:s.ai id,E1 with
      | some (.aC ..),_=>exact h2
   fZ:=h.fZ
   dj:=λ id v hr ht=>by
    have hrg:=h.eQ id v hr;match hl:t.ai id,ht with
    | some (.box cs),_ =>
     have hq:=b6y.1 hb4 _ (fM hl);simp only[fR,b5U,Bool.false_or,b7d,b5M,b9p] at hq;rcases hq with hq|⟨DY,E1⟩
     .omega
     .have DY:=Nat.eq_of_beq_eq_true DY;have h2:=h.dj id v hr E1;show gh G s t ρ id=_;unfold gh;rw[DY];match hs:s.ai id,E1 with
      | some (.box ..),_=>exact h2
   eQ:=h.eQ }
theorem fQ(hE:bl c.P c.E)(gX:c.P.follows .mixedOrders=true):∀ (O:Code) (Λ:Nat->aI) (cur:Nat) (Q:Exit->aq->Prop) (G:Gh) (s:aq) (a:Act) (w:World),
  Inv c G s a w->rU c.E O Λ cur Q s->O.wp c.P (λ e a w=>∃ G s,Inv c G s a w/\Q e s) a w
 | .skip,Λ,cur,Q,G,s,a,w,h,hr=>wp_skip ⟨G,s,h,hr⟩
 | .region id ops draw,Λ,cur,Q,G,s,a,w,h,hr=>by
  cases draw with
  | true=>exact Qb hE gX (Q:=Q .normal) (λ G s a w hI hq=>⟨G,s,hI,hq⟩) h hr
  | false =>
   refine wp_region ?_;have:=yO hE (ops:=ops) (Q:=Q .normal) (Q':=λ e a w=>∃ G s,Inv c G s a w/\Q e s) (λ G s a w hI hq=>⟨G,s,hI,hq⟩) ops.toList 0 [] G s a w (by simp) h hr;rw[List.range_eq_range'];simpa using this
 | .seq x y,Λ,cur,Q,G,s,a,w,h,hr=>by
  simp only[rU] at hr;split at hr;case h_2 ι P μ fz dead ins keep os UC ren sub hL =>
   obtain⟨hx,hy⟩:=hr;refine wp_seq (b9a (fQ hE gX x Λ cur _ G s a w h hx) ?_);rintro e a' w' ⟨G',s',hI,hq⟩;cases e with
   | normal =>
    obtain⟨j,hPj,hF⟩:=hq;obtain⟨G3,h3⟩:=hI.EM fz;obtain⟨G4,h4⟩:=EK h3 hF.ex.choose_spec;exact fQ hE gX y (sub j) cur Q G4 _ a' w' h4 (hy j hPj)
   | _=>exact⟨G',s',hI,hq⟩
  refine wp_seq (b9a (fQ hE gX x Λ cur _ G s a w h hr) ?_);rintro e a' w' ⟨G',s',hI,hq⟩;cases e with
  | normal=>exact fQ hE gX y Λ cur Q G' s' a' w' hI hq
  | _=>exact⟨G',s',hI,hq⟩
 | .cond x p q,Λ,cur,Q,G,s,a,w,h,hr=>by
  simp only[rU] at hr;split at hr
  .rename_i t ht;have hx:=aW h x;rw[ht] at hx;have hx:[a.eval x]=[.bool t]:=hx;simp only[b5J,b5W] at hx;refine wp_cond hx ?_;cases t with
   | true=>exact fQ hE gX p Λ cur Q G s a w h (hr.1 rfl)
   | false=>exact fQ hE gX q Λ cur Q G s a w h (hr.2 rfl)
  .exact hr.elim
 | .block id x,Λ,cur,Q,G,s,a,w,h,hr=>by
  refine wp_block (b9a (fQ hE gX x Λ id _ G s a w h hr) ?_);rintro e a' w' ⟨G',s',hI,hq⟩;cases e with
  | exit i =>
   simp only at hq;simp only[Exit.inBlock];split at hq
   .rename_i hi;rw[b5Q (b5G hi)];exact⟨G',s',hI,hq⟩
   .rename_i hi;have:i≠id:=λ e=>by subst e;simp at hi
    rw[b5I this];exact⟨G',s',hI,hq⟩
  | _=>exact⟨G',s',hI,hq⟩
 | .loop x,Λ,cur,Q,G,s,a,w,h,hr=>by
  simp only[rU] at hr;split at hr
  .exact hr.elim
  .rename_i ι P μ fz dead ins keep os UC ren sub hL;obtain⟨⟨i0,hP0,hF0⟩,a7Z⟩:=hr;obtain⟨G1,h1⟩:=h.EM fz;obtain⟨G2,h2⟩:=EK h1 hF0.ex.choose_spec;refine wp_loop_ghost (λ n a w=>∃ i G,P i/\μ i=n/\Inv c G (qC s (dead++Code.Bz x) (ins i) keep (os i)) a w) (μ i0) ⟨i0,G2,hP0,rfl,h2⟩ ?_;rintro n a' w' ⟨i,G',hP,rfl,hI⟩;refine b9a (fQ hE gX x (sub i) cur _ G' _ a' w' hI (a7Z i hP)) ?_;rintro e a'' To ⟨G'',s'',a9l,hq⟩;cases e with
   | normal =>
    obtain⟨j,hPj,bp,hF⟩:=hq;obtain⟨G3,h3⟩:=a9l.EM fz;obtain⟨G4,h4⟩:=EK h3 hF.ex.choose_spec;exact⟨μ j,bp,j,G4,hPj,rfl,h4⟩
   | _=>exact⟨G'',s'',a9l,hq⟩
 | .exit id,Λ,cur,Q,G,s,a,w,h,hr=>wp_exit ⟨G,s,h,hr⟩
 | .ret,Λ,cur,Q,G,s,a,w,h,hr=>wp_ret ⟨G,s,h,hr⟩
 | .label l,Λ,cur,Q,G,s,a,w,h,hr=>wp_label ⟨G,s,h,hr⟩
 | .rangeFunc ..,_,_,_,_,_,_,_,_,hr=>hr.elim
 | .scope ..,_,_,_,_,_,_,_,_,hr=>hr.elim
 | .goto ..,_,_,_,_,_,_,_,_,hr=>hr.elim
 | .refuse ..,_,_,_,_,_,_,_,_,hr=>hr.elim
end
theorem aM.replicate{α β:Type}{R:α->β->Prop}{a:α}{b:β}(xG:R a b):∀ n:Nat,aM R (List.replicate n a) (List.replicate n b)
 | 0=>trivial
 | n+1=>⟨xG,aM.replicate xG n⟩
theorem aM.oS{α β:Type}{R:α->β->Prop}{Z9:List α}{bs:List β}(h:aM R Z9 bs){a:α}{b:β}(xG:R a b)(n:Nat):aM R (Z9++List.replicate n a) (bs++List.replicate n b) :=
 h.append (aM.replicate xG n)
theorem aM.getD{α β:Type}{R:α->β->Prop}{d:α}{e:β}(hde:R d e):∀ {Z9:List α} {bs:List β},aM R Z9 bs->∀ i:Nat,R (Z9.getD i d) (bs.getD i e)
 | [],[],_,i=>by simpa using hde
 | a::Z9,b::bs,h,0=>h.1
 | a::Z9,b::bs,h,i+1=>by simpa using aM.getD hde h.2 i
 | [],_::_,h,_=>h.elim
 | _::_,[],h,_=>h.elim
section
variable {P:Program} {E:Env}
def a3u(P:Program)(w:World)(S:Nat->Prop):Arg->Value->Prop
 | .own _,_=>True
 | .box _,_=>True
 | a,x=>vC P w S a x
theorem Ol{w:World}{S X:Nat->Prop}(hS:pO w S)(hX:∀ b,X b->b<w.heap.size/\¬ S b){fn:Func}{args:List Arg}{bK:List Value}(ha:aM (a3u P w S) args bK)(N4:(∀ b,¬ X b)\/∀ a∈args,a.Js=true) :
  Inv ⟨P,E,w,X,S,λ _=>none,λ _=>False,λ _=>none⟩ ⟨S,λ _=>undef,λ _=>[]⟩ (dI fn args) { tmps:=bK.toArray++Array.replicate (fn.ntmps - bK.toArray.size) undef,defers:=[] } w:=by
 have hlen:=ha.length;have I1:∀ v x,v∈args->a3u P w S v x->VR ⟨P,E,w,X,S,λ _=>none,λ _=>False,λ _=>none⟩ ⟨S,λ _=>undef,λ _=>[]⟩ (dI fn args).ai w (yN v) x:=by
  intro v x hm h;cases v with
  | val v=>exact h
  | ref v =>
   obtain⟨b,o,cs,h1,h2,h3,h4⟩:=h;exact⟨b,o,cs,h1, .inr ⟨h2,N4.elim (λ q=>⟨q b,λ z=>z⟩) λ q=>absurd (q _ hm) (by simp[Arg.Js])⟩,h3,h4⟩
  | fn f=>exact h
  | cO v =>
   obtain⟨f,ew,l,h1,h2,h3⟩:=h;refine⟨f,ew,l,h1,h2,h3.imp λ u y _ hy=>?_⟩;cases u with
   | val v=>exact hy
   | ref v =>
    obtain⟨b,o,cs,k1,k2,k3,k4⟩:=hy;exact⟨b,o,cs,k1, .inr ⟨k2,N4.elim (λ q=>⟨q b,λ z=>z⟩) λ q=>absurd (q _ hm) (by simp[Arg.Js])⟩,k3,k4⟩
   | fn f=>exact hy
   | cO v=>exact hy.elim
   | own v=>exact hy.elim
   | box k=>exact hy.elim
  | own v=>trivial
  | box k=>trivial
 exact {
  defers:=rfl
  size:=by simp[dI,hlen]
  keep:=bX.refl _ _
  ju:=⟨λ b h=>(hX b h).1,λ g hg=>⟨(hS.2 g hg).1,λ q=>(hX g q).2 (hS.2 g hg).1,hS.1 g (hS.2 g hg).1,(hS.2 g hg).2⟩⟩
  eo:=λ b _ _=>b7k
  sX:=λ b hs=>hs
  dx:=hS.1
  aA:=λ i=>by
   have h1:aM (λ v x=>VR ⟨P,E,w,X,S,λ _=>none,λ _=>False,λ _=>none⟩ ⟨S,λ _=>undef,λ _=>[]⟩ (dI fn args).ai w v x) (args.map yN) bK:=aM.dA _ (ha.imp λ v x hm h=>I1 v x hm h);have h2:=aM.getD (d:=AV.any) (e:=undef) (show VR ⟨P,E,w,X,S,λ _=>none,λ _=>False,λ _=>none⟩ ⟨S,λ _=>undef,λ _=>[]⟩ (dI fn args).ai w .any undef from trivial) (h1.oS (a:=AV.any) (b:=undef) (show VR ⟨P,E,w,X,S,λ _=>none,λ _=>False,λ _=>none⟩ ⟨S,λ _=>undef,λ _=>[]⟩ (dI fn args).ai w .any undef from trivial) (fn.ntmps - args.length)) i;have e1:(dI fn args).sl i=(args.map yN++List.replicate (fn.ntmps - args.length) AV.any).getD i AV.any:=rfl;have e2:(bK.toArray++Array.replicate (fn.ntmps - bK.toArray.size) undef).getD i undef=(bK++List.replicate (fn.ntmps - args.length) undef).getD i undef:=by
    rw[b6D,b5P,<-b8S];simp[hlen]
   rw[e1,e2];exact h2
  aK:=λ id o h=>by cases h
  place:=λ id o b h=>by cases h
  apart:=λ id dk o o' b h=>by cases h
  aP:=⟨(λ id τ xs h=>by cases h),(λ id τ xs h=>by cases h),(λ id τ xs b h=>by cases h),(λ id dk τ aU xs cK b h=>by cases h)⟩
  root:=λ id v h=>by cases h
  fZ:=λ id v h=>by cases h
  dj:=λ id v h=>by cases h
  eQ:=λ id v h=>by cases h }
theorem a0Q{w:World}{S:Nat->Prop}(hS:pO w S){fn:Func}{args:List Arg}{bK:List Value}(ha:aM (vC P w S) args bK) :
  Inv ⟨P,E,w,λ _=>False,S,λ _=>none,λ _=>False,λ _=>none⟩ ⟨S,λ _=>undef,λ _=>[]⟩ (dI fn args) { tmps:=bK.toArray++Array.replicate (fn.ntmps - bK.toArray.size) undef,defers:=[] } w :=
 Ol hS (λ _ h=>h.elim) (ha.imp λ v x _ h=>by
  cases v with
  | own v=>trivial
  | box k=>exact h.elim
  | _=>exact h) (.inl λ _ h=>h)
def oH(tmps:Array Value):ResultVar->Sem Value
 | .tmp t=>pure (tmps.getD t undef)
 | .cell a t=>do loadVar t (<-asAddr (tmps.getD a undef))
theorem sN(fn:Func)(tmps:Array Value):results fn tmps=(do
  let vs <-fn.results.mapM (oH tmps)
  pure (if h:vs.size=1 then vs[0] else .tuple vs)):=by
 unfold results;congr 1
theorem Ln(hE:bl P E){c:Ctx}(VQ:c.P=P)(XG:c.E=E){G:Gh}{s:aq}{a:Act}{w:World}(h:Inv c G s a w):∀ {rs:List ResultVar} {Ts:List TypeId} {vs:List TV},Ng E s rs Ts=some vs ->
  ∃ xs,(rs.mapM (oH a.tmps)).run P w = .ok xs w/\aM (dE w (SX G s.ai)) vs xs
 | [],[],vs,hr=>by
  simp only[Ng,b5E] at hr;subst hr;exact⟨[],by simp,af⟩
 | r::rs,T::Ts,vs,hr=>by
  simp only[Ng] at hr;split at hr
  .rename_i τ q hT;split at hr
   .rename_i x hx;split at hr
    .rename_i l hl;simp only[b5E] at hr;subst hr;obtain⟨xs,h1,h2⟩:=Ln hE VQ XG h hl;cases r with
     | tmp t =>
      refine⟨a.tmps.getD t undef::xs,by simp[b8u,oH,h1],xO h.aP h.aK (FM λ _ _ h=>h) hx (aW h (.tmp t)),h2⟩
     | cell p t =>
      simp only at hx;split at hx
      .rename_i hb;have hb:=Nat.eq_of_beq_eq_true hb;subst hb;unfold deref at hx;split at hx
       .rename_i u hu;obtain⟨b,o,cs,k1,k2,k3,k4⟩:=pt h.aK (FM λ _ _ h=>h) hu (aW h (.tmp p));have cJ:=jB hE hT k2 k3;have k1':a.tmps.getD p undef = .pointer (some ⟨b,o,none⟩):=k1;refine⟨A2 τ cs::xs,?_,xO h.aP h.aK (FM λ _ _ h=>h) hx k4,h2⟩;simp only[Instr.loadAt,Instr.sureAddr,b6p,b6q,b6i] at cJ;simp only[b8u,oH,k1',asAddr,b6p,b6q,b6i,cJ,h1]
       .cases hx
      .cases hx
    .cases hr
   .cases hr
  .cases hr
 | [],_::_,_,hr=>by cases hr
 | _::_,[],_,hr=>by cases hr
theorem a5H{w:World}{S:Nat->Prop}:∀ {vs:List TV} {xs:List Value},aM (dE w S) vs xs->Hk w S vs (if h:xs.toArray.size=1 then xs.toArray[0] else .tuple xs.toArray)
 | [],[],_=>⟨[],by simp,af⟩
 | [v],[x],h=>by simpa [Hk] using h.1
 | v::u::r,x::y::z,h=>⟨x::y::z,by simp,h⟩
 | [],_::_,h=>h.elim
 | _::_,[],h=>h.elim
 | [_],_::_::_,h=>h.2.elim
 | _::_::_,[_],h=>h.2.elim
theorem Ub(hE:bl P E)(gX:P.follows .mixedOrders=true){f:FuncId}{fn:Func}{O:Code}(hf:P.funcs[f]?=some fn)(hb:fn.body=some O)(Λ:Nat->aI){args:List Arg}{post:List TV->Prop}
  (h:rU E O Λ 0 (wi E fn post) (dI fn args)):gN P f args post:=by
 intro w S bK hS ha;refine b9L hf hb ?_;have hinv:=a0Q (P:=P) (E:=E) (fn:=fn) hS ha;refine b9a (fQ (c:=⟨P,E,w,λ _=>False,S,λ _=>none,λ _=>False,λ _=>none⟩) hE gX O Λ 0 _ _ _ _ w hinv h) ?_;have fin:∀ (e:Exit) (a:Act) (w':World),(e = .normal\/e = .ret)->(∃ G s,Inv ⟨P,E,w,λ _=>False,S,λ _=>none,λ _=>False,λ _=>none⟩ G s a w'/\wi E fn post e s) ->
   a.defers=[]/\∃ v,(results fn a.tmps).run P w' = .ok v w'/\∃ x S' res,Ending.returned v = .returned x/\post res/\bX (λ _=>False) w w'/\(∀ b,b<w.heap.size->(S' b↔S b))/\(∀ b,S' b->b<w'.heap.size)/\Hk w' S' res x:=by
  rintro e a w' he ⟨G,s,hI,hp⟩;have KK:∃ vs,Ng E s fn.results.toList fn.resultTypes.toList=some vs/\post vs:=by
   rcases he with rfl|rfl <;>
   .simp only[wi] at hp;split at hp
    .rename_i vs zq;exact⟨vs,zq,hp⟩
    .exact hp.elim
  obtain⟨vs,zq,Q3⟩:=KK;obtain⟨xs,h1,h2⟩:=Ln hE (c:=⟨P,E,w,λ _=>False,S,λ _=>none,λ _=>False,λ _=>none⟩) rfl rfl hI zq;refine⟨hI.defers,(if h:xs.toArray.size=1 then xs.toArray[0] else .tuple xs.toArray),?_,_,SX G s.ai,vs,rfl,Q3,hI.keep,λ b hb=>?_,λ b hb=>?_,a5H h2⟩
  .rw[sN,b7V];simp only[b6p,b9M,h1];rfl
  .constructor
   .rintro (hs|⟨id,e',τ,ys,aS,im⟩|⟨id,τ,ys,aS,im⟩)
    .exact (hI.eo b hb (λ q=>q)).1 hs
    .rcases (hI.place id _ b aS im).1 with VT|hx
     .have:w.heap.size<=b:=VT;omega
     .exact hx.elim
    .rcases (hI.aP.pl id _ _ b aS im).1 with VT|hx
     .have:w.heap.size<=b:=VT;omega
     .exact hx.elim
   .exact λ hs => .inl ((hI.eo b hb (λ q=>q)).2 hs)
  .rcases hb with hs|⟨id,e',τ,ys,aS,im⟩|⟨id,τ,ys,aS,im⟩
   .exact hI.dx b hs
   .exact (hI.place id _ b aS im).2.2
   .exact (hI.aP.pl id _ _ b aS im).2.2.1
 intro e a w' hq;cases e with
 | normal=>exact fin .normal a w' (.inl rfl) hq
 | ret=>exact fin .ret a w' (.inr rfl) hq
 | exit i=>obtain⟨_,_,_,hp⟩:=hq;exact hp.elim
 | goto l=>obtain⟨_,_,_,hp⟩:=hq;exact hp.elim
 | panic ch=>obtain⟨_,_,_,hp⟩:=hq;exact hp.elim
 | outgrown=>obtain⟨_,_,_,hp⟩:=hq;exact hp.elim
end
def sT(E:Env)(s:aq):List ResultVar->List TypeId->Option (List TV×List Nat)
 | [],[]=>some ([],[])
 | r::rs,T::Ts=>match ai E.ty T with
  | some (
      τ,_)=>match (match r with
    | .tmp t=>Jz s.ai τ (s.eval (.tmp t))
    | .cell p t=>match Nat.beq t T with
     | true=>match rC s.ai τ (s.eval (.tmp p)) with
      | some u=>Jz s.ai τ u
      | none=>none
     | false=>none) with
   | some (x,i)=>match sT E s rs Ts with
    | some (l,j)=>some (⟨τ,x⟩::l,i++j)
    | none=>none
   | none=>none
  | none=>none
 | _,_=>none
def Be(E:Env)(fn:Func)(post:List TV->Prop)(e:Exit)(s:aq):Prop :=
 match e with
 | .ret | .normal=>match sT E s fn.results.toList fn.resultTypes.toList with
  | some (vs,ids)=>match nodupB ids with
   | true=>post vs
   | false=>False
  | none=>False
 | _=>False
section
variable {P:Program} {E:Env}
theorem CJ{c:Ctx}(hE:bl c.P c.E)(VQ:c.P=P)(XG:c.E=E){G:Gh}{s:aq}{a:Act}{w:World}(h:Inv c G s a w):∀ {rs:List ResultVar} {Ts:List TypeId} {vs:List TV} {ids:List Nat},sT E s rs Ts=some (vs,ids)->ids.Nodup ->
  ∃ xs fp,(rs.mapM (oH a.tmps)).run P w = .ok xs w/\JG w vs xs fp/\fp.Nodup/\∀ b∈fp,vF G s.ai ids b
 | [],[],vs,ids,hr,_=>by
  simp only[sT,b5E,b5H] at hr;obtain⟨rfl,rfl⟩:=hr;exact⟨[],[],by simp,rfl,b7c,by simp⟩
 | r::rs,T::Ts,vs,ids,hr,c6=>by
  simp only[sT] at hr;split at hr;case h_2=>cases hr
  case h_1 τ q hT =>
  split at hr;case h_2=>cases hr
  case h_1 x i hx =>
  split at hr;case h_2=>cases hr
  case h_1 l j hl =>
  simp only[b5E,b5H] at hr;obtain⟨rfl,rfl⟩:=hr;rw[b6l] at c6;obtain⟨n1,n2,n3⟩:=c6;obtain⟨xs,fp,h1,h2,h3,h4⟩:=CJ hE VQ XG h hl n2;cases r with
  | cell p t =>
   simp only at hx;split at hx;case h_2=>cases hx
   case h_1 hb =>
   have hb:=b5G hb;subst hb;split at hx;case h_2=>cases hx
   case h_1 u hu =>
   obtain⟨b,o,cs,q1,q2,q3,q4⟩:=pt h.aK (λ _ _ h=>h) hu (aW h (.tmp p));subst VQ XG;have cJ:=jB hE hT q2 q3;have q1':a.tmps.getD p undef = .pointer (some ⟨b,o,none⟩):=q1;obtain⟨f1,k1,k2,k3⟩:=sU h hx q4 n1;refine⟨A2 τ cs::xs,f1++fp,?_,⟨f1,fp,rfl,k1,h2⟩,dS k2 h3 λ b hb cw=>h.iD (k3 b hb) (h4 b cw) (λ x hx y hy=>n3 x hx y hy),λ b hb=>?_⟩
   .simp only[Instr.loadAt,Instr.sureAddr,b6p,b6q,b6i] at cJ;simp only[b8u,oH,q1',asAddr,b6p,b6q,b6i,cJ,h1]
   .rcases b5F.1 hb with hb|hb
    .exact (k3 b hb).mono λ k hk=>by simp[hk]
    .exact (h4 b hb).mono λ k hk=>by simp[hk]
  | tmp t =>
   obtain⟨f1,k1,k2,k3⟩:=sU h hx (aW h (.tmp t)) n1;refine⟨a.tmps.getD t undef::xs,f1++fp,by simp[b8u,oH,h1],⟨f1,fp,rfl,k1,h2⟩,dS k2 h3 λ b hb cw=>h.iD (k3 b hb) (h4 b cw) (λ x hx y hy=>n3 x hx y hy),λ b hb=>?_⟩;rcases b5F.1 hb with hb|hb
   .exact (k3 b hb).mono λ k hk=>by simp[hk]
   .exact (h4 b hb).mono λ k hk=>by simp[hk]
 | [],_::_,_,_,hr,_=>by cases hr
 | _::_,[],_,_,hr,_=>by cases hr
theorem Ut{w:World}:∀ {vs:List TV} {xs:List Value} {fp:List Nat},JG w vs xs fp->H4 w vs (if h:xs.toArray.size=1 then xs.toArray[0] else .tuple xs.toArray) fp
 | [],[],fp,h=>⟨[],by simp,h⟩
 | [v],[x],fp,h=>by
  obtain⟨f1,f2,rfl,h1,h2⟩:=h;have h2:f2=[]:=h2;subst h2;simpa [H4] using h1
 | v::u::r,x::y::z,fp,h=>⟨x::y::z,by simp,h⟩
 | [],_::_,_,h=>h.elim
 | _::_,[],_,h=>h.elim
 | [_],_::_::_,_,h=>by obtain⟨_,_,_,_,h⟩:=h;exact h.elim
 | _::_::_,[_],_,h=>by obtain⟨_,_,_,_,h⟩:=h;exact h.elim
theorem lP:∀ {us:List TV} {id:Nat} {p:Nat×av},p∈bJ id us->id<=p.1/\p.1<id+us.length
 | [],id,p,h=>by cases h
 | u::us,id,p,h=>by
  rcases b5F.1 h with h|h
  .have:=Oc h;simp only[b5S];omega
  .have:=lP h;simp only[b5S];omega
theorem pD:∀ {us:List TV} {id:Nat},((bJ id us).map (·.1)).Nodup
 | [],id=>b7c
 | u::us,id=>by
  simp only[bJ,b7t];refine dS ?_ pD λ x hx zt=>?_
  .obtain⟨τ,y⟩:=u;cases τ<;>simp[fC]
  .obtain⟨p,hp,rfl⟩:=b5N.1 hx;obtain⟨q,hq,e⟩:=b5N.1 zt;have h1:=Oc hp;have h2:=lP hq;omega
theorem a2B(v:TV):v.cells.length<=100:=by
 obtain⟨τ,y⟩:=v;cases τ with
 | st s =>
  show (s.cells y).length<=100;rw[aH.gm];exact Ty.size_le (.st s)
 | _=>exact Nat.succ_le_of_lt (Nat.zero_lt_of_lt (by decide:0<100))
theorem zO{c:Ctx}{a:Act}{w:World}{S:Nat->Prop}(hR:∀ j,c.R j=none):∀ {Z9:List Arg} {xs:List Value} {fp:List Nat} {p:Nat} {G:Gh} {s:aq},Inv c G s a w->td P w S Z9 xs fp->fp.Nodup->Fr c G s.ai w fp ->
  (∀ i x,xs[i]?=some x->a.tmps.getD (p+i) undef=x)->p+Z9.length<=s.aA.length->(∀ id o,s.ai id=some o->id<1000000+100 * p)->∃ G',Inv c G' (rh p Z9 s) a w
 | [],xs,fp,p,G,s,h,_,_,_,_,_,_=>⟨G,h⟩
 | b::Z9,[],fp,p,G,s,h,hA,_,_,_,_,_=>hA.elim
 | b::Z9,x::xs,fp,p,G,s,h,hA,c6,hF,hx,hlen,aS=>by
  obtain⟨f1,f2,rfl,hb,hA⟩:=hA;rw[b6l] at c6;obtain⟨n1,n2,n3⟩:=c6;simp only[b5S] at hlen;have zt:∀ i y,xs[i]?=some y->a.tmps.getD (p+1+i) undef=y:=λ i y hi=>by
   have:=hx (i+1) y (by simpa using hi);rwa [show p+(i+1)=p+1+i by omega] at this
  have other:f1=[]->rh p (b::Z9) s=rh (p+1) Z9 s->∃ G',Inv c G' (rh p (b::Z9) s) a w:=λ hf e=>by
   subst hf;rw[e];exact zO hR h hA n2 (λ q hq=>hF q (by simp[hq])) zt (by omega) λ id o ho=>by have:=aS id o ho;omega
  cases b with
  | own v =>
   have hO:yM w v x f1:=hb;obtain⟨G1,uS,l1,i1,e1,t1,ZP⟩:=bf.Pn (id:=1000000+100 * p) h hO n1 (λ q hq=>hF q (by simp[hq]))
    (λ q hq=>by
     cases E1:s.ai q.1 with
     | none=>rfl
     | some o=>have h1:=aS _ o E1;have h2:=lP hq;omega) pD (λ j _=>hR j)
   have bS:aq.ai { aA:=s.aA.set p (iV (1000000+100 * p) v),aK:=bJ (1000000+100 * p) v.cells++s.aK }=uS:=by
    funext i;rw[l1 i];exact oB _ _ i
   have hI:Inv c G1 { aA:=s.aA.set p (iV (1000000+100 * p) v),aK:=bJ (1000000+100 * p) v.cells++s.aK } a w:=by
    unfold Inv;rw[bS,show aq.sl { aA:=s.aA.set p (iV (1000000+100 * p) v),aK:=bJ (1000000+100 * p) v.cells++s.aK }=jD s.aA.length s.sl (some p) (iV (1000000+100 * p) v) from pJ s.aA p _ _,
     show ({ aA:=s.aA.set p (iV (1000000+100 * p) v),aK:=bJ (1000000+100 * p) v.cells++s.aK }:aq).aA.length=s.aA.length from by simp]
    exact { i1 with
     aA:=λ i=>by
      unfold jD;split
      .rename_i hi;obtain⟨e,_⟩:=hi;simp only[b5E] at e;subst e;rw[show a.tmps.getD p undef=x from hx 0 x rfl];exact t1.fO
      .exact i1.aA i }
   obtain⟨G2,h2⟩:=zO hR hI hA n2 (by
    rw[bS];exact ZP f2 (λ q hq=>hF q (by simp[hq])) λ q hq XS=>n3 q XS q hq rfl) zt (by simp;omega) (λ id o ho=>by
     rw[bS,l1 id] at ho;unfold gf at ho;split at ho
     .rename_i o' cI;have h1:=lP (fM cI);have h2:=a2B v;simp only at h1;omega
     .have:=aS id o ho;omega)
   exact⟨G2,h2⟩
  | val v=>exact other hb.1 rfl
  | ref v=>exact other hb.1 rfl
  | fn v=>exact other hb.1 rfl
  | cO v=>exact other hb.1 rfl
  | box k=>exact other hb.1 rfl
theorem td.vI{w:World}{S:Nat->Prop}:∀ {Z9:List Arg} {xs:List Value} {fp:List Nat},td P w S Z9 xs fp->aM (a3u P w S) Z9 xs
 | [],[],_,_=>trivial
 | a::Z9,x::xs,_,h=>by
  obtain⟨f1,f2,_,h1,h2⟩:=h;refine⟨?_,td.vI h2⟩;cases a with
  | own v=>trivial
  | box k=>exact h1.2.elim
  | _=>exact h1.2
 | [],_::_,_,h=>h.elim
 | _::_,[],_,h=>h.elim
theorem YX{w:World}{S:Nat->Prop}(hS:pO w S){fn:Func}{args:List Arg}{bK:List Value}{fa:List Nat}(ha:td P w S args bK fa)(N4:fa=[]\/∀ a∈args,a.Js=true)(c6:fa.Nodup)(Cb:∀ b∈fa,b<w.heap.size/\¬ S b) :
  ∃ G,Inv ⟨P,E,w,λ b=>b∈fa,S,λ _=>none,λ _=>False,λ _=>none⟩ G (Lw fn args) { tmps:=bK.toArray++Array.replicate (fn.ntmps - bK.toArray.size) undef,defers:=[] } w:=by
 have h0:=Ol (P:=P) (E:=E) (fn:=fn) hS (X:=λ b=>b∈fa) Cb ha.vI (N4.imp_left λ e b hb=>by rw[e] at hb;cases hb);have hlen:=ha.vI.length;refine zO (S:=S) (λ _=>rfl) h0 ha c6 (λ b hb=>⟨.inr hb,(Cb b hb).2,(Cb b hb).1,λ i o h=>(by cases h),λ j τ xs h=>by cases h⟩) (λ i x hi=>?_) (by simp[dI]<;>omega) (λ id o h=>by cases h);rw[Nat.zero_add,Array.getD_eq_getD_getElem?,Array.getElem?_append_left (by simpa using (List.getElem?_eq_some_iff.1 hi).1)];simp[hi]
theorem Hx(hE:bl P E)(gX:P.follows .mixedOrders=true){f:FuncId}{fn:Func}{O:Code}(hf:P.funcs[f]?=some fn)(hb:fn.body=some O)(Λ:Nat->aI){args:List Arg}{res:List TV}{post:List TV->Prop}(Q3:∀ vs,post vs->vs=res)
  (h:rU E O Λ 0 (Be E fn post) (Lw fn args)):vH P f args res:=by
 intro w S bK fa hS ha N4 qD Cb;refine b9L hf hb ?_;obtain⟨G0,hinv⟩:=YX (P:=P) (E:=E) (fn:=fn) hS ha N4 qD Cb;refine b9a (fQ (c:=⟨P,E,w,λ b=>b∈fa,S,λ _=>none,λ _=>False,λ _=>none⟩) hE gX O Λ 0 _ _ _ _ w hinv h) ?_;have fin:∀ (e:Exit) (a:Act) (w':World),(e = .normal\/e = .ret)->(∃ G s,Inv ⟨P,E,w,λ b=>b∈fa,S,λ _=>none,λ _=>False,λ _=>none⟩ G s a w'/\Be E fn post e s) ->
   a.defers=[]/\∃ v,(results fn a.tmps).run P w' = .ok v w'/\∃ x fp,Ending.returned v = .returned x/\bX (λ b=>b∈fa) w w'/\H4 w' res x fp/\fp.Nodup/\∀ b∈fp,b∈fa\/(w.heap.size<=b/\b<w'.heap.size):=by
  rintro e a w' he ⟨G,s,hI,hp⟩;have KK:∃ vs ids,sT E s fn.results.toList fn.resultTypes.toList=some (vs,ids)/\ids.Nodup/\vs=res:=by
   rcases he with rfl|rfl <;>
   .simp only[Be] at hp;split at hp
    .rename_i vs ids zq;split at hp
     .rename_i hn;exact⟨vs,ids,zq,cZ hn,Q3 vs hp⟩
     .exact hp.elim
    .exact hp.elim
  obtain⟨vs,ids,zq,hn,rfl⟩:=KK;obtain⟨xs,fp,h1,h2,h3,h4⟩:=CJ (P:=P) (E:=E) (c:=⟨P,E,w,λ b=>b∈fa,S,λ _=>none,λ _=>False,λ _=>none⟩) hE rfl rfl hI zq hn;refine⟨hI.defers,(if h:xs.toArray.size=1 then xs.toArray[0] else .tuple xs.toArray),?_,_,fp,rfl,hI.keep,Ut h2,h3,λ b hb=>?_⟩
  .rw[sN,b7V];simp only[b6p,b9M,h1];rfl
  .obtain⟨id,hi,hq⟩:=h4 b hb;rcases hq with ⟨τ,ys,q1,q2⟩|⟨e',τ,ys,q1,q2⟩
   .obtain⟨p1,_,p3,_⟩:=hI.aP.pl id τ ys b q1 q2;exact p1.elim (λ q => .inr ⟨q,p3⟩) .inl
   .obtain⟨p1,_,p3⟩:=hI.place id _ b q1 q2;exact p1.elim (λ q => .inr ⟨q,p3⟩) .inl
 intro e a w' hq;cases e with
 | normal=>exact fin .normal a w' (.inl rfl) hq
 | ret=>exact fin .ret a w' (.inr rfl) hq
 | exit i=>obtain⟨_,_,_,hp⟩:=hq;exact hp.elim
 | goto l=>obtain⟨_,_,_,hp⟩:=hq;exact hp.elim
 | panic ch=>obtain⟨_,_,_,hp⟩:=hq;exact hp.elim
 | outgrown=>obtain⟨_,_,_,hp⟩:=hq;exact hp.elim
end
def lD:List CK->List TV->Nat->List AV
 | .d _::ks,v::ds,n => .aO v::lD ks ds n
 | .o _::ks,v::ds,n=>kk n v::lD ks ds (n+1)
 | .p j::ks,ds,n => .ptr (400000+j) 0::lD ks ds n
 | _,_,_=>[]
def lC:Nat->List (List CK)->List (List TV)->Nat->List (Nat×av)
 | k,ks::sh,ds::bz,n=>(400000+k, .box (lD ks ds n))::lC (k+1) sh bz (n+(du ks ds).length)
 | _,_,_,_=>[]
def jP:List (List CK)->List (List TV)->List TV
 | ks::sh,ds::bz=>du ks ds++jP sh bz
 | _,_=>[]
def U9:Arg->AV
 | .box k => .ptr (400000+k) 0
 | a=>yN a
def dQ(fn:Func)(args:List Arg)(sh:List (List CK))(bz:List (List TV)):aq :=
 { aA:=args.map U9++List.replicate (fn.ntmps - args.length) .any,aK:=lC 0 sh bz 1000000++bJ 1000000 (jP sh bz) }
def idM(n:Nat):List (Nat×Nat):=(List.range n).map λ k=>(k,400000+k)
def Gw(E:Env)(fn:Func)(sh:List (List CK))(post:List TV->List (List TV)->Prop)(e:Exit)(s:aq):Prop :=
 match e with
 | .ret | .normal=>match sT E s fn.results.toList fn.resultTypes.toList with
  | some (vs,ids)=>match iH s.ai sh 0 (idM sh.length) with
   | some (bz,E5,m)=>match nodupB (ids++E5)&&Nat.beq m.length sh.length with
    | true=>post vs bz
    | false=>False
   | none=>False
  | none=>False
 | _=>False
theorem a2Z:∀ (n:Nat) (k:Nat),ai (idM n) k=if k<n then some (400000+k) else none:=by
 intro n k;have key:∀ (l:List Nat),l.Nodup->ai (l.map λ k=>(k,400000+k)) k=if k∈l then some (400000+k) else none:=by
  intro l;induction l with
  | nil=>intro _;rfl
  | cons j l ih =>
   intro hn;simp only[b6z] at hn;rw[b6w,oC,ih hn.2];by_cases hk:k=j
   .subst hk;simp
   .simp[hk]
 rw[idM,key _ b8Q];simp
section
variable {P:Program} {E:Env}
theorem TD{w:World}{S:Nat->Prop}{B:Nat->Nat}:∀ {sh:List (List CK)} {k:Nat} {bz:List (List TV)} {n:Nat} {fa:List Nat},ft w S B k sh bz fa ->
  ∃ xs,cW w ((jP sh bz).map TV.aL) xs fa/\(∀ u∈jP sh bz,u.τ.agg=false) /\
   ∀ p∈lC k sh bz n,∃ j cs l t,p=(400000+j, .box cs)/\k<=j/\j<k+sh.length/\w.heap[B j]?=some (.cells l.toArray t (0,0))/\l.length=cs.length /\
    ∀ (c:Ctx) (G:Gh) (lk:Nat->Option av) (N:Nat),(∀ b,S b->G.S b)->(∀ j,j<N->G.η (400000+j) = .pointer (some ⟨B j,0,none⟩)/\fR (lk (400000+j))=true)->(∀ ks∈sh,∀ j,CK.p j∈ks->j<N) ->
     aM (C1 c G lk w) (bW n (jP sh bz)) xs->aM (C1 c G lk w) cs l
 | [],k,[],n,fa,h=>⟨[],⟨rfl,h⟩,by simp[jP],by simp[lC]⟩
 | ks::sh,k,ds::bz,n,fa,h=>by
  obtain⟨l,t,f1,f2,rfl,hw,hB,hbs⟩:=h;obtain⟨xs,q1,q2,q3⟩:=TD (n:=n+(du ks ds).length) hbs;obtain⟨o1,o2,o3⟩:=hB.uL;have hlen:∀ (us:List TV) (n:Nat),(bW n us).length=us.length:=λ us=>by
   induction us with
   | nil=>intro n;rfl
   | cons u us ih=>intro n;simp[bW,ih]
  have xH:∀ {ks:List CK} {ds:List TV} {l:List Value} {fp:List Nat} {n:Nat},iJ w S B ks ds l fp->l.length=(lD ks ds n).length:=by
   intro ks;induction ks with
   | nil=>intro ds l fp n h;cases ds<;>cases l<;>first|rfl|cases h
   | cons k0 ks ih =>
    intro ds l fp n h;cases l with
    | nil=>cases k0<;>cases ds<;>cases h
    | cons x l =>
     cases k0 with
     | d τ =>
      cases ds with
      | nil=>cases h
      | cons v ds=>simp[lD,ih h.2 (n:=n)]
     | o τ =>
      cases ds with
      | nil=>cases h
      | cons v ds=>obtain⟨_,_,_,_,h2⟩:=h;simp[lD,ih h2 (n:=n+1)]
     | p j =>
      have h:x = .pointer (some ⟨B j,0,none⟩)/\iJ w S B ks ds l fp:=by cases ds<;>exact h
      simp[lD,ih h.2 (n:=n)]
  have Mv:∀ (c:Ctx) (G:Gh) (lk:Nat->Option av) (N:Nat),(∀ b,S b->G.S b)->(∀ j,j<N->G.η (400000+j) = .pointer (some ⟨B j,0,none⟩)/\fR (lk (400000+j))=true) ->
    ∀ {ks:List CK} {ds:List TV} {l:List Value} {fp:List Nat} {n:Nat},iJ w S B ks ds l fp->(∀ j,CK.p j∈ks->j<N)->aM (C1 c G lk w) (bW n (du ks ds)) (kG ks l)->aM (C1 c G lk w) (lD ks ds n) l:=by
   intro c G lk N hS hN ks;induction ks with
   | nil=>intro ds l fp n h _ _;cases ds<;>cases l<;>first|exact trivial|cases h
   | cons k0 ks ih =>
    intro ds l fp n h hp hc;cases l with
    | nil=>cases k0<;>cases ds<;>cases h
    | cons x l =>
     cases k0 with
     | d τ =>
      cases ds with
      | nil=>cases h
      | cons v ds =>
       obtain⟨⟨e,h1,h2⟩,h3⟩:=h;exact⟨⟨by rw[e];exact h1,Rd.keep hS (λ _ _=>rfl) _ h2⟩,ih h3 (λ j hj=>hp j (by simp[hj])) hc⟩
     | o τ =>
      cases ds with
      | nil=>cases h
      | cons v ds =>
       obtain⟨_,_,_,_,h2⟩:=h;exact⟨hc.1,ih h2 (λ j hj=>hp j (by simp[hj])) hc.2⟩
     | p j =>
      have h:x = .pointer (some ⟨B j,0,none⟩)/\iJ w S B ks ds l fp:=by cases ds<;>exact h
      have hc:aM (C1 c G lk w) (bW n (du ks ds)) (kG ks l):=by cases ds<;>exact hc
      obtain⟨g1,g2⟩:=hN j (hp j (by simp));have r:=ih h.2 (λ j hj=>hp j (by simp[hj])) hc;show aM _ (AV.ptr (400000+j) 0::lD ks ds n) (x::l);exact⟨⟨B j,g1,h.1,g2⟩,r⟩
  refine⟨kG ks l++xs,by rw[jP,b7t];exact o1.append q1,λ u hu=>(b5F.1 hu).elim (o2 u) (q2 u),λ p hp=>?_⟩;have ru:∀ {c:Ctx} {G':Gh} {lk':Nat->Option av},aM (C1 c G' lk' w) (bW n (jP (ks::sh) (ds::bz))) (kG ks l++xs)->aM (C1 c G' lk' w) (bW n (du ks ds)) (kG ks l)/\aM (C1 c G' lk' w) (bW (n+(du ks ds).length) (jP sh bz)) xs:=λ {c G' lk'} q=>by
   rw[jP,qX] at q;have hl:(bW n (du ks ds)).length=(kG ks l).length:=by rw[<-o3];exact hlen _ _
   have h1:=q.take (bW n (du ks ds)).length;have h2:=q.drop (bW n (du ks ds)).length;rw[b8a,hl,b8a] at h1;rw[b8g,hl,b8g] at h2;exact⟨h1,h2⟩
  rcases b5X.1 hp with rfl|hp
  .exact⟨k,lD ks ds n,l,t,rfl,b6k _,by simp,hw,xH hB,λ c G lk N h1 h2 h3 h4=>Mv c G lk N h1 h2 hB (h3 ks (by simp)) (ru h4).1⟩
  .obtain⟨j,cs,l',t',g1,g2,g3,g4,g5,g6⟩:=q3 p hp;exact⟨j,cs,l',t',g1,by omega,by simp;omega,g4,g5,λ c G lk N h1 h2 h3 h4=>g6 c G lk N h1 h2 (λ ks' hk=>h3 ks' (by simp[hk])) (ru h4).2⟩
 | [],_,_::_,_,_,h=>h.elim
 | _::_,_,[],_,_,h=>h.elim
def Sb(sh:List (List CK)):Bool:=Nat.blt sh.length 1000&&sh.all λ ks=>ks.all λ c=>match c with
 | .p j=>Nat.blt j sh.length
 | _=>true
theorem Sc{sh:List (List CK)}(h:Sb sh=true):∀ ks∈sh,∀ j,CK.p j∈ks->j<sh.length:=λ ks hk j hj=>by
 unfold Sb at h;rw[Bool.and_eq_true] at h;obtain⟨_,h⟩:=h;rw[List.all_eq_true] at h;have h2:=h ks hk;rw[List.all_eq_true] at h2;exact Nat.le_of_ble_eq_true (h2 _ hj)
theorem iJ.congr{w:World}{S:Nat->Prop}{B B':Nat->Nat}{N:Nat}(hB:∀ j,j<N->B j=B' j):∀ {ks:List CK} {ds:List TV} {l:List Value} {fp:List Nat},(∀ j,CK.p j∈ks->j<N)->iJ w S B ks ds l fp->iJ w S B' ks ds l fp:=by
 intro ks;induction ks with
 | nil=>intro ds l fp _ h;cases ds<;>cases l<;>exact h
 | cons k0 ks ih =>
  intro ds l fp hp h;cases l with
  | nil=>cases k0<;>cases ds<;>cases h
  | cons x l =>
   cases k0 with
   | d τ =>
    cases ds with
    | nil=>cases h
    | cons v ds=>exact⟨h.1,ih (λ j hj=>hp j (by simp[hj])) h.2⟩
   | o τ =>
    cases ds with
    | nil=>cases h
    | cons v ds =>
     obtain⟨f1,f2,e,h1,h2⟩:=h;exact⟨f1,f2,e,h1,ih (λ j hj=>hp j (by simp[hj])) h2⟩
   | p j =>
    have h:x = .pointer (some ⟨B j,0,none⟩)/\iJ w S B ks ds l fp:=by cases ds<;>exact h
    have r:=ih (λ j hj=>hp j (by simp[hj])) h.2;have e:x = .pointer (some ⟨B' j,0,none⟩):=by rw[h.1,hB j (hp j (by simp))]
    cases ds<;>exact⟨e,r⟩
theorem ft.congr{w:World}{S:Nat->Prop}{B B':Nat->Nat}{N:Nat}(hB:∀ j,j<N->B j=B' j):∀ {sh:List (List CK)} {k:Nat} {bz:List (List TV)} {fa:List Nat},k+sh.length<=N->(∀ ks∈sh,∀ j,CK.p j∈ks->j<N)->ft w S B k sh bz fa->ft w S B' k sh bz fa
 | [],k,bz,fa,_,_,h=>by cases bz<;>exact h
 | ks::sh,k,[],fa,_,_,h=>h.elim
 | ks::sh,k,ds::bz,fa,hk,hp,h=>by
  obtain⟨l,t,f1,f2,e,h1,h2,h3⟩:=h;simp only[b5S] at hk;exact⟨l,t,f1,f2,e,by rw[<-hB k (by omega)];exact h1,h2.congr hB (hp ks (by simp)),ft.congr hB (by omega) (λ ks' iP=>hp ks' (by simp[iP])) h3⟩
theorem HB:∀ {sh:List (List CK)} {k:Nat} {bz:List (List TV)} {n:Nat} {j:Nat},sh.length=bz.length->k<=j->j<k+sh.length->∃ cs,ai (lC k sh bz n) (400000+j)=some (.box cs)
 | [],k,bz,n,j,_,h1,h2=>by simp at h2;omega
 | ks::sh,k,[],n,j,hl,_,_=>by simp at hl
 | ks::sh,k,ds::bz,n,j,hl,h1,h2=>by
  rw[lC,oC];by_cases hj:j=k
  .subst hj;exact⟨_,b5Q rfl⟩
  .rw[if_neg (by omega)];exact HB (by simpa using hl) (by omega) (by simp at h2;omega)
theorem ft.len{w:World}{S:Nat->Prop}{B:Nat->Nat}:∀ {sh:List (List CK)} {k:Nat} {bz:List (List TV)} {fa:List Nat},ft w S B k sh bz fa->sh.length=bz.length
 | [],_,[],_,_=>rfl
 | [],_,_::_,_,h=>h.elim
 | _::_,_,[],_,h=>h.elim
 | ks::sh,k,ds::bz,fa,h=>by
  obtain⟨l,t,f1,f2,e,h1,h2,h3⟩:=h;simp[ft.len h3]
theorem WL{w:World}{S:Nat->Prop}{B:Nat->Nat}{fn:Func}{args:List Arg}{bK:List Value}{sh:List (List CK)}{bz:List (List TV)}{fa:List Nat}(DZ:Sb sh=true)(hS:pO w S)(QP:ft w S B 0 sh bz fa)(N2:fa.Nodup)
  (Cb:∀ b∈fa,b<w.heap.size/\¬ S b/\∀ k,k<sh.length->B k≠b) (hB:∀ k,k<sh.length->B k<w.heap.size/\¬ S (B k)) (C9:∀ j k,j<sh.length->k<sh.length->B j=B k->j=k) (ha:aM (NA P w S (BX sh.length B fa) B) args bK)
  (Ca:∀ k,Arg.box k∈args->k<sh.length) :
  ∃ G,Inv ⟨P,E,w,BX sh.length B fa,S,λ _=>none,λ _=>False,λ id=>if 400000<=id/\id<400000+sh.length then some (B (id - 400000)) else none⟩ G (dQ fn args sh bz) { tmps:=bK.toArray++Array.replicate (fn.ntmps - bK.toArray.size) undef,defers:=[] } w:=by
 have hlen:=ha.length;let c1:Ctx:=⟨P,E,w,λ b=>b∈fa,S,λ _=>none,λ _=>False,λ _=>none⟩;have h0:bf c1 ⟨S,λ _=>undef,λ _=>[]⟩ (λ _ => .any) (dQ fn args sh bz).aA.length (λ _=>none) { tmps:=bK.toArray++Array.replicate (fn.ntmps - bK.toArray.size) undef,defers:=[] } w:={
  defers:=rfl
  size:=by simp[dQ,hlen]
  keep:=bX.refl _ _
  ju:=⟨λ b h=>(Cb b h).1,λ g hg=>⟨(hS.2 g hg).1,λ q=>(Cb g q).2.1 (hS.2 g hg).1,hS.1 g (hS.2 g hg).1,(hS.2 g hg).2⟩⟩
  eo:=λ b _ _=>b7k
  sX:=λ b hs=>hs
  dx:=hS.1
  aA:=λ i=>trivial
  aK:=λ id o h=>by cases h
  place:=λ id o b h=>by cases h
  apart:=λ id dk o o' b h=>by cases h
  aP:=⟨(λ id τ xs h=>by cases h),(λ id τ xs h=>by cases h),(λ id τ xs b h=>by cases h),(λ id dk τ aU xs cK b h=>by cases h)⟩
  root:=λ id v h=>by cases h
  fZ:=λ id v h=>by cases h
  dj:=λ id v h=>by cases h
  eQ:=λ id v h=>by cases h }
 obtain⟨xs,o1,o2,o3⟩:=TD (n:=1000000) QP;have b5A:sh.length<1000:=by
  unfold Sb at DZ;rw[Bool.and_eq_true] at DZ;exact Nat.le_of_ble_eq_true DZ.1
 have hFr:Fr c1 ⟨S,λ _=>undef,λ _=>[]⟩ (λ _=>none) w fa:=λ b hb=>⟨.inr hb,(Cb b hb).2.1,(Cb b hb).1,(λ i o h=>by cases h),(λ j τ xs h=>by cases h)⟩;obtain⟨G1,uS,k1,k2,k3,k4,_⟩:=h0.zT (us:=jP sh bz) (cs:=xs) (id:=1000000) o2 o1 N2 hFr (λ p hp=>rfl) pD (λ j _=>rfl);have QZ:∀ i o,uS i=some o->1000000<=i/\cR (some o)=true:=λ i o ho=>by
  rw[k1 i] at ho;unfold gf at ho;split at ho
  .rename_i o' cI;simp only[b5E] at ho;subst ho;refine⟨(lP (fM cI)).1,?_⟩;have:∀ {us:List TV} {id:Nat} {p:Nat×av},p∈bJ id us->cR (some p.2)=true:=by
    intro us;induction us with
    | nil=>intro id p hp;cases hp
    | cons u us ih =>
     intro id p hp;rcases b5F.1 hp with hp|hp
     .obtain⟨τ,y⟩:=u;cases τ<;>simp[fC] at hp;subst hp;rfl
     .exact ih hp
   exact this (fM cI)
  .cases ho
 have VN:∀ i o,uS i=some o->dD (G1.η i)=none:=λ i o ho=>by
  obtain⟨_,ht⟩:=QZ i o ho;match o,ht with
  | .aC τ ys,_ =>
   obtain⟨v,l,_,_,q,_⟩:=k2.aP.tr i τ ys ho;rw[q];rfl
 let G2:Gh:=⟨S,λ i=>if 400000<=i/\i<400000+sh.length then .pointer (some ⟨B (i - 400000),0,none⟩) else G1.η i,G1.φ⟩;have Uo:∀ j,j<sh.length->G2.η (400000+j) = .pointer (some ⟨B j,0,none⟩):=λ j hj=>by
  show (if 400000<=400000+j/\400000+j<400000+sh.length then _ else _)=_;rw[b5Q (by omega),b8m]
 have Un:∀ i,1000000<=i->G2.η i=G1.η i:=λ i hi=>b5I (by omega);have hGS:G1.S=S:=k3.S;have Mx:(dQ fn args sh bz).ai=λ i=>match ai (lC 0 sh bz 1000000) i with
   | some o=>some o
   | none=>uS i:=by
  funext i;show ai (lC 0 sh bz 1000000++bJ 1000000 (jP sh bz)) i=_;rw[oB];unfold gf;cases ai (lC 0 sh bz 1000000) i with
  | some o=>rfl
  | none =>
   simp only;rw[k1 i];unfold gf;cases ai (bJ 1000000 (jP sh bz)) i<;>rfl
 have b3I:∀ j,j<sh.length->∃ cs,(dQ fn args sh bz).ai (400000+j)=some (.box cs):=λ j hj=>by
  obtain⟨cs,q⟩:=HB (n:=1000000) QP.len (Nat.zero_le j) (by simpa using hj);exact⟨cs,by rw[Mx];simp only[q]⟩
 have wy:∀ i o,(dQ fn args sh bz).ai i=some o->(∃ j cs l t,i=400000+j/\j<sh.length/\o = .box cs/\w.heap[B j]?=some (.cells l.toArray t (0,0)) /\
   ∀ (c:Ctx) (G:Gh) (lk:Nat->Option av),(∀ b,S b->G.S b)->(∀ j,j<sh.length->G.η (400000+j) = .pointer (some ⟨B j,0,none⟩)/\fR (lk (400000+j))=true)->aM (C1 c G lk w) (bW 1000000 (jP sh bz)) xs->aM (C1 c G lk w) cs l) \/
   (uS i=some o/\1000000<=i):=λ i o ho=>by
  rw[Mx] at ho;simp only at ho;cases hl:ai (lC 0 sh bz 1000000) i with
  | some o' =>
   rw[hl] at ho;simp only[Option.some.injEq] at ho;subst ho;obtain⟨j,cs,l,t,q1,_,q2,q3,_,q4⟩:=o3 _ (fe hl);simp only[Prod.mk.injEq] at q1;obtain⟨rfl,rfl⟩:=q1;exact .inl ⟨j,cs,l,t,rfl,by simpa using q2,rfl,q3,λ c G lk h1 h2 h3=>q4 c G lk sh.length h1 h2 (Sc DZ) h3⟩
  | none =>
   rw[hl] at ho;exact .inr ⟨ho,(QZ i o ho).1⟩
 have fG:∀ i,eC (uS i) ((dQ fn args sh bz).ai i):=λ i=>by
  cases hl:uS i with
  | none=>exact⟨(λ q=>by cases q),(λ e τ xs q=>by cases q),(λ q=>by cases q),λ q=>by cases q⟩
  | some o =>
   have:=(QZ i o hl).1;have hn:ai (lC 0 sh bz 1000000) i=none:=sC λ p hp e=>by
    obtain⟨j,cs,l,t,q1,_,q2,_⟩:=o3 p hp;rw[q1] at e;simp only at e;omega
   rw[Mx];simp only[hn,hl];exact eC.refl _
 have a7T:aM (C1 ⟨P,E,w,BX sh.length B fa,S,λ _=>none,λ _=>False,λ id=>if 400000<=id/\id<400000+sh.length then some (B (id - 400000)) else none⟩ G2 (dQ fn args sh bz).ai w) (bW 1000000 (jP sh bz)) xs:=by
  have:∀ {us:List TV} {n:Nat} {xs:List Value},1000000<=n->aM (C1 c1 G1 uS w) (bW n us) xs->aM (C1 ⟨P,E,w,BX sh.length B fa,S,λ _=>none,λ _=>False,λ id=>if 400000<=id/\id<400000+sh.length then some (B (id - 400000)) else none⟩ G2 (dQ fn args sh bz).ai w) (bW n us) xs:=by
   intro us;induction us with
   | nil=>intro n xs _ h;cases xs<;>exact h
   | cons u us ih =>
    intro n xs hn h;cases xs with
    | nil=>exact h.elim
    | cons x xs =>
     refine⟨?_,ih (by omega) h.2⟩;have h1:C1 c1 G1 uS w (kk n u) x:=h.1;obtain⟨τ,y⟩:=u;have aO:C1 c1 G1 uS w (.aO ⟨τ,y⟩) x->C1 ⟨P,E,w,BX sh.length B fa,S,λ _=>none,λ _=>False,λ id=>if 400000<=id/\id<400000+sh.length then some (B (id - 400000)) else none⟩ G2 (dQ fn args sh bz).ai w (.aO ⟨τ,y⟩) x:=λ q=>⟨q.1,Rd.keep (λ b hb=>by rw[hGS] at hb;exact hb) (λ _ _=>rfl) _ q.2⟩;cases τ with
     | slice τ =>
      obtain⟨g1,l,g2,g3⟩:=h1;exact⟨(fG n).2.2.1 g1,l,by rw[Un n hn];exact g2,g3⟩
     | mv τ=>exact trivial
     | _=>exact aO h1
  exact this (b6k _) k4
 have hN:∀ j,j<sh.length->G2.η (400000+j) = .pointer (some ⟨B j,0,none⟩)/\fR ((dQ fn args sh bz).ai (400000+j))=true:=λ j hj=>by
  obtain⟨cs,q⟩:=b3I j hj;exact⟨Uo j hj,by rw[q];rfl⟩
 have Q7:∀ i τ xs,(dQ fn args sh bz).ai i=some (.aC τ xs)->uS i=some (.aC τ xs)/\1000000<=i:=λ i τ ys hi=>by
  rcases wy i _ hi with ⟨_,_,_,_,_,_,q,_⟩|q
  .cases q
  .exact q
 refine⟨G2,?_⟩;exact {
  defers:=rfl
  size:=by simp[dQ,hlen]
  keep:=bX.refl _ _
  ju:=⟨λ b hb=>hb.elim (λ q=>(Cb b q).1) λ ⟨k,hk,e⟩=>(by rw[e];exact (hB k hk).1),λ g hg=>⟨(hS.2 g hg).1,λ q=>q.elim (λ q=>(Cb g q).2.1 (hS.2 g hg).1) λ ⟨k,hk,e⟩=>(hB k hk).2 (e ▸ (hS.2 g hg).1),hS.1 g (hS.2 g hg).1,(hS.2 g hg).2⟩⟩
  eo:=λ b _ _=>b7k
  sX:=λ b hs=>hs
  dx:=hS.1
  aA:=λ i=>by
   have I1:∀ v x,v∈args->NA P w S (BX sh.length B fa) B v x->VR ⟨P,E,w,BX sh.length B fa,S,λ _=>none,λ _=>False,λ id=>if 400000<=id/\id<400000+sh.length then some (B (id - 400000)) else none⟩ G2 (dQ fn args sh bz).ai w (U9 v) x:=by
    intro v x hm h;cases v with
    | val v=>exact h
    | ref v =>
     obtain⟨b,o,cs,h1,h2,h3,h4,h5⟩:=h;exact⟨b,o,cs,h1, .inr ⟨h2,h3,λ z=>z⟩,h4,h5⟩
    | fn f=>exact h
    | cO v =>
     obtain⟨f,ew,l,h1,h2,h3⟩:=h;refine⟨f,ew,l,h1,h2,h3.imp λ u z _ hz=>?_⟩;cases u with
     | val v=>exact hz
     | ref v =>
      obtain⟨b,o,cs,h1,h2,h3,h4,h5⟩:=hz;exact⟨b,o,cs,h1, .inr ⟨h2,h3,λ z=>z⟩,h4,h5⟩
     | fn f=>exact hz
     | _=>exact hz.elim
    | own v=>exact h.elim
    | box k =>
     obtain⟨g1,g2⟩:=hN k (Ca k hm);exact⟨B k,g1,h,g2⟩
   have h1:aM (λ v x=>VR ⟨P,E,w,BX sh.length B fa,S,λ _=>none,λ _=>False,λ id=>if 400000<=id/\id<400000+sh.length then some (B (id - 400000)) else none⟩ G2 (dQ fn args sh bz).ai w v x) (args.map U9) bK:=aM.dA _ (ha.imp λ v x hm h=>I1 v x hm h);have h2:=aM.getD (d:=AV.any) (e:=undef) (show VR ⟨P,E,w,BX sh.length B fa,S,λ _=>none,λ _=>False,λ id=>if 400000<=id/\id<400000+sh.length then some (B (id - 400000)) else none⟩ G2 (dQ fn args sh bz).ai w .any undef from trivial) (h1.oS (a:=AV.any) (b:=undef) (show VR ⟨P,E,w,BX sh.length B fa,S,λ _=>none,λ _=>False,λ id=>if 400000<=id/\id<400000+sh.length then some (B (id - 400000)) else none⟩ G2 (dQ fn args sh bz).ai w .any undef from trivial) (fn.ntmps - args.length)) i;have e1:(dQ fn args sh bz).sl i=(args.map U9++List.replicate (fn.ntmps - args.length) AV.any).getD i AV.any:=rfl;have e2:(bK.toArray++Array.replicate (fn.ntmps - bK.toArray.size) undef).getD i undef=(bK++List.replicate (fn.ntmps - args.length) undef).getD i undef:=by
    rw[b6D,b5P,<-b8S];simp[hlen]
   rw[e1];show VR _ _ _ _ _ ((bK.toArray++Array.replicate (fn.ntmps - bK.toArray.size) undef).getD i undef);rw[e2];exact h2
  aK:=λ i o ho=>by
   rcases wy i o ho with ⟨j,cs,l,t,rfl,hj,rfl,q3,q4⟩|⟨q1,q2⟩
   .exact⟨B j,l,t,Uo j hj,q3,q4 _ G2 _ (λ b hb=>hb) hN a7T⟩
   .have:=(QZ i o q1).2;match o,this with
    | .aC τ ys,_=>trivial
  place:=λ i o b ho hb=>by
   rcases wy i o ho with ⟨j,cs,l,t,rfl,hj,rfl,q3,q4⟩|⟨q1,q2⟩
   .rw[Uo j hj] at hb;simp only[dD,b5E] at hb;subst hb;exact⟨.inr (.inr ⟨j,hj,rfl⟩),(hB j hj).2,(hB j hj).1⟩
   .rw[Un i q2,VN i o q1] at hb;cases hb
  apart:=λ i i' o o' b ho cI hb cw=>by
   rcases wy i o ho with ⟨j,cs,l,t,rfl,hj,rfl,q3,q4⟩|⟨q1,q2⟩
   .rcases wy i' o' cI with ⟨j',dw,l',t',rfl,EY,rfl,_,_⟩|⟨g1,g2⟩
    .rw[Uo j hj] at hb;rw[Uo j' EY] at cw;simp only[dD,b5E] at hb cw;rw[C9 j j' hj EY (hb.trans cw.symm)]
    .rw[Un i' g2,VN i' o' g1] at cw;cases cw
   .rw[Un i q2,VN i o q1] at hb;cases hb
  aP:={
   tr:=λ i τ ys hi=>by
    obtain⟨q1,q2⟩:=Q7 i τ ys hi;rw[Un i q2];exact k2.aP.tr i τ ys q1
   nd:=λ i τ ys hi=>k2.aP.nd i τ ys (Q7 i τ ys hi).1
   pl:=λ i τ ys b hi hb=>by
    obtain⟨q1,q2⟩:=Q7 i τ ys hi;obtain⟨p1,p2,p3,p4⟩:=k2.aP.pl i τ ys b q1 hb;have SR:b∈fa:=p1.elim (λ q=>absurd p3 (Nat.not_lt.2 q)) id;refine⟨.inr (.inl SR),(Cb b SR).2.1,p3,λ i' o' cI e=>?_⟩;rcases wy i' o' cI with ⟨j,cs,l,t,rfl,hj,rfl,_,_⟩|⟨g1,g2⟩
    .rw[Uo j hj] at e;simp only[dD,b5E] at e;exact (Cb b SR).2.2 j hj e
    .rw[Un i' g2,VN i' o' g1] at e;cases e
   ap:=λ i i' τ aU ys ys' b hi kg=>k2.aP.ap i i' τ aU ys ys' b (Q7 i τ ys hi).1 (Q7 i' aU ys' kg).1 }
  root:=λ id v h=>by cases h
  fZ:=λ id v h=>by cases h
  dj:=λ id b hr ht=>by
   simp only at hr;split at hr
   .rename_i hc;simp only[b5E] at hr;show (if 400000<=id/\id<400000+sh.length then _ else _)=_;rw[b5Q hc,hr]
   .cases hr
  eQ:=λ id b hr=>by
   simp only at hr;split at hr
   .rename_i hc;exact hc.1
   .cases hr }
theorem VD(hE:bl P E)(gX:P.follows .mixedOrders=true){f:FuncId}{fn:Func}{O:Code}(hf:P.funcs[f]?=some fn)(hb:fn.body=some O)(Λ:Nat->aI){args:List Arg}{sh:List (List CK)}{bz:List (List TV)}{res:List TV}{dz:List (List TV)}{post:List TV->List (List TV)->Prop}
  (Q3:∀ vs ds,post vs ds->vs=res/\ds=dz) (DZ:Sb sh=true) (Ca:∀ k,Arg.box k∈args->k<sh.length) (h:rU E O Λ 0 (Gw E fn sh post) (dQ fn args sh bz)):JF P f sh args bz res dz:=by
 intro w S B bK fa hS QP N2 Cb hB C9 ha;refine b9L hf hb ?_;obtain⟨G0,hinv⟩:=WL (P:=P) (E:=E) (fn:=fn) DZ hS QP N2 Cb hB C9 ha Ca;generalize hc:(⟨P,E,w,BX sh.length B fa,S,λ _=>none,λ _=>False,λ id=>if 400000<=id/\id<400000+sh.length then some (B (id - 400000)) else none⟩:Ctx)=c at *
 have VQ:c.P=P:=by rw[<-hc]
 have XG:c.E=E:=by rw[<-hc]
 have hcw:c.w0=w:=by rw[<-hc]
 have hcX:c.X=BX sh.length B fa:=by rw[<-hc]
 have hcS:c.S0=S:=by rw[<-hc]
 have hcB:∀ j,j<sh.length->c.RB (400000+j)=some (B j):=λ j hj=>by
  rw[<-hc];show (if 400000<=400000+j/\400000+j<400000+sh.length then _ else _)=_;rw[b5Q (by omega),b8m]
 have hE':bl c.P c.E:=by rw[VQ,XG];exact hE
 have cJ:=fQ (c:=c) hE' (by rw[VQ];exact gX) O Λ 0 (Gw E fn sh post) G0 (dQ fn args sh bz) _ w hinv (by rw[XG];exact h);rw[VQ] at cJ;refine b9a cJ ?_;have fin:∀ (e:Exit) (a:Act) (w':World),(e = .normal\/e = .ret)->(∃ G s,Inv c G s a w'/\Gw E fn sh post e s) ->
   a.defers=[]/\∃ v,(results fn a.tmps).run P w' = .ok v w'/\∃ x S' fp Iw,Ending.returned v = .returned x/\bX (BX sh.length B fa) w w'/\(∀ b,S b->S' b)/\(∀ b,S' b->b<w'.heap.size)/\(∀ b,b<w.heap.size->¬ BX sh.length B fa b->(S' b↔S b)) /\
    H4 w' res x fp/\ft w' S' B 0 sh dz Iw/\(fp++Iw).Nodup/\(∀ b∈fp++Iw,(b∈fa\/(w.heap.size<=b/\b<w'.heap.size))/\¬ S' b/\∀ k,k<sh.length->B k≠b)/\∀ k,k<sh.length->¬ S' (B k):=by
  rintro e a w' he ⟨G,s,hI,hp⟩;have KK:∃ vs ids ds E5 m,sT E s fn.results.toList fn.resultTypes.toList=some (vs,ids)/\iH s.ai sh 0 (idM sh.length)=some (ds,E5,m)/\(ids++E5).Nodup/\vs=res/\ds=dz:=by
   rcases he with rfl|rfl <;>
   .simp only[Gw] at hp;split at hp
    .rename_i vs ids zq;split at hp
     .rename_i ds E5 m Mw;split at hp
      .rename_i hn;rw[b5M] at hn;obtain⟨q1,q2⟩:=Q3 _ _ hp;exact⟨vs,ids,ds,E5,m,zq,Mw,cZ hn.1,q1,q2⟩
      .exact hp.elim
     .exact hp.elim
    .exact hp.elim
  obtain⟨vs,ids,ds,E5,m,zq,Mw,hn,rfl,rfl⟩:=KK;rw[b6l] at hn;obtain⟨n1,n2,n3⟩:=hn;obtain⟨xs,fp,h1,h2,h3,h4⟩:=CJ (P:=P) (E:=E) (c:=c) hE' VQ XG hI zq n1;obtain⟨x0,VO,Iw,b3x,b1l,a9s⟩:=ud hI Mw n2;have a1G:∀ k,k<sh.length->∃ cs,s.ai (400000+k)=some (.box cs)/\G.η (400000+k) = .pointer (some ⟨B k,0,none⟩)/\ai m k=some (400000+k):=λ k hk=>by
   obtain⟨id,cs,q1,q2⟩:=VO k (Nat.zero_le _) (by simpa using hk);have q3:=x0 k (400000+k) (by rw[a2Z,if_pos hk]);rw[q3] at q1;simp only[Option.some.injEq] at q1;subst q1;exact⟨cs,q2,hI.dj _ _ (hcB k hk) (by rw[q2];rfl),q3⟩
  have hbo:∀ k,k<sh.length->kc G m k=B k:=λ k hk=>by
   obtain⟨cs,_,q2,q3⟩:=a1G k hk;simp only[kc,q3,q2];rfl
  have b3y:=ft.congr (N:=sh.length) hbo (by omega) (Sc DZ) (b3x m (kL.refl m));have iC:bX (BX sh.length B fa) w w':=by
   have:=hI.keep;rwa [hcX,hcw] at this
  have fv:∀ ids b,vF G s.ai ids b->(b∈fa\/(w.heap.size<=b/\b<w'.heap.size))/\¬ G.S b/\∀ k,k<sh.length->B k≠b:=λ ids b hb=>by
   obtain⟨id,hi,hq⟩:=hb;have hp:(c.w0.heap.size<=b\/c.X b)/\¬ G.S b/\b<w'.heap.size/\∀ k,k<sh.length->B k≠b:=by
    rcases hq with ⟨τ,ys,q1,q2⟩|⟨e',τ,ys,q1,q2⟩
    .obtain⟨p1,p2,p3,p4⟩:=hI.aP.pl id τ ys b q1 q2;refine⟨p1,p2,p3,λ k hk e=>?_⟩;obtain⟨cs,g1,g2,_⟩:=a1G k hk;exact p4 _ _ g1 (by rw[g2,<-e];rfl)
    .obtain⟨p1,p2,p3⟩:=hI.place id _ b q1 q2;refine⟨p1,p2,p3,λ k hk e=>?_⟩;obtain⟨cs,g1,g2,_⟩:=a1G k hk;have:=hI.apart id _ _ _ b q1 g1 q2 (by rw[g2,<-e];rfl);subst this;rw[q1] at g1;cases g1
   obtain⟨p1,p2,p3,p4⟩:=hp;refine⟨?_,p2,p4⟩;rw[hcw,hcX] at p1;rcases p1 with p1|p1|⟨k,hk,e⟩
   .exact .inr ⟨p1,p3⟩
   .exact .inl p1
   .exact absurd e.symm (p4 k hk)
  refine⟨hI.defers,(if h:xs.toArray.size=1 then xs.toArray[0] else .tuple xs.toArray),?_,_,G.S,fp,Iw,rfl,iC,?_,hI.dx,?_,Ut h2,b3y,?_,?_,?_⟩
  .rw[sN,b7V];simp only[b6p,b9M,h1];rfl
  .intro b hb;exact hI.sX b (by rw[hcS];exact hb)
  .intro b hb hx;have:=hI.eo b (by rw[hcw];exact hb) (by rw[hcX];exact hx);rwa [hcS] at this
  .exact dS h3 b1l λ b hb cw=>hI.iD (h4 b hb) (a9s b cw) λ x hx y hy=>n3 x hx y hy
  .intro b hb;rcases b5F.1 hb with hb|hb
   .exact fv ids b (h4 b hb)
   .exact fv E5 b (a9s b hb)
  .intro k hk;obtain⟨cs,q1,q2,_⟩:=a1G k hk;exact (hI.place _ _ (B k) q1 (by rw[q2];rfl)).2.1
 intro e a w' hq;cases e with
 | normal=>exact fin .normal a w' (.inl rfl) hq
 | ret=>exact fin .ret a w' (.inr rfl) hq
 | exit i=>obtain⟨_,_,_,hp⟩:=hq;exact hp.elim
 | goto l=>obtain⟨_,_,_,hp⟩:=hq;exact hp.elim
 | panic ch=>obtain⟨_,_,_,hp⟩:=hq;exact hp.elim
 | outgrown=>obtain⟨_,_,_,hp⟩:=hq;exact hp.elim
def oa(fn:Func)(args:List Arg)(τ:Ty)(xs:List τ.den):aq:={ aA:=args.map yN++(.aC 50::List.replicate (fn.ntmps - (args.length+1)) .any),aK:=[(50, .aC τ xs)] }
def Gz(τ:Ty)(post:List τ.den->Prop)(e:Exit)(s:aq):Prop :=
 match e with
 | .ret | .normal=>match s.ai 50 with
  | some (.aC aU ys)=>match TV.Z9 (.slice τ) ⟨.slice aU,ys⟩ with
   | some ys=>post ys
   | none=>False
  | _=>False
 | _=>False
theorem QJ(hE:bl P E)(gX:P.follows .mixedOrders=true){f:FuncId}{fn:Func}{O:Code}(hf:P.funcs[f]?=some fn)(hb:fn.body=some O)(Λ:Nat->aI){args:List Arg}{τ:Ty}{xs ys:List τ.den}(hr:fn.results.size=0)(Ca:∀ k,Arg.box k∉args)
  (My:args.length+1<=fn.ntmps) (h:rU E O Λ 0 (Gz τ λ zs=>zs=ys) (oa fn args τ xs)):Ga P f args τ xs ys:=by
 intro w S bK v fp hS ha hO c6 mX;refine b9L hf hb ?_;have hlen:=ha.length;have h0:bf ⟨P,E,w,λ b=>b∈fp,S,λ _=>none,λ _=>False,λ _=>none⟩ ⟨S,λ _=>undef,λ _=>[]⟩ (λ _ => .any) (oa fn args τ xs).aA.length (λ _=>none) { tmps:=(bK++[v]).toArray++Array.replicate (fn.ntmps - (bK++[v]).toArray.size) undef,defers:=[] } w:={
  defers:=rfl
  size:=by simp[oa,hlen];omega
  keep:=bX.refl _ _
  ju:=⟨λ b hb=>(mX b hb).1,λ g hg=>⟨(hS.2 g hg).1,λ q=>(mX g q).2 (hS.2 g hg).1,hS.1 g (hS.2 g hg).1,(hS.2 g hg).2⟩⟩
  eo:=λ b _ _=>b7k
  sX:=λ b h=>h
  dx:=hS.1
  aA:=λ _=>trivial
  aK:=λ id o h=>by cases h
  place:=λ id o b h=>by cases h
  apart:=λ id dk o o' b h=>by cases h
  aP:=⟨(λ id τ xs h=>by cases h),(λ id τ xs h=>by cases h),(λ id τ xs b h=>by cases h),(λ id dk τ aU xs cK b h=>by cases h)⟩
  root:=λ id v h=>by cases h
  fZ:=λ id v h=>by cases h
  dj:=λ id v h=>by cases h
  eQ:=λ id v h=>by cases h }
 obtain⟨G1,uS,l1,i1,e1,t1,_⟩:=h0.Pn (id:=50) (v:=⟨.slice τ,xs⟩) hO c6 (λ b hb=>⟨.inr hb,(mX b hb).2,(mX b hb).1,λ i o h=>(by cases h),λ j τ xs h=>by cases h⟩) (λ _ _=>rfl) pD (λ _ _=>rfl);have QZ:(oa fn args τ xs).ai=uS:=by
  funext i;rw[l1 i];show ai [(50, .aC τ xs)] i=gf (bJ 50 (TV.cells ⟨.slice τ,xs⟩)) (λ _=>none) i;unfold gf;show _=match ai [(50,av.aC τ xs)] i with
   | some o=>some o
   | none=>none
  cases ai [(50,av.aC τ xs)] i<;>rfl
 have hC1:C1 ⟨P,E,w,λ b=>b∈fp,S,λ _=>none,λ _=>False,λ _=>none⟩ G1 uS w (.aC 50) v:=t1;obtain⟨KN,l,hl,zp⟩:=hC1;have b5y:uS 50=some (.aC τ xs):=by rw[<-QZ];rfl
 let R:Nat->Option Value:=λ id=>if id=50 then some v else none
 have hGS:G1.S=S:=e1.S;have hinv:Inv ⟨P,E,w,λ b=>b∈fp,S,R,λ _=>False,λ _=>none⟩ G1 (oa fn args τ xs) { tmps:=(bK++[v]).toArray++Array.replicate (fn.ntmps - (bK++[v]).toArray.size) undef,defers:=[] } w:=by
  unfold Inv;rw[QZ];exact {
   defers:=i1.defers,size:=i1.size,keep:=i1.keep,ju:=i1.ju,eo:=i1.eo,sX:=i1.sX,dx:=i1.dx
   aA:=λ i=>by
    have I1:∀ u z,u∈args->NA P w S (λ b=>b∈fp) (λ _=>0) u z->VR ⟨P,E,w,λ b=>b∈fp,S,R,λ _=>False,λ _=>none⟩ G1 uS w (yN u) z:=by
     intro u z hm hz;cases u with
     | val u=>exact dE.mono (G:=⟨S,G1.η,G1.φ⟩) (G':=G1) hz (λ b hb=>by rw[hGS];exact hb) (λ _ _=>rfl)
     | ref u =>
      obtain⟨b,o,cs,h1,h2,h3,h4,h5⟩:=hz;exact⟨b,o,cs,h1, .inr ⟨h2,h3,λ z=>z⟩,h4,Rd.keep (λ b hb=>by rw[hGS];exact hb) (λ _ _=>rfl) _ h5⟩
     | fn f=>exact hz
     | cO u =>
      obtain⟨f,ew,l,h1,h2,h3⟩:=hz;refine⟨f,ew,l,h1,h2,h3.imp λ u z _ hz=>?_⟩;cases u with
      | val u=>exact dE.mono (G:=⟨S,G1.η,G1.φ⟩) (G':=G1) hz (λ b hb=>by rw[hGS];exact hb) (λ _ _=>rfl)
      | ref u =>
       obtain⟨b,o,cs,h1,h2,h3,h4,h5⟩:=hz;exact⟨b,o,cs,h1, .inr ⟨h2,h3,λ z=>z⟩,h4,Rd.keep (λ b hb=>by rw[hGS];exact hb) (λ _ _=>rfl) _ h5⟩
      | fn f=>exact hz
      | _=>exact hz.elim
     | own u=>exact hz.elim
     | box k=>exact absurd hm (Ca k)
    have h1:aM (λ u z=>VR ⟨P,E,w,λ b=>b∈fp,S,R,λ _=>False,λ _=>none⟩ G1 uS w u z) (args.map yN) bK:=aM.dA _ (ha.imp λ u z hm hz=>I1 u z hm hz);have h2:aM (λ u z=>VR ⟨P,E,w,λ b=>b∈fp,S,R,λ _=>False,λ _=>none⟩ G1 uS w u z) (args.map yN++[.aC 50]) (bK++[v]):=h1.append ⟨⟨KN,l,hl,zp⟩,af⟩;have h3:=aM.getD (d:=AV.any) (e:=undef) (show VR ⟨P,E,w,λ b=>b∈fp,S,R,λ _=>False,λ _=>none⟩ G1 uS w .any undef from trivial) (h2.oS (a:=AV.any) (b:=undef) (show VR ⟨P,E,w,λ b=>b∈fp,S,R,λ _=>False,λ _=>none⟩ G1 uS w .any undef from trivial) (fn.ntmps - (args.length+1))) i;have e1:(oa fn args τ xs).sl i=(args.map yN++[AV.aC 50]++List.replicate (fn.ntmps - (args.length+1)) AV.any).getD i AV.any:=by
     rw[b6v];rfl
    have e2:((bK++[v]).toArray++Array.replicate (fn.ntmps - (bK++[v]).toArray.size) undef).getD i undef=(bK++[v]++List.replicate (fn.ntmps - (args.length+1)) undef).getD i undef:=by
     rw[b6D,b5P,<-b8S];simp[hlen]
    rw[e1];show VR _ _ _ _ _ (((bK++[v]).toArray++Array.replicate (fn.ntmps - (bK++[v]).toArray.size) undef).getD i undef);rw[e2];exact h3
   aK:=i1.aK,place:=i1.place,apart:=i1.apart
   aP:=⟨i1.aP.tr,i1.aP.nd,i1.aP.pl,i1.aP.ap⟩
   root:=λ id v' hr ht=>by
    simp only[R] at hr;split at hr
    .rename_i e;simp only[b5E] at hr;subst e hr;exact⟨l,hl⟩
    .cases hr
   dj:=λ id b hr=>by cases hr
   eQ:=λ id b hr=>by cases hr
   fZ:=λ id v' hr=>by
    simp only[R] at hr;split at hr
    .omega
    .cases hr }
 refine b9a (fQ (c:=⟨P,E,w,λ b=>b∈fp,S,R,λ _=>False,λ _=>none⟩) hE gX O Λ 0 _ _ _ _ w hinv h) ?_;have fin:∀ (e:Exit) (a:Act) (w':World),(e = .normal\/e = .ret)->(∃ G s,Inv ⟨P,E,w,λ b=>b∈fp,S,R,λ _=>False,λ _=>none⟩ G s a w'/\Gz τ (λ zs=>zs=ys) e s) ->
   a.defers=[]/\∃ u,(results fn a.tmps).run P w' = .ok u w'/\∃ r,Ending.returned u = .returned r/\bX (λ b=>b∈fp) w w'/\∃ EL,yM w' ⟨.slice τ,ys⟩ v EL/\EL.Nodup/\∀ b∈EL,b∈fp\/(w.heap.size<=b/\b<w'.heap.size):=by
  rintro e a w' he ⟨G,s,hI,hp⟩;have KK:s.ai 50=some (.aC τ ys):=by
   rcases he with rfl|rfl <;>
   .simp only[Gz] at hp;split at hp
    .rename_i aU zs hz;split at hp
     .rename_i zs' Rb;have:=TV.aN Rb;simp only[TV.mk.injEq,Ty.slice.injEq] at this;obtain⟨rfl,h2⟩:=this;have h2:=b8K h2;subst h2;rw[hz,hp]
     .exact hp.elim
    .exact hp.elim
  have Um:(results fn a.tmps).run P w' = .ok (.tuple #[]) w':=by
   have:fn.results = #[]:=b7X hr;rw[sN,this,b7V];simp
  obtain⟨l',pd⟩:=hI.root 50 v (by simp[R]) (by rw[KK];rfl);have tI:=Ow.a0s (hI.aP.tr 50 τ ys KK) pd;refine⟨hI.defers,_,Um,_,rfl,hI.keep,G.φ 50,tI,hI.aP.nd 50 τ ys KK,λ b hb=>?_⟩;obtain⟨p1,_,p3,_⟩:=hI.aP.pl 50 τ ys b KK hb;exact p1.elim (λ q => .inr ⟨q,p3⟩) .inl
 intro e a w' hq;cases e with
 | normal=>exact fin .normal a w' (.inl rfl) hq
 | ret=>exact fin .ret a w' (.inr rfl) hq
 | exit i=>obtain⟨_,_,_,hp⟩:=hq;exact hp.elim
 | goto l=>obtain⟨_,_,_,hp⟩:=hq;exact hp.elim
 | panic ch=>obtain⟨_,_,_,hp⟩:=hq;exact hp.elim
 | outgrown=>obtain⟨_,_,_,hp⟩:=hq;exact hp.elim
end
def CO:List (Nat×Ty×Nat×Nat) :=
 [(2,(.int .i64),0,0),
  (3,(.int .i64),0,0),
  (4, .bool,0,0),
  (5,(.int .u8),0,0),
  (9, .str,0,0),
  (12,(.int .u64),0,0),
  (22,(.slice (.int .u8)),1,5),
  (25,(.st .sig),0,0),
  (27,(.slice (.st .equation)),80,34),
  (30,(.slice (.st .expr)),40,32),
  (32,(.st .expr),0,0),
  (34,(.st .equation),0,0),
  (43, .ptr,0,0),
  (45,(.slice .str),16,9),
  (63,(.int .u64),0,0),
  (65,(.st .l00Src),0,0),
  (82,(.slice (.slice .bool)),24,138),
  (83,(.slice (.slice (.slice (.int .i64)))),24,155),
  (85,(.st .automaton),0,0),
  (88,(.slice (.int .i64)),8,2),
  (90,(.st .word),0,0),
  (94,(.st .reader),0,0),
  (99,(.st .l01Reader),0,0),
  (101,(.int .u64),0,0),
  (106,(.st .l01Gen),0,0),
  (112,(.slice (.st .reached)),40,116),
  (114,(.st .arr2),0,0),
  (116,(.st .reached),0,0),
  (138,(.slice .bool),1,4),
  (155,(.slice (.slice (.int .i64))),24,88)]
def PH:List (Nat×Ty) :=
 [(43,(.st .l00Src)),(52,(.st .expr)),(54,(.st .equation)),(97,(.st .l01Reader)),(103,(.int .i64)),(104,(.st .l01Gen)),(121,(.st .reader)),(152,(.int .u8)),(200,(.int .i64))]
def K8:List (Nat×Ty×Ty):=[(140,(.st .arr2), .bool),(154, .str,(.int .i64)),(168, .str, .bool)]
def Pt:List Nat:=[25]
abbrev W1:Nat:=2
abbrev Pm:Nat:=4
abbrev Bw:Nat:=22
abbrev oQ:Nat:=32
abbrev Zk:Nat:=88
abbrev nr:Nat:=116
abbrev a2z:Nat:=138
abbrev U6:Nat:=155
noncomputable abbrev prog:Program:=Tryz.prog
def vB(E:Env):((CO.all λ r=>pN prog { E with ty:=CO,Ws:=PH,K7:=K8,cmp:=Pt } r.1 r.2.1 r.2.2.1 r.2.2.2)&&K8.all λ r=>Ry prog { E with ty:=CO,Ws:=PH,K7:=K8,cmp:=Pt } r.1 r.2.1 r.2.2)=true:=by kernel_rfl
def oF:prog.follows .mixedOrders=true:=Checked.mixed Tryz.checked
def a7(f:Func):Code:=match f.body with
 | some c=>c
 | none => .skip
abbrev qQ:Nat:=3
noncomputable abbrev qv:Func:=Tryz.f3
def xU:prog.funcs[qQ]?=some qv:=Tryz.func3
def GL:qv.body=some (a7 qv):=by kernel_rfl
abbrev HO:Nat:=4
noncomputable abbrev yY:Func:=Tryz.f4
def Ek:prog.funcs[HO]?=some yY:=Tryz.func4
def L5:yY.body=some (a7 yY):=by kernel_rfl
abbrev HP:Nat:=5
noncomputable abbrev yZ:Func:=Tryz.f5
def El:prog.funcs[HP]?=some yZ:=Tryz.func5
def L6:yZ.body=some (a7 yZ):=by kernel_rfl
abbrev Fw:Nat:=6
noncomputable abbrev vR:Func:=Tryz.f6
def CQ:prog.funcs[Fw]?=some vR:=Tryz.func6
def JT:vR.body=some (a7 vR):=by kernel_rfl
abbrev FD:Nat:=7
noncomputable abbrev vY:Func:=Tryz.f7
def CW:prog.funcs[FD]?=some vY:=Tryz.func7
def J0:vY.body=some (a7 vY):=by kernel_rfl
abbrev FE:Nat:=8
noncomputable abbrev vZ:Func:=Tryz.f8
def CX:prog.funcs[FE]?=some vZ:=Tryz.func8
def J1:vZ.body=some (a7 vZ):=by kernel_rfl
abbrev A9:Nat:=9
noncomputable abbrev qx:Func:=Tryz.f9
def xW:prog.funcs[A9]?=some qx:=Tryz.func9
def GN:qx.body=some (a7 qx):=by kernel_rfl
abbrev Dy:Nat:=10
noncomputable abbrev tz:Func:=Tryz.f10
def Ac:prog.funcs[Dy]?=some tz:=Tryz.func10
def Ii:tz.body=some (a7 tz):=by kernel_rfl
abbrev wU:Nat:=11
noncomputable abbrev nJ:Func:=Tryz.f11
def uh:prog.funcs[wU]?=some nJ:=Tryz.func11
def DL:nJ.body=some (a7 nJ):=by kernel_rfl
abbrev Dx:Nat:=12
noncomputable abbrev tw:Func:=Tryz.f12
def Ab:prog.funcs[Dx]?=some tw:=Tryz.func12
def Ih:tw.body=some (a7 tw):=by kernel_rfl
abbrev xa:Nat:=13
noncomputable abbrev nP:Func:=Tryz.f13
def uo:prog.funcs[xa]?=some nP:=Tryz.func13
def DQ:nP.body=some (a7 nP):=by kernel_rfl
abbrev nF:Nat:=14
noncomputable abbrev OF:Func:=Tryz.f14
def LW:prog.funcs[nF]?=some OF:=Tryz.func14
abbrev sF:Nat:=15
noncomputable abbrev ln:Func:=Tryz.f15
def pS:prog.funcs[sF]?=some ln:=Tryz.func15
def Aj:ln.body=some (a7 ln):=by kernel_rfl
abbrev wX:Nat:=16
noncomputable abbrev nM:Func:=Tryz.f16
def uj:prog.funcs[wX]?=some nM:=Tryz.func16
def DN:nM.body=some (a7 nM):=by kernel_rfl
abbrev qg:Nat:=17
noncomputable abbrev kA:Func:=Tryz.f17
def oV:prog.funcs[qg]?=some kA:=Tryz.func17
def yR:kA.body=some (a7 kA):=by kernel_rfl
abbrev DC:Nat:=18
noncomputable abbrev tG:Func:=Tryz.f18
def Ag:prog.funcs[DC]?=some tG:=Tryz.func18
def Iq:tG.body=some (a7 tG):=by kernel_rfl
abbrev DD:Nat:=19
noncomputable abbrev tH:Func:=Tryz.f19
def Ah:prog.funcs[DD]?=some tH:=Tryz.func19
def Ir:tH.body=some (a7 tH):=by kernel_rfl
abbrev uI:Nat:=20
noncomputable abbrev mO:Func:=Tryz.f20
def rR:prog.funcs[uI]?=some mO:=Tryz.func20
def BK:mO.body=some (a7 mO):=by kernel_rfl
abbrev ua:Nat:=21
noncomputable abbrev tC:Func:=Tryz.f21
def lZ:prog.funcs[ua]?=some tC:=Tryz.func21
def Il:tC.body=some (a7 tC):=by kernel_rfl
abbrev sH:Nat:=22
noncomputable abbrev lr:Func:=Tryz.f22
def pU:prog.funcs[sH]?=some lr:=Tryz.func22
def An:lr.body=some (a7 lr):=by kernel_rfl
abbrev A3:Nat:=23
noncomputable abbrev qo:Func:=Tryz.f23
def xP:prog.funcs[A3]?=some qo:=Tryz.func23
def GF:qo.body=some (a7 qo):=by kernel_rfl
abbrev Fy:Nat:=24
noncomputable abbrev vT:Func:=Tryz.f24
def CS:prog.funcs[Fy]?=some vT:=Tryz.func24
def JV:vT.body=some (a7 vT):=by kernel_rfl
abbrev wZ:Nat:=25
noncomputable abbrev nN:Func:=Tryz.f25
def uk:prog.funcs[wZ]?=some nN:=Tryz.func25
def DO:nN.body=some (a7 nN):=by kernel_rfl
abbrev qf:Nat:=26
noncomputable abbrev ky:Func:=Tryz.f26
def oT:prog.funcs[qf]?=some ky:=Tryz.func26
def yQ:ky.body=some (a7 ky):=by kernel_rfl
abbrev Cv:Nat:=27
noncomputable abbrev BW:Func:=Tryz.f27
def rj:prog.funcs[Cv]?=some BW:=Tryz.func27
def OA:BW.body=some (a7 BW):=by kernel_rfl
abbrev A4:Nat:=28
noncomputable abbrev qq:Func:=Tryz.f28
def xQ:prog.funcs[A4]?=some qq:=Tryz.func28
def GH:qq.body=some (a7 qq):=by kernel_rfl
abbrev wT:Nat:=29
noncomputable abbrev nI:Func:=Tryz.f29
def ug:prog.funcs[wT]?=some nI:=Tryz.func29
def DK:nI.body=some (a7 nI):=by kernel_rfl
abbrev FJ:Nat:=30
noncomputable abbrev QD:Func:=Tryz.f30
def Oy:prog.funcs[FJ]?=some QD:=Tryz.func30
abbrev A5:Nat:=31
noncomputable abbrev qs:Func:=Tryz.f31
def xR:prog.funcs[A5]?=some qs:=Tryz.func31
def GI:qs.body=some (a7 qs):=by kernel_rfl
abbrev FI:Nat:=32
noncomputable abbrev wg:Func:=Tryz.f32
def C2:prog.funcs[FI]?=some wg:=Tryz.func32
def J5:wg.body=some (a7 wg):=by kernel_rfl
abbrev A8:Nat:=33
noncomputable abbrev qw:Func:=Tryz.f33
def xV:prog.funcs[A8]?=some qw:=Tryz.func33
def GM:qw.body=some (a7 qw):=by kernel_rfl
abbrev uH:Nat:=34
noncomputable abbrev mN:Func:=Tryz.f34
def rQ:prog.funcs[uH]?=some mN:=Tryz.func34
def BJ:mN.body=some (a7 mN):=by kernel_rfl
abbrev DB:Nat:=35
noncomputable abbrev tF:Func:=Tryz.f35
def Af:prog.funcs[DB]?=some tF:=Tryz.func35
def Ip:tF.body=some (a7 tF):=by kernel_rfl
abbrev uJ:Nat:=36
noncomputable abbrev mP:Func:=Tryz.f36
def rS:prog.funcs[uJ]?=some mP:=Tryz.func36
def BL:mP.body=some (a7 mP):=by kernel_rfl
abbrev FH:Nat:=37
noncomputable abbrev we:Func:=Tryz.f37
def C0:prog.funcs[FH]?=some we:=Tryz.func37
def J4:we.body=some (a7 we):=by kernel_rfl
abbrev Ba:Nat:=38
noncomputable abbrev qz:Func:=Tryz.f38
def xX:prog.funcs[Ba]?=some qz:=Tryz.func38
def GP:qz.body=some (a7 qz):=by kernel_rfl
abbrev FC:Nat:=39
noncomputable abbrev vX:Func:=Tryz.f39
def CV:prog.funcs[FC]?=some vX:=Tryz.func39
def JZ:vX.body=some (a7 vX):=by kernel_rfl
abbrev wY:Nat:=40
noncomputable abbrev vW:Func:=Tryz.f40
def nt:prog.funcs[wY]?=some vW:=Tryz.func40
def JY:vW.body=some (a7 vW):=by kernel_rfl
abbrev mY:Nat:=41
noncomputable abbrev mH:Func:=Tryz.f41
def ie:prog.funcs[mY]?=some mH:=Tryz.func41
def BD:mH.body=some (a7 mH):=by kernel_rfl
abbrev wW:Nat:=42
noncomputable abbrev vS:Func:=Tryz.f42
def ns:prog.funcs[wW]?=some vS:=Tryz.func42
def JU:vS.body=some (a7 vS):=by kernel_rfl
abbrev sD:Nat:=43
noncomputable abbrev ll:Func:=Tryz.f43
def pR:prog.funcs[sD]?=some ll:=Tryz.func43
def Ai:ll.body=some (a7 ll):=by kernel_rfl
abbrev wV:Nat:=44
noncomputable abbrev nL:Func:=Tryz.f44
def ui:prog.funcs[wV]?=some nL:=Tryz.func44
def DM:nL.body=some (a7 nL):=by kernel_rfl
abbrev mZ:Nat:=46
noncomputable abbrev mL:Func:=Tryz.f46
def ig:prog.funcs[mZ]?=some mL:=Tryz.func46
def BG:mL.body=some (a7 mL):=by kernel_rfl
abbrev FB:Nat:=47
noncomputable abbrev QC:Func:=Tryz.f47
def Ox:prog.funcs[FB]?=some QC:=Tryz.func47
abbrev FG:Nat:=48
noncomputable abbrev wb:Func:=Tryz.f48
def CZ:prog.funcs[FG]?=some wb:=Tryz.func48
def J3:wb.body=some (a7 wb):=by kernel_rfl
abbrev jU:Nat:=49
noncomputable abbrev jH:Func:=Tryz.f49
def fJ:prog.funcs[jU]?=some jH:=Tryz.func49
def xx:jH.body=some (a7 jH):=by kernel_rfl
abbrev HR:Nat:=50
noncomputable abbrev y8:Func:=Tryz.f50
def En:prog.funcs[HR]?=some y8:=Tryz.func50
def L8:y8.body=some (a7 y8):=by kernel_rfl
abbrev xb:Nat:=51
noncomputable abbrev wh:Func:=Tryz.f51
def nu:prog.funcs[xb]?=some wh:=Tryz.func51
def J6:wh.body=some (a7 wh):=by kernel_rfl
abbrev na:Nat:=52
noncomputable abbrev mQ:Func:=Tryz.f52
def ij:prog.funcs[na]?=some mQ:=Tryz.func52
def BN:mQ.body=some (a7 mQ):=by kernel_rfl
abbrev Fz:Nat:=53
noncomputable abbrev vU:Func:=Tryz.f53
def CT:prog.funcs[Fz]?=some vU:=Tryz.func53
def JW:vU.body=some (a7 vU):=by kernel_rfl
abbrev qP:Nat:=54
noncomputable abbrev qp:Func:=Tryz.f54
def kP:prog.funcs[qP]?=some qp:=Tryz.func54
def GG:qp.body=some (a7 qp):=by kernel_rfl
abbrev uE:Nat:=55
noncomputable abbrev mI:Func:=Tryz.f55
def rO:prog.funcs[uE]?=some mI:=Tryz.func55
def BE:mI.body=some (a7 mI):=by kernel_rfl
abbrev HN:Nat:=56
noncomputable abbrev yW:Func:=Tryz.f56
def Ej:prog.funcs[HN]?=some yW:=Tryz.func56
def L3:yW.body=some (a7 yW):=by kernel_rfl
abbrev Du:Nat:=57
noncomputable abbrev tm:Func:=Tryz.f57
def z8:prog.funcs[Du]?=some tm:=Tryz.func57
def Ia:tm.body=some (a7 tm):=by kernel_rfl
abbrev Dt:Nat:=58
noncomputable abbrev tj:Func:=Tryz.f58
def z7:prog.funcs[Dt]?=some tj:=Tryz.func58
def H9:tj.body=some (a7 tj):=by kernel_rfl
abbrev pw:Nat:=59
noncomputable abbrev o7:Func:=Tryz.f59
def jF:prog.funcs[pw]?=some o7:=Tryz.func59
def Eo:o7.body=some (a7 o7):=by kernel_rfl
abbrev uG:Nat:=61
noncomputable abbrev mM:Func:=Tryz.f61
def rP:prog.funcs[uG]?=some mM:=Tryz.func61
def BH:mM.body=some (a7 mM):=by kernel_rfl
abbrev uF:Nat:=62
noncomputable abbrev mJ:Func:=Tryz.f62
def lh:prog.funcs[uF]?=some mJ:=Tryz.func62
def BF:mJ.body=some (a7 mJ):=by kernel_rfl
abbrev Cy:Nat:=63
noncomputable abbrev B3:Func:=Tryz.f63
def rn:prog.funcs[Cy]?=some B3:=Tryz.func63
def C4:B3.body=some (a7 B3):=by kernel_rfl
abbrev HQ:Nat:=66
noncomputable abbrev y7:Func:=Tryz.f66
def Em:prog.funcs[HQ]?=some y7:=Tryz.func66
def L7:y7.body=some (a7 y7):=by kernel_rfl
abbrev oD:Nat:=67
noncomputable abbrev jd:Func:=Tryz.f67
def iz:prog.funcs[oD]?=some jd:=Tryz.func67
def vN:jd.body=some (a7 jd):=by kernel_rfl
abbrev pz:Nat:=68
noncomputable abbrev jK:Func:=Tryz.f68
def og:prog.funcs[pz]?=some jK:=Tryz.func68
def xB:jK.body=some (a7 jK):=by kernel_rfl
abbrev tZ:Nat:=69
noncomputable abbrev tB:Func:=Tryz.f69
def lY:prog.funcs[tZ]?=some tB:=Tryz.func69
def Ik:tB.body=some (a7 tB):=by kernel_rfl
abbrev qR:Nat:=70
noncomputable abbrev qy:Func:=Tryz.f70
def kQ:prog.funcs[qR]?=some qy:=Tryz.func70
def GO:qy.body=some (a7 qy):=by kernel_rfl
abbrev ub:Nat:=71
noncomputable abbrev tD:Func:=Tryz.f71
def l9:prog.funcs[ub]?=some tD:=Tryz.func71
def Im:tD.body=some (a7 tD):=by kernel_rfl
abbrev FF:Nat:=72
noncomputable abbrev wa:Func:=Tryz.f72
def CY:prog.funcs[FF]?=some wa:=Tryz.func72
def J2:wa.body=some (a7 wa):=by kernel_rfl
abbrev w8:Nat:=73
noncomputable abbrev nO:Func:=Tryz.f73
def um:prog.funcs[w8]?=some nO:=Tryz.func73
def DP:nO.body=some (a7 nO):=by kernel_rfl
abbrev uK:Nat:=74
noncomputable abbrev mR:Func:=Tryz.f74
def rT:prog.funcs[uK]?=some mR:=Tryz.func74
def BP:mR.body=some (a7 mR):=by kernel_rfl
abbrev DA:Nat:=75
noncomputable abbrev tE:Func:=Tryz.f75
def Ae:prog.funcs[DA]?=some tE:=Tryz.func75
def Io:tE.body=some (a7 tE):=by kernel_rfl
abbrev A6:Nat:=76
noncomputable abbrev qt:Func:=Tryz.f76
def xS:prog.funcs[A6]?=some qt:=Tryz.func76
def GJ:qt.body=some (a7 qt):=by kernel_rfl
abbrev tX:Nat:=77
noncomputable abbrev tq:Func:=Tryz.f77
def lW:prog.funcs[tX]?=some tq:=Tryz.func77
def Ic:tq.body=some (a7 tq):=by kernel_rfl
abbrev FA:Nat:=78
noncomputable abbrev vV:Func:=Tryz.f78
def CU:prog.funcs[FA]?=some vV:=Tryz.func78
def JX:vV.body=some (a7 vV):=by kernel_rfl
abbrev sI:Nat:=83
noncomputable abbrev lu:Func:=Tryz.f83
def pV:prog.funcs[sI]?=some lu:=Tryz.func83
def Ao:lu.body=some (a7 lu):=by kernel_rfl
abbrev Cw:Nat:=84
noncomputable abbrev BY:Func:=Tryz.f84
def rl:prog.funcs[Cw]?=some BY:=Tryz.func84
def C3:BY.body=some (a7 BY):=by kernel_rfl
abbrev sG:Nat:=85
noncomputable abbrev lp:Func:=Tryz.f85
def pT:prog.funcs[sG]?=some lp:=Tryz.func85
def Ak:lp.body=some (a7 lp):=by kernel_rfl
abbrev px:Nat:=88
noncomputable abbrev jI:Func:=Tryz.f88
def oe:prog.funcs[px]?=some jI:=Tryz.func88
def xy:jI.body=some (a7 jI):=by kernel_rfl
abbrev py:Nat:=89
noncomputable abbrev jJ:Func:=Tryz.f89
def iZ:prog.funcs[py]?=some jJ:=Tryz.func89
def xA:jJ.body=some (a7 jJ):=by kernel_rfl
abbrev Dz:Nat:=90
noncomputable abbrev tA:Func:=Tryz.f90
def Ad:prog.funcs[Dz]?=some tA:=Tryz.func90
def Ij:tA.body=some (a7 tA):=by kernel_rfl
abbrev lL:Nat:=91
noncomputable abbrev lq:Func:=Tryz.f91
def gO:prog.funcs[lL]?=some lq:=Tryz.func91
def Al:lq.body=some (a7 lq):=by kernel_rfl
abbrev Cx:Nat:=92
noncomputable abbrev BZ:Func:=Tryz.f92
def rm:prog.funcs[Cx]?=some BZ:=Tryz.func92
def OB:BZ.body=some (a7 BZ):=by kernel_rfl
abbrev tW:Nat:=93
noncomputable abbrev tp:Func:=Tryz.f93
def lV:prog.funcs[tW]?=some tp:=Tryz.func93
def Ib:tp.body=some (a7 tp):=by kernel_rfl
abbrev zC:Nat:=94
noncomputable abbrev yX:Func:=Tryz.f94
def oU:prog.funcs[zC]?=some yX:=Tryz.func94
def L4:yX.body=some (a7 yX):=by kernel_rfl
abbrev gZ:Nat:=97
noncomputable abbrev eI:Func:=Tryz.f97
def gC:prog.funcs[gZ]?=some eI:=Tryz.func97
def mG:eI.body=some (a7 eI):=by kernel_rfl
abbrev yB:Nat:=100
noncomputable abbrev o8:Func:=Tryz.f100
def vJ:prog.funcs[yB]?=some o8:=Tryz.func100
def Ep:o8.body=some (a7 o8):=by kernel_rfl
abbrev pA:Nat:=101
noncomputable abbrev jL:Func:=Tryz.f101
def oh:prog.funcs[pA]?=some jL:=Tryz.func101
def xC:jL.body=some (a7 jL):=by kernel_rfl
abbrev Dw:Nat:=102
noncomputable abbrev OE:Func:=Tryz.f102
def LU:prog.funcs[Dw]?=some OE:=Tryz.func102
abbrev tY:Nat:=103
noncomputable abbrev tv:Func:=Tryz.f103
def lX:prog.funcs[tY]?=some tv:=Tryz.func103
def Ig:tv.body=some (a7 tv):=by kernel_rfl
abbrev A7:Nat:=104
noncomputable abbrev qu:Func:=Tryz.f104
def xT:prog.funcs[A7]?=some qu:=Tryz.func104
def GK:qu.body=some (a7 qu):=by kernel_rfl
abbrev Dv:Nat:=105
noncomputable abbrev tu:Func:=Tryz.f105
def Aa:prog.funcs[Dv]?=some tu:=Tryz.func105
def Ie:tu.body=some (a7 tu):=by kernel_rfl
abbrev qO:Nat:=112
noncomputable abbrev qn:Func:=Tryz.f112
def kM:prog.funcs[qO]?=some qn:=Tryz.func112
def GD:qn.body=some (a7 qn):=by kernel_rfl
open Go.RowKit Go.Proofs
set_option maxRecDepth 100000 in
def ZT(a:Option Addr)(n m:Nat)(w:World) :
  Calls prog nF #[.slice a n m] w λ e w'=>e = .returned (.pointer (some ⟨w.heap.size,0,none⟩))/\w'=w.alloc (.cells #[.slice a n m, .int .i64 0, .int .u64 0] 65):=by
 go_enter Tryz.func14,Tryz.ntmps14;go_wp2;go_ret;exact⟨rfl,rfl⟩
def PD:Nat->List Arg->Option (Vc×a1e):=λ f zs=>match Nat.beq f nF with
 | true=>match zs with
  | [.val ⟨.slice (.int .u8),O⟩]=>some (.none, .box [⟨.slice (.int .u8),O⟩,⟨.int .i64,(0:Int)⟩,⟨.int .u64,(0:Int)⟩])
  | _=>none
 | false=>none
def a2O(O:List Int):Zh prog nF [.val ⟨.slice (.int .u8),O⟩] (.box [⟨.slice (.int .u8),O⟩,⟨.int .i64,(0:Int)⟩,⟨.int .u64,(0:Int)⟩]):=by
 intro w S T bK hS _ ha;match bK,ha with
 | [v],ha =>
  have h1:Rd w S (TV.aL ⟨.slice (.int .u8),O⟩) [v]:=ha.1;obtain⟨a,c,e,_⟩:=id h1;simp only[List.cons.injEq,and_true] at e;rw[show (List.map (Ty.int IntKind.u8).aL O).length=O.length from List.length_map _] at e;subst e;refine (ZT a _ c w).mono ?_;rintro e w' ⟨rfl,rfl⟩;have hk:=fw w (.cells #[.slice a O.length c, .int .i64 0, .int .u64 0] 65);refine⟨_,S,rfl,hk,λ _ _=>Iff.rfl,λ k iP=>Nat.lt_of_lt_of_le (hS.1 k iP) hk.size,λ b hb=>?_,w.heap.size,[_, .int .i64 0, .int .u64 0],65,rfl,by simpa using heap_alloc_new w _,?_⟩
  .simp only[dD,b5E] at hb;subst hb;exact⟨b6k _,by simp,λ q=>b8n _ (hS.1 _ q)⟩
  refine⟨⟨rfl,Rd.keep (λ _ h=>h) (λ b hb=>hk.block b (hS.1 b hb) λ h=>h) _ h1⟩,⟨rfl,?_⟩,⟨rfl,?_⟩,af⟩
  .exact⟨rfl,by decide,by decide⟩
  .exact⟨rfl,by decide,by decide⟩
def RH:∀ f args pre cells,PD f args=some (pre,cells)->pre.ok->j9 prog f/\Zh prog f args cells:=by
 intro f args pre cells h _;unfold PD at h;split at h
 .rename_i hf;have hf:=b5G hf;subst hf;split at h
  .simp only[b5E,b5H] at h;obtain⟨rfl,rfl⟩:=h;exact⟨⟨_,LW,rfl,by decide⟩,a2O _⟩
  .cases h
 .cases h
end Go.Proofs.YtlpndogmpcolnaaGreatDoor

namespace Go.Proofs.YtlpndogmpcolnaaGreatDoor
abbrev bG{α:Type}[SizeOf α](x:α):Nat:=SizeOf.sizeOf x
def cz{α:Type}[SizeOf α](d:α):∀ (xs:List α) (i:Nat),i<xs.length->bG (xs.getD i d)<bG xs
 | [],i,h=>by simp at h
 | x::xs,0,h=>by simp[bG];omega
 | x::xs,i+1,h=>by
  have:=cz d xs i (by simpa using h);simp[bG] at this ⊢;omega
def fh(e:J):bG e.U<bG e:=by
 cases e;simp[bG];omega
inductive PK where
 | v (τ:Ty)
 | r (τ:Ty)
 | f
 | c (ps:List Ty) (r:Ty)
 | o (τ:Ty)
 | b (k:Nat)
@[reducible] def KT:List PK->Type 1
 | []=>ULift (Vc×List TV)
 | .v τ::l=>τ.den->KT l
 | .r τ::l=>τ.den->KT l
 | .f::l=>FuncId->KT l
 | .c ps r::l=>FN ps r->KT l
 | .o τ::l=>τ.den->KT l
 | .b _::l=>KT l
def cV:(l:List PK)->KT l->List Arg->Option (Vc×List TV)
 | [],x,[]=>some x.down
 | .v τ::l,g, .val a::zs=>match a.Z9 τ with
  | some x=>cV l (g x) zs
  | none=>none
 | .r τ::l,g, .ref a::zs=>match a.Z9 τ with
  | some x=>cV l (g x) zs
  | none=>none
 | .f::l,g, .fn a::zs=>cV l (g a) zs
 | .c ps r::l,g, .cO a::zs=>match a.Z9 ps r with
  | some x=>cV l (g x) zs
  | none=>none
 | .o τ::l,g, .own a::zs=>match a.Z9 τ with
  | some x=>cV l (g x) zs
  | none=>none
 | _,_,_=>none
def WY(P:Program)(f:FuncId):(l:List PK)->KT l->List Arg->Prop
 | [],x,acc=>x.down.1.ok->gN P f acc (·=x.down.2)
 | .v τ::l,g,acc=>∀ x,WY P f l (g x) (acc++[.val ⟨τ,x⟩])
 | .r τ::l,g,acc=>∀ x,WY P f l (g x) (acc++[.ref ⟨τ,x⟩])
 | .f::l,g,acc=>∀ x,WY P f l (g x) (acc++[.fn x])
 | .c ps r::l,g,acc=>∀ x,WY P f l (g x) (acc++[.cO ⟨ps,r,x⟩])
 | .o τ::l,g,acc=>∀ x,WY P f l (g x) (acc++[.own ⟨τ,x⟩])
 | .b _::_,_,_=>True
def qT{P:Program}{f:FuncId}:∀ (l:List PK) (g:KT l) (acc zs:List Arg) (pre:Vc) (res:List TV),WY P f l g acc->cV l g zs=some (pre,res)->pre.ok->gN P f (acc++zs) (·=res)
 | [],g,acc,zs,pre,res,h,e,hp=>by
  cases zs with
  | nil =>
   simp only[cV,b5E] at e;have h':g.down.1.ok->gN P f acc (·=g.down.2):=h;rw[e] at h';rw[b6K];exact h' hp
  | cons a zs=>simp[cV] at e
 | .v τ::l,g,acc,zs,pre,res,h,e,hp=>by
  cases zs with
  | nil=>simp[cV] at e
  | cons a zs =>
   cases a with
   | val a =>
    rw[cV] at e;split at e
    .rename_i x hx;have:=qT l (g x) (acc++[.val ⟨τ,x⟩]) zs pre res (h x) e hp;rw[TV.aN hx];simpa using this
    .cases e
   | ref a=>simp[cV] at e
   | cO a=>simp[cV] at e
   | own a=>simp[cV] at e
   | fn a=>simp[cV] at e
   | box a=>simp[cV] at e
 | .r τ::l,g,acc,zs,pre,res,h,e,hp=>by
  cases zs with
  | nil=>simp[cV] at e
  | cons a zs =>
   cases a with
   | ref a =>
    rw[cV] at e;split at e
    .rename_i x hx;have:=qT l (g x) (acc++[.ref ⟨τ,x⟩]) zs pre res (h x) e hp;rw[TV.aN hx];simpa using this
    .cases e
   | val a=>simp[cV] at e
   | cO a=>simp[cV] at e
   | own a=>simp[cV] at e
   | fn a=>simp[cV] at e
   | box a=>simp[cV] at e
 | .f::l,g,acc,zs,pre,res,h,e,hp=>by
  cases zs with
  | nil=>simp[cV] at e
  | cons a zs =>
   cases a with
   | fn a =>
    rw[cV] at e;have:=qT l (g a) (acc++[.fn a]) zs pre res (h a) e hp;simpa using this
   | val a=>simp[cV] at e
   | cO a=>simp[cV] at e
   | own a=>simp[cV] at e
   | ref a=>simp[cV] at e
   | box a=>simp[cV] at e
 | .c ps r::l,g,acc,zs,pre,res,h,e,hp=>by
  cases zs with
  | nil=>simp[cV] at e
  | cons a zs =>
   cases a with
   | cO a =>
    rw[cV] at e;split at e
    .rename_i x hx;have:=qT l (g x) (acc++[.cO ⟨ps,r,x⟩]) zs pre res (h x) e hp;rw[FV.aN hx];simpa using this
    .cases e
   | val a=>simp[cV] at e
   | ref a=>simp[cV] at e
   | fn a=>simp[cV] at e
   | own a=>simp[cV] at e
   | box a=>simp[cV] at e
 | .o τ::l,g,acc,zs,pre,res,h,e,hp=>by
  cases zs with
  | nil=>simp[cV] at e
  | cons a zs =>
   cases a with
   | own a =>
    rw[cV] at e;split at e
    .rename_i x hx;have:=qT l (g x) (acc++[.own ⟨τ,x⟩]) zs pre res (h x) e hp;rw[TV.aN hx];simpa using this
    .cases e
   | val a=>simp[cV] at e
   | ref a=>simp[cV] at e
   | fn a=>simp[cV] at e
   | cO a=>simp[cV] at e
   | box a=>simp[cV] at e
 | .b k::l,g,acc,zs,pre,res,h,e,hp=>by
  cases zs<;>simp[cV] at e
structure bc where
 n:Nat
 l:List PK
 g:KT l
def bc.Good(c:bc):Prop:=j9 prog c.n/\WY prog c.n c.l c.g []
def Ew:List bc->Nat->List Arg->Option (Vc×List TV)
 | [],_,_=>none
 | c::r,f,zs=>match Nat.beq c.n f with
  | true=>cV c.l c.g zs
  | false=>Ew r f zs
def PK.own:PK->Bool
 | .o _=>true
 | _=>false
def a9O:List bc->Nat->List Bool
 | [],_=>[]
 | c::r,f=>match Nat.beq c.n f with
  | true=>match c.l.any PK.own with
   | true=>c.l.map PK.own
   | false=>[]
  | false=>a9O r f
def EG(l:List bc)(wr:List Nat:=[])(cl:List (Nat×rJ):=[])(ro:List Nat:=[]):Env:=Env.mk CO PH (Ew l) wr [] (λ _ _=>none) (λ _=>none) (ai cl) ro (λ _=>[]) (λ _=>none) (λ _ _ _=>none) K8 PD Pt
 (λ _ _ _ _=>none)
def bu:List bc->Prop
 | []=>True
 | c::r=>c.Good/\bu r
def Mg:∀ (l:List bc),bu l->∀ f args pre res,Ew l f args=some (pre,res)->pre.ok->j9 prog f/\gN prog f args (·=res)
 | [],_,f,args,pre,res,e,_=>by cases e
 | c::r,h,f,args,pre,res,e,hp=>by
  rw[Ew] at e;split at e
  .rename_i hb;have hb:=b5G hb;subst hb;exact⟨h.1.1,qT c.l c.g [] args pre res h.1.2 e hp⟩
  .exact Mg r h.2 f args pre res e hp
def wR{α:Type}:∀ (l:List (Nat×α)) (n:Nat) (v:α),ai l n=some v->(n,v)∈l
 | [],n,v,h=>by cases h
 | (k,u)::r,n,v,h=>by
  rw[ai] at h;split at h
  .rename_i hb;cases h;rw[b5G hb];exact b8e ..
  .exact b6U _ (wR r n v h)
def Mk{l:List bc}{wr:List Nat}{cl:List (Nat×rJ)}{ro:List Nat}(h:bu l):bl prog (EG l wr cl ro) where
 ty T τ b e ht:=by
  have h1:=b6y.mp (b7Z.1 (vB (EG l wr cl ro))).1 _ (wR _ _ _ ht);exact h1
 K7 T κ ε ht:=by
  have h1:=b6y.mp (b7Z.1 (vB (EG l wr cl ro))).2 _ (wR _ _ _ ht);exact h1
 Ws _ _ _:=trivial
 Mf:=Mg l h
 Lb _ _ _ _ h:=by cases h
 mark _ _ h:=by cases h
 RG:=RH
 Oo _ _ _ _ _ _ h:=by cases h
 UJ _ _ _ _ _ _ _ h:=by cases h
def aG {f:FuncId} {fn:Func} (h:prog.funcs[f]?=some fn) (hb:fn.body.isNone=false:=by rfl) (hn:(fn.name == "runtime.NumGoroutine")=false:=by decide):j9 prog f:=⟨fn,h,hb,hn⟩
def lT:∀ {l m:List TV},tf l m->l=m
 | [],[],_=>rfl
 | [v],[u],h=>by rw[jZ h]
 | v::v'::vs,[u],h=>by
  have:=lT (l:=v'::vs) (m:=[]) h.2;cases this
 | [v],u::u'::us,h=>by
  have:=lT (l:=[]) (m:=u'::us) h.2;cases this
 | v::v'::vs,u::u'::us,h=>by rw[jZ h.1,lT (l:=v'::vs) (m:=u'::us) h.2]
 | [],u::us,h=>by cases h
 | v::vs,[],h=>by
  cases vs<;>cases h
def gN.mono{P:Program}{f:FuncId}{args:List Arg}{p q:List TV->Prop}(h:gN P f args p)(hpq:∀ r,p r->q r):gN P f args q:=by
 intro w S bK hS ha;refine (h w S bK hS ha).mono λ e w'=>?_;rintro⟨x,S',res,h1,h2,h3⟩;exact⟨x,S',res,h1,hpq _ h2,h3⟩
def a0t{f:FuncId}{fn:Func}{O:Code}{l:List bc}{wr:List Nat}{cl:List (Nat×rJ)}{ro:List Nat}(hl:bu l)(hf:prog.funcs[f]?=some fn)(hb:fn.body=some O)(Λ:Nat->aI){args:List Arg}{res:List TV}
  (h:rU (EG l wr cl ro) O Λ 0 (wi (EG l wr cl ro) fn λ r=>tf r res) (dI fn args)):gN prog f args (·=res) :=
 (Ub (Mk hl) oF hf hb Λ h).mono λ _=>lT
def vG(P:Program)(f:FuncId):(l:List PK)->KT l->List Arg->Prop
 | [],x,acc=>x.down.1.ok->vH P f acc x.down.2
 | .v τ::l,g,acc=>∀ x,vG P f l (g x) (acc++[.val ⟨τ,x⟩])
 | .r τ::l,g,acc=>∀ x,vG P f l (g x) (acc++[.ref ⟨τ,x⟩])
 | .f::l,g,acc=>∀ x,vG P f l (g x) (acc++[.fn x])
 | .c ps r::l,g,acc=>∀ x,vG P f l (g x) (acc++[.cO ⟨ps,r,x⟩])
 | .o τ::l,g,acc=>∀ x,vG P f l (g x) (acc++[.own ⟨τ,x⟩])
 | .b _::_,_,_=>True
def oE{P:Program}{f:FuncId}:∀ (l:List PK) (g:KT l) (acc zs:List Arg) (pre:Vc) (res:List TV),vG P f l g acc->cV l g zs=some (pre,res)->pre.ok->vH P f (acc++zs) res
 | [],g,acc,zs,pre,res,h,e,hp=>by
  cases zs with
  | nil =>
   simp only[cV,b5E] at e;have h':g.down.1.ok->vH P f acc g.down.2:=h;rw[e] at h';rw[b6K];exact h' hp
  | cons a zs=>simp[cV] at e
 | .v τ::l,g,acc,zs,pre,res,h,e,hp=>by
  cases zs with
  | nil=>simp[cV] at e
  | cons a zs =>
   cases a with
   | val a =>
    rw[cV] at e;split at e
    .rename_i x hx;have:=oE l (g x) (acc++[.val ⟨τ,x⟩]) zs pre res (h x) e hp;rw[TV.aN hx];simpa using this
    .cases e
   | ref a=>simp[cV] at e
   | cO a=>simp[cV] at e
   | own a=>simp[cV] at e
   | fn a=>simp[cV] at e
   | box a=>simp[cV] at e
 | .r τ::l,g,acc,zs,pre,res,h,e,hp=>by
  cases zs with
  | nil=>simp[cV] at e
  | cons a zs =>
   cases a with
   | ref a =>
    rw[cV] at e;split at e
    .rename_i x hx;have:=oE l (g x) (acc++[.ref ⟨τ,x⟩]) zs pre res (h x) e hp;rw[TV.aN hx];simpa using this
    .cases e
   | val a=>simp[cV] at e
   | cO a=>simp[cV] at e
   | own a=>simp[cV] at e
   | fn a=>simp[cV] at e
   | box a=>simp[cV] at e
 | .f::l,g,acc,zs,pre,res,h,e,hp=>by
  cases zs with
  | nil=>simp[cV] at e
  | cons a zs =>
   cases a with
   | fn a =>
    rw[cV] at e;have:=oE l (g a) (acc++[.fn a]) zs pre res (h a) e hp;simpa using this
   | val a=>simp[cV] at e
   | cO a=>simp[cV] at e
   | own a=>simp[cV] at e
   | ref a=>simp[cV] at e
   | box a=>simp[cV] at e
 | .c ps r::l,g,acc,zs,pre,res,h,e,hp=>by
  cases zs with
  | nil=>simp[cV] at e
  | cons a zs =>
   cases a with
   | cO a =>
    rw[cV] at e;split at e
    .rename_i x hx;have:=oE l (g x) (acc++[.cO ⟨ps,r,x⟩]) zs pre res (h x) e hp;rw[FV.aN hx];simpa using this
    .cases e
   | val a=>simp[cV] at e
   | ref a=>simp[cV] at e
   | fn a=>simp[cV] at e
   | own a=>simp[cV] at e
   | box a=>simp[cV] at e
 | .o τ::l,g,acc,zs,pre,res,h,e,hp=>by
  cases zs with
  | nil=>simp[cV] at e
  | cons a zs =>
   cases a with
   | own a =>
    rw[cV] at e;split at e
    .rename_i x hx;have:=oE l (g x) (acc++[.own ⟨τ,x⟩]) zs pre res (h x) e hp;rw[TV.aN hx];simpa using this
    .cases e
   | val a=>simp[cV] at e
   | ref a=>simp[cV] at e
   | fn a=>simp[cV] at e
   | cO a=>simp[cV] at e
   | box a=>simp[cV] at e
 | .b k::l,g,acc,zs,pre,res,h,e,hp=>by
  cases zs<;>simp[cV] at e
def bc.iY(c:bc):Prop:=j9 prog c.n/\vG prog c.n c.l c.g []
def yM.nX{w:World}{S:Nat->Prop}{v:TV}{x:Value}{fp:List Nat}(h:yM w v x fp)(hb:∀ b∈fp,S b):dE w S v x:=by
 obtain⟨τ,y⟩:=v;cases τ with
 | st s =>
  obtain⟨cs,h1,h2⟩:=h;exact⟨cs,h1,h2.rd _ hb⟩
 | _=>exact Ow.rd _ h hb
def JG.nX{w:World}{S:Nat->Prop}:∀ {vs:List TV} {xs:List Value} {fp:List Nat},JG w vs xs fp->(∀ b∈fp,S b)->aM (dE w S) vs xs
 | [],[],_,_,_=>trivial
 | v::vs,x::xs,fp,h,hb=>by
  obtain⟨f1,f2,rfl,h1,h2⟩:=h;exact⟨h1.nX λ b cw=>hb b (b7v _ cw),JG.nX h2 λ b cw=>hb b (List.mem_append_right _ cw)⟩
 | [],_::_,_,h,_=>h.elim
 | _::_,[],_,h,_=>h.elim
def vH.plain{P:Program}{f:FuncId}{args:List Arg}{res:List TV}(h:vH P f args res):gN P f args (·=res):=by
 intro w S bK hS ha;refine (h w S bK [] hS (td.RR ha) (.inl rfl) b7c (λ b hb=>by cases hb)).mono ?_;rintro e w' ⟨x,fp,rfl,hk,hr,_,mX⟩;have hn:∀ b∈fp,w.heap.size<=b/\b<w'.heap.size:=λ b hb=>(mX b hb).elim (λ q=>by cases q) id;refine⟨x,λ b=>S b\/b∈fp,res,rfl,rfl,⟨hk.os,hk.tape,hk.output,hk.size,λ b hb _=>hk.block b hb λ q=>by cases q⟩,λ b hb=>⟨λ q=>q.elim id λ q=>absurd (hn b q).1 (by omega), .inl⟩,λ b q=>q.elim (λ q=>b6a (hS.1 b q) hk.size) λ q=>(hn b q).2,?_⟩;match res,hr with
 | [v],hr=>exact yM.nX (v:=v) hr λ b hb => .inr hb
 | [],hr =>
  obtain⟨l,h1,h2⟩:=hr;exact⟨l,h1,h2.nX λ b hb => .inr hb⟩
 | v::u::vs,hr =>
  obtain⟨l,h1,h2⟩:=hr;exact⟨l,h1,h2.nX λ b hb => .inr hb⟩
def vG.plain{P:Program}{f:FuncId}:∀ (l:List PK) (g:KT l) (acc:List Arg),vG P f l g acc->WY P f l g acc
 | [],_,_,h=>λ hp=>(h hp).plain
 | .v _::l,g,_,h=>λ x=>vG.plain l (g x) _ (h x)
 | .r _::l,g,_,h=>λ x=>vG.plain l (g x) _ (h x)
 | .f::l,g,_,h=>λ x=>vG.plain l (g x) _ (h x)
 | .c _ _::l,g,_,h=>λ x=>vG.plain l (g x) _ (h x)
 | .o _::l,g,_,h=>λ x=>vG.plain l (g x) _ (h x)
 | .b _::_,_,_,_=>trivial
def bc.iY.plain{k:bc}(h:k.iY):k.Good:=⟨h.1,vG.plain k.l k.g [] h.2⟩
def la:List bc->Prop
 | []=>True
 | c::r=>c.iY/\la r
def RQ:∀ (l:List bc),la l->∀ f args pre res,Ew l f args=some (pre,res)->pre.ok->j9 prog f/\vH prog f args res
 | [],_,f,args,pre,res,e,_=>by cases e
 | c::r,h,f,args,pre,res,e,hp=>by
  rw[Ew] at e;split at e
  .rename_i hb;have hb:=b5G hb;subst hb;exact⟨h.1.1,oE c.l c.g [] args pre res h.1.2 e hp⟩
  .exact RQ r h.2 f args pre res e hp
structure MK where
 n:Nat
 m:WZ
def MK.Good(c:MK):Prop:=j9 prog c.n/\U1 prog c.n c.m
def nb:List MK->Prop
 | []=>True
 | c::r=>c.Good/\nb r
def PB:List MK->Nat->Option WZ
 | [],_=>none
 | c::r,f=>match Nat.beq c.n f with
  | true=>some c.m
  | false=>PB r f
def Rz:∀ (l:List MK),nb l->∀ f m,PB l f=some m->j9 prog f/\U1 prog f m
 | [],_,f,m,e=>by cases e
 | c::r,h,f,m,e=>by
  rw[PB] at e;split at e
  .rename_i hb;have hb:=b5G hb;subst hb;cases e;exact h.1
  .exact Rz r h.2 f m e
@[reducible] def KTC:List Ty->Type 1->Type 1
 | [],R=>R
 | t::ts,R=>t.den->KTC ts R
@[reducible] def Ze:List (List Ty)->Type 1
 | []=>ULift (Vc×List TV×List (List TV))
 | ts::D=>KTC ts (Ze D)
@[reducible] def SF:List PK->List (List Ty)->Type 1
 | [],D=>Ze D
 | .v τ::l,D=>τ.den->SF l D
 | .r τ::l,D=>τ.den->SF l D
 | .f::l,D=>FuncId->SF l D
 | .b _::l,D=>SF l D
 | .c ps r::l,D=>FN ps r->SF l D
 | .o _::l,D=>SF l D
def kC:(ts:List Ty)->(R:Type 1)->KTC ts R->List TV->Option R
 | [],_,r,[]=>some r
 | t::ts,R,g,v::vs=>match v.Z9 t with
  | some x=>kC ts R (g x) vs
  | none=>none
 | _,_,_,_=>none
def kD:(D:List (List Ty))->Ze D->List (List TV)->Option (Vc×List TV×List (List TV))
 | [],r,[]=>some r.down
 | ts::D,g,vs::bz=>match kC ts (Ze D) g vs with
  | some h=>kD D h bz
  | none=>none
 | _,_,_=>none
def kS:(l:List PK)->(D:List (List Ty))->SF l D->List Arg->List (List TV)->Option (Vc×List TV×List (List TV))
 | [],D,g,[],bz=>kD D g bz
 | .v τ::l,D,g, .val a::zs,bz=>match a.Z9 τ with
  | some x=>kS l D (g x) zs bz
  | none=>none
 | .r τ::l,D,g, .ref a::zs,bz=>match a.Z9 τ with
  | some x=>kS l D (g x) zs bz
  | none=>none
 | .f::l,D,g, .fn a::zs,bz=>kS l D (g a) zs bz
 | .c ps r::l,D,g, .cO a::zs,bz=>match a.Z9 ps r with
  | some F=>kS l D (g F) zs bz
  | none=>none
 | .b k::l,D,g, .box j::zs,bz=>match Nat.beq k j with
  | true=>kS l D g zs bz
  | false=>none
 | _,_,_,_,_=>none
def a3x:(ts:List Ty)->(R:Type 1)->(R->List TV->Prop)->KTC ts R->List TV->Prop
 | [],_,p,r,acc=>p r acc
 | t::ts,R,p,g,acc=>∀ x,a3x ts R p (g x) (acc++[⟨t,x⟩])
def a3y(q:List (List TV)->Vc×List TV×List (List TV)->Prop):(D:List (List Ty))->Ze D->List (List TV)->Prop
 | [],r,acc=>q acc r.down
 | ts::D,g,acc=>a3x ts (Ze D) (λ h vs=>a3y q D h (acc++[vs])) g []
def PY(P:Program)(f:FuncId)(sh:List (List CK)):(l:List PK)->(D:List (List Ty))->SF l D->List Arg->Prop
 | [],D,g,acc=>a3y (λ bz r=>r.1.ok->JF P f sh acc bz r.2.1 r.2.2) D g []
 | .v τ::l,D,g,acc=>∀ x,PY P f sh l D (g x) (acc++[.val ⟨τ,x⟩])
 | .r τ::l,D,g,acc=>∀ x,PY P f sh l D (g x) (acc++[.ref ⟨τ,x⟩])
 | .f::l,D,g,acc=>∀ x,PY P f sh l D (g x) (acc++[.fn x])
 | .b k::l,D,g,acc=>PY P f sh l D g (acc++[.box k])
 | .c ps r::l,D,g,acc=>∀ x,PY P f sh l D (g x) (acc++[.cO ⟨ps,r,x⟩])
 | .o _::_,_,_,_=>True
def a4V:∀ (ts:List Ty) (R:Type 1) (p:R->List TV->Prop) (g:KTC ts R) (acc vs:List TV) (r:R),a3x ts R p g acc->kC ts R g vs=some r->p r (acc++vs)
 | [],R,p,g,acc,vs,r,h,e=>by
  cases vs with
  | nil =>
   simp only[kC,b5E] at e;subst e;rw[b6K];exact h
  | cons v vs=>simp[kC] at e
 | t::ts,R,p,g,acc,vs,r,h,e=>by
  cases vs with
  | nil=>simp[kC] at e
  | cons v vs =>
   rw[kC] at e;split at e
   .rename_i x hx;have:=a4V ts R p (g x) (acc++[⟨t,x⟩]) vs r (h x) e;rw[TV.aN hx];simpa using this
   .cases e
def a4W(q:List (List TV)->Vc×List TV×List (List TV)->Prop):∀ (D:List (List Ty)) (g:Ze D) (acc bz:List (List TV)) (r:Vc×List TV×List (List TV)),a3y q D g acc->kD D g bz=some r->q (acc++bz) r
 | [],g,acc,bz,r,h,e=>by
  cases bz with
  | nil =>
   simp only[kD,b5E] at e;subst e;rw[b6K];exact h
  | cons v vs=>simp[kD] at e
 | ts::D,g,acc,bz,r,h,e=>by
  cases bz with
  | nil=>simp[kD] at e
  | cons vs bz =>
   rw[kD] at e;split at e
   .rename_i k hk;have h1:=a4V ts _ _ g [] vs k h hk;have:=a4W q D k (acc++[vs]) bz r (by simpa using h1) e;simpa using this
   .cases e
def ML{P:Program}{f:FuncId}{sh:List (List CK)}:∀ (l:List PK) (D:List (List Ty)) (g:SF l D) (acc zs:List Arg) (bz:List (List TV)) (pre:Vc) (res:List TV) (dz:List (List TV)),PY P f sh l D g acc->kS l D g zs bz=some (pre,res,dz)->pre.ok->JF P f sh (acc++zs) bz res dz
 | [],D,g,acc,zs,bz,pre,res,dz,h,e,hp=>by
  cases zs with
  | nil =>
   have:=a4W _ D g [] bz _ h e;simpa using this hp
  | cons z zs=>simp[kS] at e
 | .v τ::l,D,g,acc,zs,bz,pre,res,dz,h,e,hp=>by
  cases zs with
  | nil=>simp[kS] at e
  | cons a zs =>
   cases a with
   | val a =>
    rw[kS] at e;split at e
    .rename_i x hx;have:=ML l D (g x) (acc++[.val ⟨τ,x⟩]) zs bz pre res dz (h x) e hp;rw[TV.aN hx];simpa using this
    .cases e
   | _=>simp[kS] at e
 | .r τ::l,D,g,acc,zs,bz,pre,res,dz,h,e,hp=>by
  cases zs with
  | nil=>simp[kS] at e
  | cons a zs =>
   cases a with
   | ref a =>
    rw[kS] at e;split at e
    .rename_i x hx;have:=ML l D (g x) (acc++[.ref ⟨τ,x⟩]) zs bz pre res dz (h x) e hp;rw[TV.aN hx];simpa using this
    .cases e
   | _=>simp[kS] at e
 | .f::l,D,g,acc,zs,bz,pre,res,dz,h,e,hp=>by
  cases zs with
  | nil=>simp[kS] at e
  | cons a zs =>
   cases a with
   | fn a =>
    rw[kS] at e;have:=ML l D (g a) (acc++[.fn a]) zs bz pre res dz (h a) e hp;simpa using this
   | _=>simp[kS] at e
 | .b k::l,D,g,acc,zs,bz,pre,res,dz,h,e,hp=>by
  cases zs with
  | nil=>simp[kS] at e
  | cons a zs =>
   cases a with
   | box j =>
    rw[kS] at e;split at e
    .rename_i hb;have hb:=Nat.eq_of_beq_eq_true hb;subst hb;have:=ML l D g (acc++[.box k]) zs bz pre res dz h e hp;simpa using this
    .cases e
   | _=>simp[kS] at e
 | .c ps r::l,D,g,acc,zs,bz,pre,res,dz,h,e,hp=>by
  cases zs with
  | nil=>simp[kS] at e
  | cons a zs =>
   cases a with
   | cO a =>
    rw[kS] at e;split at e
    .rename_i F hF;have:=ML l D (g F) (acc++[.cO ⟨ps,r,F⟩]) zs bz pre res dz (h F) e hp;rw[FV.aN hF];simpa using this
    .cases e
   | _=>simp[kS] at e
 | .o _::l,D,g,acc,zs,bz,pre,res,dz,h,e,hp=>by cases zs<;>simp[kS] at e
structure dZ where
 n:Nat
 sh:List (List CK)
 l:List PK
 D:List (List Ty)
 g:SF l D
def dZ.Good(c:dZ):Prop:=j9 prog c.n/\PY prog c.n c.sh c.l c.D c.g []
def j8:List dZ->Prop
 | []=>True
 | c::r=>c.Good/\j8 r
def a5x:List PK->List (Option Nat)
 | []=>[]
 | .b k::l=>some k::a5x l
 | _::l=>none::a5x l
def a2m:List dZ->Nat->Option SK
 | [],_=>none
 | c::r,f=>match Nat.beq c.n f with
  | true=>some ⟨a5x c.l,c.sh⟩
  | false=>a2m r f
def PJ:List dZ->Nat->List Arg->List (List TV)->Option (Vc×List TV×List (List TV))
 | [],_,_,_=>none
 | c::r,f,zs,bz=>match Nat.beq c.n f with
  | true=>kS c.l c.D c.g zs bz
  | false=>PJ r f zs bz
def R8:∀ (l:List dZ),j8 l->∀ f sk args bz pre res dz,a2m l f=some sk->PJ l f args bz=some (pre,res,dz)->pre.ok->j9 prog f/\JF prog f sk.sh args bz res dz
 | [],_,f,sk,args,bz,pre,res,dz,h,_,_=>by cases h
 | c::r,h,f,sk,args,bz,pre,res,dz,hs,e,hp=>by
  rw[a2m] at hs;rw[PJ] at e;split at e
  .rename_i hb;rw[hb] at hs;have hb:=Nat.eq_of_beq_eq_true hb;subst hb;simp only[Option.some.injEq] at hs;subst hs;exact⟨h.1.1,by simpa using ML c.l c.D c.g [] args bz pre res dz h.1.2 e hp⟩
  .rename_i hb;rw[hb] at hs;exact R8 r h.2 f sk args bz pre res dz hs e hp
def ur(l:List bc)(ol:List bc)(ml:List MK)(own wr:List Nat)(cl:List (Nat×rJ):=[])(ro:List Nat:=[])(sl:List dZ:=[]):Env:=Env.mk CO PH (Ew l) wr own (Ew ol) (PB ml) (ai cl) ro (a9O ol) (a2m sl) (PJ sl) K8 PD Pt
 (λ _ _ _ _=>none)
def Kh{l ol:List bc}{ml:List MK}{own wr:List Nat}{cl:List (Nat×rJ)}{ro:List Nat}{sl:List dZ}(h:bu l)(ho:la ol)(hm:nb ml)(hs:j8 sl):bl prog (ur l ol ml own wr cl ro sl) where
 ty T τ b e ht:=by
  have h1:=b6y.mp (b7Z.1 (vB (ur l ol ml own wr cl ro sl))).1 _ (wR _ _ _ ht);exact h1
 K7 T κ ε ht:=by
  have h1:=b6y.mp (b7Z.1 (vB (ur l ol ml own wr cl ro sl))).2 _ (wR _ _ _ ht);exact h1
 Ws _ _ _:=trivial
 Mf:=Mg l h
 Lb:=RQ ol ho
 mark:=Rz ml hm
 RG:=RH
 Oo _ _ _ _ _ _ h:=by cases h
 UJ:=R8 sl hs
def Yu{f:FuncId}{fn:Func}{O:Code}{l ol:List bc}{ml:List MK}{own wr:List Nat}{cl:List (Nat×rJ)}{ro:List Nat}{sl:List dZ}(hl:bu l)(ho:la ol)(hm:nb ml)(hs:j8 sl)(hf:prog.funcs[f]?=some fn)(hb:fn.body=some O)(Λ:Nat->aI){args:List Arg}{res:List TV}
  (h:rU (ur l ol ml own wr cl ro sl) O Λ 0 (wi (ur l ol ml own wr cl ro sl) fn λ r=>tf r res) (dI fn args)):gN prog f args (·=res) :=
 (Ub (Kh hl ho hm hs) oF hf hb Λ h).mono λ _=>lT
def Yw{f:FuncId}{fn:Func}{O:Code}{l ol:List bc}{ml:List MK}{own wr:List Nat}{cl:List (Nat×rJ)}{ro:List Nat}{sl:List dZ}(hl:bu l)(ho:la ol)(hm:nb ml)(hs:j8 sl)(hf:prog.funcs[f]?=some fn)(hb:fn.body=some O)(Λ:Nat->aI){args:List Arg}{res:List TV}
  (h:rU (ur l ol ml own wr cl ro sl) O Λ 0 (Be (ur l ol ml own wr cl ro sl) fn λ r=>tf r res) (Lw fn args)):vH prog f args res :=
 Hx (Kh hl ho hm hs) oF hf hb Λ (λ _=>lT) h
def Po:List (List TV)->List (List TV)->Prop
 | [],[]=>True
 | a::r,b::q=>tf a b/\Po r q
 | _,_=>False
def P6:∀ {a b:List (List TV)},Po a b->a=b
 | [],[],_=>rfl
 | _::_,_::_,h=>by rw[lT h.1,P6 h.2]
 | [],_::_,h=>h.elim
 | _::_,[],h=>h.elim
def Er(args:List Arg)(n:Nat):Bool:=args.all λ a=>match a with
 | .box k=>Nat.blt k n
 | _=>true
def Ho{args:List Arg}{n:Nat}(h:Er args n=true):∀ k,Arg.box k∈args->k<n:=λ k hk=>by
 unfold Er at h;rw[List.all_eq_true] at h;exact Nat.le_of_ble_eq_true (h _ hk)
def a0P{f:FuncId}{fn:Func}{O:Code}{l ol:List bc}{ml:List MK}{own wr:List Nat}{cl:List (Nat×rJ)}{ro:List Nat}{sl:List dZ}(hl:bu l)(ho:la ol)(hm:nb ml)(hs:j8 sl)(hf:prog.funcs[f]?=some fn)(hb:fn.body=some O)(Λ:Nat->aI){args:List Arg}{sh:List (List CK)}{bz:List (List TV)}{res:List TV}{dz:List (List TV)}
  (DZ:Sb sh=true) (Ca:Er args sh.length=true) (h:rU (ur l ol ml own wr cl ro sl) O Λ 0 (Gw (ur l ol ml own wr cl ro sl) fn sh λ r ds=>tf r res/\Po ds dz) (dQ fn args sh bz)):JF prog f sh args bz res dz :=
 VD (Kh hl ho hm hs) oF hf hb Λ (λ _ _ q=>⟨lT q.1,P6 q.2⟩) DZ (Ho Ca) h
def bo{f:FuncId}{fn:Func}{O:Code}(l:List bc)(wr:List Nat)(cl:List (Nat×rJ))(ro:List Nat)(hl:bu l)(hf:prog.funcs[f]?=some fn)(hb:fn.body=some O)(Λ:Nat->aI){args:List Arg}{res:List TV}(V:Prop)(h:V)
  (e:rU (EG l wr cl ro) O Λ 0 (wi (EG l wr cl ro) fn λ r=>tf r res) (dI fn args)=V:=by kernel_rfl):gN prog f args (·=res) :=
 a0t hl hf hb Λ (Eq.mpr e h)
def qU{f:FuncId}{fn:Func}{O:Code}(l ol:List bc)(ml:List MK)(sl:List dZ)(own wr:List Nat)(cl:List (Nat×rJ))(ro:List Nat)(hl:bu l)(ho:la ol)(hm:nb ml)(hs:j8 sl)(hf:prog.funcs[f]?=some fn)(hb:fn.body=some O)(Λ:Nat->aI){args:List Arg}{res:List TV}(V:Prop)(h:V)
  (e:rU (ur l ol ml own wr cl ro sl) O Λ 0 (wi (ur l ol ml own wr cl ro sl) fn λ r=>tf r res) (dI fn args)=V:=by kernel_rfl):gN prog f args (·=res) :=
 Yu hl ho hm hs hf hb Λ (Eq.mpr e h)
def eO{f:FuncId}{fn:Func}{O:Code}(l ol:List bc)(ml:List MK)(sl:List dZ)(own wr:List Nat)(cl:List (Nat×rJ))(ro:List Nat)(hl:bu l)(ho:la ol)(hm:nb ml)(hs:j8 sl)(hf:prog.funcs[f]?=some fn)(hb:fn.body=some O)(Λ:Nat->aI){args:List Arg}{res:List TV}(V:Prop)(h:V)
  (e:rU (ur l ol ml own wr cl ro sl) O Λ 0 (Be (ur l ol ml own wr cl ro sl) fn λ r=>tf r res) (Lw fn args)=V:=by kernel_rfl):vH prog f args res :=
 Yw hl ho hm hs hf hb Λ (Eq.mpr e h)
def dC{f:FuncId}{fn:Func}{O:Code}(l ol:List bc)(ml:List MK)(sl:List dZ)(own wr:List Nat)(cl:List (Nat×rJ))(ro:List Nat)(hl:bu l)(ho:la ol)(hm:nb ml)(hs:j8 sl)(hf:prog.funcs[f]?=some fn)(hb:fn.body=some O)(Λ:Nat->aI){args:List Arg}{sh:List (List CK)}{bz:List (List TV)}{res:List TV}{dz:List (List TV)}
  (DZ:Sb sh=true) (Ca:Er args sh.length=true) (V:Prop) (h:V) (e:rU (ur l ol ml own wr cl ro sl) O Λ 0 (Gw (ur l ol ml own wr cl ro sl) fn sh λ r ds=>tf r res/\Po ds dz) (dQ fn args sh bz)=V:=by kernel_rfl):JF prog f sh args bz res dz :=
 a0P hl ho hm hs hf hb Λ DZ Ca (Eq.mpr e h)
@[reducible] def Zf:List PK->Ty->Type 1
 | [],τ=>List τ.den->ULift (Vc×List τ.den)
 | .v t::l,τ=>t.den->Zf l τ
 | .r t::l,τ=>t.den->Zf l τ
 | _::l,τ=>Zf l τ
def kR:(l:List PK)->(τ:Ty)->Zf l τ->List Arg->List τ.den->Option (Vc×List τ.den)
 | [],_,g,[],xs=>some (g xs).down
 | .v t::l,τ,g, .val a::zs,xs=>match a.Z9 t with
  | some x=>kR l τ (g x) zs xs
  | none=>none
 | .r t::l,τ,g, .ref a::zs,xs=>match a.Z9 t with
  | some x=>kR l τ (g x) zs xs
  | none=>none
 | _,_,_,_,_=>none
def a1d(P:Program)(f:FuncId):(l:List PK)->(τ:Ty)->Zf l τ->List Arg->Prop
 | [],τ,g,acc=>∀ xs:List τ.den,(g xs).down.1.ok->Ga P f acc τ xs (g xs).down.2
 | .v t::l,τ,g,acc=>∀ x,a1d P f l τ (g x) (acc++[.val ⟨t,x⟩])
 | .r t::l,τ,g,acc=>∀ x,a1d P f l τ (g x) (acc++[.ref ⟨t,x⟩])
 | _::l,τ,g,acc=>False
def a0i{P:Program}{f:FuncId}:∀ (l:List PK) (τ:Ty) (g:Zf l τ) (acc zs:List Arg) (xs ys:List τ.den) (pre:Vc),a1d P f l τ g acc->kR l τ g zs xs=some (pre,ys)->pre.ok->Ga P f (acc++zs) τ xs ys
 | [],τ,g,acc,zs,xs,ys,pre,h,e,hp=>by
  cases zs with
  | nil =>
   simp only[kR,b5E] at e;have h2:=h xs;rw[e] at h2;rw[b6K];exact h2 hp
  | cons z zs=>simp[kR] at e
 | .v t::l,τ,g,acc,zs,xs,ys,pre,h,e,hp=>by
  cases zs with
  | nil=>simp[kR] at e
  | cons a zs =>
   cases a with
   | val a =>
    rw[kR] at e;split at e
    .rename_i x hx;have:=a0i l τ (g x) (acc++[.val ⟨t,x⟩]) zs xs ys pre (h x) e hp;rw[TV.aN hx];simpa using this
    .cases e
   | _=>simp[kR] at e
 | .r t::l,τ,g,acc,zs,xs,ys,pre,h,e,hp=>by
  cases zs with
  | nil=>simp[kR] at e
  | cons a zs =>
   cases a with
   | ref a =>
    rw[kR] at e;split at e
    .rename_i x hx;have:=a0i l τ (g x) (acc++[.ref ⟨t,x⟩]) zs xs ys pre (h x) e hp;rw[TV.aN hx];simpa using this
    .cases e
   | _=>simp[kR] at e
 | .f::l,τ,g,acc,zs,xs,ys,pre,h,e,hp=>h.elim
 | .c _ _::l,τ,g,acc,zs,xs,ys,pre,h,e,hp=>h.elim
 | .o _::l,τ,g,acc,zs,xs,ys,pre,h,e,hp=>h.elim
 | .b _::l,τ,g,acc,zs,xs,ys,pre,h,e,hp=>h.elim
structure LS where
 n:Nat
 l:List PK
 τ:Ty
 g:Zf l τ
def LS.Good(c:LS):Prop:=j9 prog c.n/\a1d prog c.n c.l c.τ c.g []
def PS:List LS->Prop
 | []=>True
 | c::r=>c.Good/\PS r
def PR:List LS->Nat->List Arg->(τ:Ty)->List τ.den->Option (Vc×List τ.den)
 | [],_,_,_,_=>none
 | c::r,f,zs,τ,xs=>match Nat.beq c.n f with
  | true=>match TV.Z9 (.slice c.τ) ⟨.slice τ,xs⟩ with
   | some cK=>match kR c.l c.τ c.g zs cK with
    | some (pre,ys)=>match TV.Z9 (.slice τ) ⟨.slice c.τ,ys⟩ with
     | some ys'=>some (pre,ys')
     | none=>none
    | none=>none
   | none=>none
  | false=>PR r f zs τ xs
def Sn:∀ (l:List LS),PS l->∀ f az τ xs pre ys,PR l f az τ xs=some (pre,ys)->pre.ok->j9 prog f/\Ga prog f az τ xs ys
 | [],_,f,az,τ,xs,pre,ys,e,_=>by cases e
 | c::r,h,f,az,τ,xs,pre,ys,e,hp=>by
  rw[PR] at e;split at e
  .rename_i hb;have hb:=b5G hb;subst hb;split at e
   .rename_i cK hx;split at e
    .rename_i b4l ys1 hk;split at e
     .rename_i ys' hy;simp only[Option.some.injEq,Prod.mk.injEq] at e;obtain⟨rfl,rfl⟩:=e;have e1:=TV.aN hx;simp only[TV.mk.injEq,Ty.slice.injEq] at e1;obtain⟨rfl,e1⟩:=e1;have e1:=eq_of_heq e1;subst e1;have e2:=TV.aN hy;simp only[TV.mk.injEq,true_and] at e2;have e2:=eq_of_heq e2;subst e2;exact⟨h.1.1,by simpa using a0i c.l c.τ c.g [] az xs ys1 b4l h.1.2 hk hp⟩
     .cases e
    .cases e
   .cases e
  .exact Sn r h.2 f az τ xs pre ys e hp
def T1(l:List bc)(ol:List bc)(ml:List MK)(own wr:List Nat)(cl:List (Nat×rJ))(ro:List Nat)(sl:List dZ)(tl:List LS):Env:={ ur l ol ml own wr cl ro sl with Oo:=PR tl }
def Xo{l ol:List bc}{ml:List MK}{own wr:List Nat}{cl:List (Nat×rJ)}{ro:List Nat}{sl:List dZ}{tl:List LS}(h:bu l)(ho:la ol)(hm:nb ml)(hs:j8 sl)(ht:PS tl):bl prog (T1 l ol ml own wr cl ro sl tl) :=
 have h:=Kh (wr:=wr) (own:=own) (cl:=cl) (ro:=ro) h ho hm hs
 { h with
  ty:=by
   intro T τ b e ht;have h1:=b6y.mp (b7Z.1 (vB (T1 l ol ml own wr cl ro sl tl))).1 _ (wR _ _ _ ht);exact h1
  K7:=by
   intro T κ ε ht;have h1:=b6y.mp (b7Z.1 (vB (T1 l ol ml own wr cl ro sl tl))).2 _ (wR _ _ _ ht);exact h1
  Oo:=Sn tl ht }
def Yx{f:FuncId}{fn:Func}{O:Code}(l ol:List bc)(ml:List MK)(sl:List dZ)(tl:List LS)(own wr:List Nat)(cl:List (Nat×rJ))(ro:List Nat)(hl:bu l)(ho:la ol)(hm:nb ml)(hs:j8 sl)(ht:PS tl)(hf:prog.funcs[f]?=some fn)(hb:fn.body=some O)(Λ:Nat->aI){args:List Arg}{res:List TV}(V:Prop)(h:V)
  (e:rU (T1 l ol ml own wr cl ro sl tl) O Λ 0 (Be (T1 l ol ml own wr cl ro sl tl) fn λ r=>tf r res) (Lw fn args)=V:=by kernel_rfl):vH prog f args res :=
 Hx (Xo hl ho hm hs ht) oF hf hb Λ (λ _=>lT) (Eq.mpr e h)
def Y6{f:FuncId}{fn:Func}{O:Code}(l ol:List bc)(ml:List MK)(sl:List dZ)(tl:List LS)(own wr:List Nat)(cl:List (Nat×rJ))(ro:List Nat)(hl:bu l)(ho:la ol)(hm:nb ml)(hs:j8 sl)(ht:PS tl)(hf:prog.funcs[f]?=some fn)(hb:fn.body=some O)(Λ:Nat->aI){args:List Arg}{τ:Ty}{xs ys:List τ.den}(V:Prop)(h:V)
  (e:rU (T1 l ol ml own wr cl ro sl tl) O Λ 0 (Gz τ λ zs=>zs=ys) (oa fn args τ xs)=V:=by kernel_rfl) (hr:fn.results.size=0:=by rfl) (Ca:Er args 0=true:=by rfl) (hn:Nat.ble (args.length+1) fn.ntmps=true:=by rfl):Ga prog f args τ xs ys :=
 QJ (Xo hl ho hm hs ht) oF hf hb Λ hr (λ k hk=>absurd (Ho Ca k hk) (b6H _)) (b6R hn) (Eq.mpr e h)
open Go.ChangeShapes Go.WideShapes Go.ChangeAt Go.RowKit
theorem cP.append{w:World}{S:Nat->Prop}:∀ (ds es:List D) {l m:List Value},cP w S ds l->cP w S es m->cP w S (ds++es) (l++m)
 | [],_,_,_,h,k=>by rw[show _=[] from h];simpa using k
 | d::ds,es,_,m,h,k=>by
  obtain⟨c,r,rfl,h2,h3⟩:=h;exact⟨c,r++m,by simp,h2,cP.append ds es h3 k⟩
theorem a3h{w:World}{S:Nat->Prop}(t:Ty)(y:t.den){cs:List Value}(h:Rd w S (t.aL y) cs):cP w S ((TV.cells ⟨t,y⟩).map TV.aL) cs:=by
 have one:∀ d:D,d.leaf=true->Rd w S d cs->cP w S [d] cs:=by
  intro d hd h;obtain⟨v,rfl,_⟩:=Rd.tU hd h;exact⟨v,[],rfl,h,rfl⟩
 cases t with
 | st s =>
  have h':Rd w S (s.aL y) cs:=h;rw[aH.bT] at h';exact h'
 | int k=>exact one _ rfl h
 | bool=>exact one _ rfl h
 | str=>exact one _ rfl h
 | slice t=>exact one _ rfl h
 | mv t=>exact one _ (M4 _ _ _) h
 | ptr=>exact one _ rfl h
theorem Ix{w:World}{S:Nat->Prop}:∀ (ts:List Ty) (cs:List Value),cs.length=(ts.map Ty.size).sum ->
  (∀ i t,ts[i]?=some t->∃ y:t.den,Rd w S (t.aL y) ((cs.drop ((ts.take i).map Ty.size).sum).take t.size)) ->
  ∃ fl:List TV,fl.map TV.τ=ts/\cP w S ((fl.flatMap TV.cells).map TV.aL) cs
 | [],cs,h,_=>⟨[],rfl,by
   have:cs=[]:=by simpa using h
   subst this;exact rfl⟩
 | t::ts,cs,h,k=>by
  obtain⟨y,hy⟩:=k 0 t rfl;simp only[b7K,b7f,List.sum_nil,b8h] at hy;simp only[b6w,b9V] at h;obtain⟨fl,h1,h2⟩:=Ix ts (cs.drop t.size) (by simp;omega) (λ i u hu=>by
   obtain⟨z,hz⟩:=k (i+1) u hu;simp only[b8F,b6w,b9V] at hz;rw[<-b7J] at hz;exact⟨z,hz⟩)
  refine⟨⟨t,y⟩::fl,by simp[h1],?_⟩;simp only[b7z,b7t];have:=cP.append _ _ (a3h t y hy) h2;rwa [b7l] at this
theorem a2g{w:World}{S:Nat->Prop}(t:Ty)(b:Nat):∀ (n o:Nat),(∀ i,i<n->∃ (x:t.den) (cs:List Value),cs.length=t.size/\Rd w S (t.aL x) cs/\bP w b (o+i * t.size) cs) ->
  ∃ xs:List t.den,xs.length=n/\dh w S (xs.map t.aL) b o
 | 0,o,_=>⟨[],rfl,af⟩
 | n+1,o,h=>by
  obtain⟨x,cs,h1,h2,h3⟩:=h 0 (by omega);obtain⟨xs,h4,h5⟩:=a2g t b n (o+t.size) (λ i hi=>by
   obtain⟨y,c,g1,g2,g3⟩:=h (i+1) (by omega);exact⟨y,c,g1,g2,by rw[show o+t.size+i * t.size=o+(i+1) * t.size by rw[b6V];omega];exact g3⟩)
  refine⟨x::xs,by simp[h4],⟨cs,by rw[Ty.cA];exact h1,h2,by simpa using h3⟩,?_⟩;rw[Ty.cA];exact h5
section
variable {H:Type} {enc:TypeId×Value->H} {w:World} {spare:Nat->Bool} {held:Bool}
theorem Wl(d:DataW H):1<=Rows.uptoBulk d:=by
 cases d with
 | lit l=>cases l<;>simp[Rows.uptoBulk]
 | nil=>simp[Rows.uptoBulk]
 | ptr d=>simp[Rows.uptoBulk]
 | slice elems spare=>simp[Rows.uptoBulk]
 | agg parts=>simp[Rows.uptoBulk]
 | iface t d=>simp[Rows.uptoBulk]
 | map entries=>simp[Rows.uptoBulk]
 | held h=>simp[Rows.uptoBulk]
theorem Lh{d:DataW H}{l:List (DataW H)}(h:d∈l):Rows.uptoBulk d<=Rows.uptoBulkAll l:=by
 induction l with
 | nil=>cases h
 | cons x r ih =>
  simp only[Rows.uptoBulkAll];cases b5X.1 h with
  | inl e=>subst e;omega
  | inr e=>have:=ih e;omega
theorem O6(l:List (DataW H)):l.length<=Rows.uptoBulkAll l:=by
 induction l with
 | nil=>simp[Rows.uptoBulkAll]
 | cons x r ih=>have:=Wl x;simp only[Rows.uptoBulkAll,b5S];omega
theorem kJ:bl prog (EG []):=Mk trivial
theorem oY{T b e:Nat}{τ:Ty}(h:ai CO T=some (τ,b,e)):prog.cellsOf T=τ.size:=by
 obtain⟨i,z,h1,h2,_⟩:=(kJ.info (T:=T) (τ:=τ) (b:=b) (e:=e) h).ex;simp[Program.cellsOf,h1,h2]
theorem YG:∀ (fuel:Nat) (τ:Ty) (T b e:Nat) (cs:List Value) (x:DataW H×List MemPlace),ai CO T=some (τ,b,e)->DataW.trod enc prog w 0 spare held fuel T cs=some x ->
  Rows.uptoBulk x.1<=1048576->∃ y:τ.den,Rd w (·<w.heap.size) (τ.aL y) cs:=by
 intro fuel;induction fuel with
 | zero =>
  intro τ T b e cs x ht h hk;have h':(none:Option (DataW H×List MemPlace))=some x:=h;cases h'
 | succ fuel ih =>
 intro τ T b e cs x ht h hk;cases τ with
 | int k =>
  obtain⟨n,rfl,rfl,hw⟩:=DataW.trod_int (kJ.int ht) h;refine⟨n,rfl,?_⟩;simpa [Lit.wf] using hw
 | bool =>
  obtain⟨n,rfl,rfl⟩:=DataW.trod_bool (kJ.bool ht) h;exact⟨n,rfl⟩
 | str =>
  obtain⟨n,rfl,rfl,hw⟩:=DataW.trod_string (kJ.str ht) h;refine⟨n.data.toList,n,rfl,rfl,?_⟩;simp[Rows.uptoBulk] at hk;have:n.size=n.data.size:=rfl;omega
 | mv t=>exact (kJ.a5s ht).elim
 | ptr =>
  obtain⟨t,hu⟩:=kJ.ptr ht;rcases DataW.trod_pointer hu h with ⟨rfl,_⟩|⟨a,_,_,_,_,rfl,_⟩
  .exact⟨(),_,rfl⟩
  .exact⟨(),_,rfl⟩
 | slice t =>
  obtain⟨hu,⟨b',e',he⟩,_⟩:=kJ.slice ht;have hc:=oY he;rcases DataW.trod_slice hu h with ⟨rfl,rfl⟩|⟨a,len,cap,elems,rest,n,hn,rfl,rfl,hb,hl,hm,hlen,SU,_⟩
  .exact⟨[],none,0,rfl,b6k _,b6L _,b6L _, .inl rfl⟩
  .obtain rfl:n=fuel:=by omega
   rw[hc] at SU;have Z4:∀ (i:Nat) (z:DataW H×List MemPlace),elems[i]?=some z->Rows.uptoBulk z.1<=1048576:=by
    intro i z hz;have h1:=Lh (d:=z.1) (l:=elems.map (·.1)) (b5N.2 ⟨z,b6N hz,rfl⟩);simp only[Rows.uptoBulk] at hk;omega
   have EZ:∀ i,i<len->∃ (y:t.den) (c:List Value),c.length=t.size/\Rd w (·<w.heap.size) (t.aL y) c/\(∀ j v,c[j]?=some v->w.cell? ((a.add (i * t.size)).add j)=some v):=by
    intro i hi;have hz:elems[i]?=some (elems[i]'(by omega)):=b6e (by omega);have:=SU i hi;rw[hz,b6Q] at this;obtain⟨c,Mv,hc2⟩:=this;obtain⟨y,hy⟩:=ih t e b' e' c _ he hc2 (Z4 i _ hz);obtain⟨_,h5,h6⟩:=World.cells?_some Mv;refine⟨y,c,h5,hy,λ j v hj=>?_⟩;rw[h6 j (by rw[<-h5];exact (b6o.1 hj).1),hj]
   have hlb:len<=1048576:=by
    have h1:=O6 (elems.map (·.1));simp only[Rows.uptoBulk,b6G] at hk h1;omega
   rcases Nat.eq_zero_or_pos len with h0|h0
   .subst h0;exact⟨[],some a,cap,rfl,b6L _,hm,b6L _, .inl rfl⟩
   .have hp:=Ty.size_pos t;have VZ:a.spot=none:=by
     obtain⟨y,c,g1,g2,g3⟩:=EZ 0 h0;have hj:c[0]?=some (c[0]'(by omega)):=List.getElem?_eq_getElem (by omega);have:=World.cell?_spot (g3 0 _ hj);simpa [Addr.add] using this
    obtain⟨ab,ao,asp⟩:=a;simp only at VZ;subst VZ;have a9p:∀ i j,((⟨ab,ao,none⟩:Addr).add i).add j=⟨ab,ao+i+j,none⟩:=by
     intro i j;unfold Addr.add;split<;>split<;>simp_all<;>omega
    obtain⟨xs,h1,h2⟩:=a2g (w:=w) (S:=(·<w.heap.size)) t ab len ao (λ i hi=>by
     obtain⟨y,c,g1,g2,g3⟩:=EZ i hi;exact⟨y,c,g1,g2,λ j v hj=>by rw[<-a9p];exact g3 j v hj⟩)
    have bp:ab<w.heap.size:=by
     obtain⟨y,c,g1,g2,g3⟩:=EZ 0 h0;have hj:c[0]?=some (c[0]'(by omega)):=List.getElem?_eq_getElem (by omega);have:=g3 0 _ hj;rw[a9p] at this;unfold World.cell? at this;split at this
     .rename_i hh;exact (b7n.1 hh).1
     .cases this
    have VV:(xs.map t.aL).length=len:=by simp[h1]
    refine⟨xs,some ⟨ab,ao,none⟩,cap,by rw[VV],by rw[VV];exact hl,hm,by rw[VV];omega, .inr ⟨ab,ao,rfl,bp,h2⟩⟩
 | st s =>
  obtain⟨fl,h1,h2⟩:∃ fl:List TV,fl.map TV.τ=s.c9/\cP w (·<w.heap.size) ((fl.flatMap TV.cells).map TV.aL) cs:=by
   cases ha:s.arr with
   | true =>
    obtain⟨e1,hu,_⟩:=kJ.arr ht ha;obtain⟨xs,n,hn,rfl,xH,sd,hx⟩:=DataW.trod_array hu h;obtain rfl:n=fuel:=by omega
    have jt:cs.length=(s.c9.map Ty.size).sum:=by
     rw[xH,oY ht];cases s<;>rfl
    exact Ix (w:=w) (S:=(·<w.heap.size)) s.c9 cs jt (λ i t hi=>by
     have bp:=(b6o.1 hi).1;obtain⟨e2,k1,⟨b',e',k2⟩,k3⟩:=kJ.Vb ht ha hi;rw[hu] at k1;simp only[b5E,b9R,b6t] at k1;subst k1;have hy:=hx i bp;have hz:xs[i]?=some (xs[i]'(by omega)):=b6e (by omega);rw[hz,oY k2,<-k3] at hy;refine ih t _ b' e' _ _ k2 hy ?_;have h3:=Lh (d:=(xs[i]'(by omega)).1) (l:=xs.map (·.1)) (b5N.2 ⟨_,b7a _,rfl⟩);simp only[Rows.uptoBulk] at hk;omega)
   | false =>
    obtain⟨fs,hu,cr,hf⟩:=kJ.st ht ha;obtain⟨xs,n,hn,rfl,xH,sd,hx⟩:=DataW.trod_struct hu h;obtain rfl:n=fuel:=by omega
    have jt:cs.length=(s.c9.map Ty.size).sum:=by
     rw[xH,oY ht];cases s<;>rfl
    exact Ix (w:=w) (S:=(·<w.heap.size)) s.c9 cs jt (λ i t hi=>by
     have bp:i<fs.size:=by rw[cr];exact (b6o.1 hi).1
     obtain⟨t',b',e',g1,g2,g3⟩:=hf i (fs[i]'bp) (b6O bp);rw[hi] at g1;cases g1;have hy:=hx i (fs[i]'bp) (b6O bp);have hz:xs[i]?=some (xs[i]'(by omega)):=b6e (by omega);rw[hz,oY g2,g3] at hy;refine ih t _ b' e' _ _ g2 hy ?_;have h3:=Lh (d:=(xs[i]'(by omega)).1) (l:=xs.map (·.1)) (b5N.2 ⟨_,b7a _,rfl⟩);simp only[Rows.uptoBulk] at hk;omega)
  obtain⟨y,hy⟩:=aH.ZL s fl h1;refine⟨y,?_⟩;show Rd w _ (s.aL y) cs;rw[aH.bT,aH.Hr,hy];exact h2
end
end Go.Proofs.YtlpndogmpcolnaaGreatDoor

namespace Go.Proofs.YtlpndogmpcolnaaGreatDoor
open Go.ChangeShapes Go.WideShapes Go.ChangeAt Go.RowKit
theorem a0z:laidOutB prog=true:=by kernel_rfl
theorem a3f:ownKnob prog.godebug=none:=by kernel_rfl
section
variable {H:Type} {enc:TypeId×Value->H}
theorem HZ{W W':World}{sp:Nat->Bool}(hb:Below W.heap.size W W'):∀ (ts:List TypeId) {vs:List Value} {ds:List (DataW H)} {ps:List MemPlace},(∀ t∈ts,prog.readableRec t=true/\t<prog.types.size) ->
  DataW.TrodAll enc prog W 0 (λ _=>true) true ts vs ds ps->(∀ p∈ps,p.block<W.heap.size)->(∀ p∈ps,sp p.block=true)->DataW.TrodAll enc prog W' 0 sp true ts vs ds ps
 | [],[],[],ps,_,h,_,_=>h
 | t::ts,v::vs,d::ds,ps,ht,h,bp,VZ=>by
  obtain⟨p,q,h1,h2,rfl⟩:=h;refine⟨p,q,?_,?_,rfl⟩
  .exact WideElems.Trod_stays a0z (ht t (by simp)).1 (ht t (by simp)).2 h1 (λ x hx=>hb.same (bp x (by simp[hx]))) (λ x hx=>VZ x (by simp[hx]))
  .exact HZ hb ts (λ t h=>ht t (by simp[h])) h2 (λ x hx=>bp x (by simp[hx])) (λ x hx=>VZ x (by simp[hx]))
 | [],_::_,_,_,_,h,_,_=>h.elim
 | [],[],_::_,_,_,h,_,_=>h.elim
 | _::_,[],_,_,_,h,_,_=>h.elim
 | _::_,_::_,[],_,_,h,_,_=>h.elim
theorem YC{f:Func}{s:ChangeSpec}{apart fresh handsOn again:Bool}{W W':World}{args:Array Value}{v:Value}{ds gs:List (DataW H)}{before pa pv:List MemPlace}
  (hW:DataW.Whole enc prog f.params.toList s.vars apart W args.toList ds gs before)
  (Um:∀ (b:Nat) (sp:Nat->Bool) (hd:Bool),DataW.TrodAll enc prog W' b sp hd f.resultTypes.toList (v.resultList f.resultTypes.size) (s.fn H (ds++gs)).results [])
  (dO:∀ sp:Nat->Bool,(∀ p∈before,sp p.block=true)->DataW.TrodAll enc prog W' 0 sp true f.params.toList args.toList (s.fn H (ds++gs)).args pa)
  (Q8:∀ sp:Nat->Bool,(∀ p∈before,sp p.block=true)->DataW.TrodVars enc prog W' sp s.vars (s.fn H (ds++gs)).vars pv)
  (hps:before=pa++pv) (hb:Below W.heap.size W W')
  (hok:∀ (j:Nat) (t:TypeId) (r:Value),f.resultTypes[j]?=some t->(v.resultList f.resultTypes.size)[j]?=some r->Value.okWide prog W' .any 0 t r) :
  s.post enc prog f apart fresh handsOn again W args v W':=by
 have bp:∀ p∈before,p.block<W.heap.size:=λ p hp=>hW.lt p hp;have hold:∀ p∈before,(λ b=>decide (b<W.heap.size)) p.block=true:=λ p hp=>by simpa using bp p hp
 refine⟨ds,gs,before,[],pa,pv,hW,Um _ _ _,dO _ hold,Q8 _ hold,World.keptBut_mono (λ p hp=>⟨hp,?_⟩) (hb.frame (·∈before)),λ _=>?_⟩
 .rw[hps,b5F] at hp;exact Or.inr hp
 .obtain⟨_,_,_,_,_,hz,hn⟩:=hW;refine⟨hok,_,_,([]++pa)++pv,⟨[]++pa,pv,trodAll_append (dO _ (λ _ _=>rfl)) (Um _ _ _),Q8 _ (λ _ _=>rfl),rfl,?_,?_⟩,?_⟩
  .intro b off hp;have fv:MemPlace.cell b off∈before:=by rw[hps];simpa using hp
   rw[hb.frozen (bp _ fv)];exact hz b off fv
  .intro ha;have:=hn ha;rw[hps] at this;simpa using this
  .intro p hp _;rw[hps];simpa using hp
def YQ(τ:Ty)(v:Value):Prop:=match τ with
 | .st _=>∃ cs,v = .agg cs
 | _=>v.cells = #[v]
theorem a8z{w:World}{S:Nat->Prop}(τ:Ty)(y:τ.den){v:Value}(hv:YQ τ v)(h:Rd w S (τ.aL y) v.cells.toList):dE w S ⟨τ,y⟩ v:=by
 cases τ with
 | st s =>
  obtain⟨cs,rfl⟩:=hv;exact⟨cs.toList,by simp,h⟩
 | int k=>simp only[show v.cells = #[v] from hv] at h;exact h
 | bool=>simp only[show v.cells = #[v] from hv] at h;exact h
 | str=>simp only[show v.cells = #[v] from hv] at h;exact h
 | slice t=>simp only[show v.cells = #[v] from hv] at h;exact h
 | mv t=>simp only[show v.cells = #[v] from hv] at h;exact h
 | ptr=>simp only[show v.cells = #[v] from hv] at h;exact h
theorem W4{w:World}:∀ (ts:List TypeId) (τs:List Ty) {vs:List Value} {ds:List (DataW H)} {ps:List MemPlace},aM (λ T τ=>∃ b e,ai CO T=some (τ,b,e)) ts τs ->
  DataW.TrodAll enc prog w 0 (λ _=>true) true ts vs ds ps->(∀ d∈ds,Rows.uptoBulk d<=1048576)->(∀ (j:Nat) t v,ts[j]?=some t->vs[j]?=some v->Value.okWide prog w .any 0 t v\/∃ b,Value.okWide prog w .any b t v) ->
  ∃ LK:List TV,LK.map TV.τ=τs/\ds.length=τs.length/\aM (vC prog w (·<w.heap.size)) (LK.map .val) vs
 | [],[],[],[],_,_,_,_,_=>⟨[],rfl,rfl,af⟩
 | T::ts,τ::τs,v::vs,d::ds,ps,ht,h,hk,hv=>by
  obtain⟨p,q,⟨n,h1⟩,h2,rfl⟩:=h;obtain⟨⟨b,e,hT⟩,G7⟩:=ht;obtain⟨y,hy⟩:=YG n τ T b e _ _ hT h1 (hk d (by simp));obtain⟨LK,g1,g2,g3⟩:=W4 ts τs G7 h2 (λ d hd=>hk d (by simp[hd])) (λ j t v hj EY=>hv (j+1) t v hj EY);refine⟨⟨τ,y⟩::LK,by simp[g1],by simp[g2],⟨?_,g3⟩⟩;refine a8z τ y ?_ hy;have KO:=hv 0 T v rfl rfl;have key:∀ b,Value.okWide prog w .any b T v->YQ τ v:=by
   intro b' hb;cases τ with
   | st s =>
    cases ha:s.arr with
    | true =>
     obtain⟨e',hu,_⟩:=kJ.arr hT ha;simp only[Value.okWide,hu] at hb;obtain⟨cs,rfl,_⟩:=hb;exact⟨cs,rfl⟩
    | false =>
    obtain⟨fs,hu,_⟩:=kJ.st hT ha;simp only[Value.okWide,hu] at hb;obtain⟨cs,rfl,_⟩:=hb;exact⟨cs,rfl⟩
   | int k =>
    have hu:=kJ.int hT;simp only[Value.okWide,hu,Cell.okWide,Cell.ok] at hb;cases v<;>first|rfl|cases hb
   | bool =>
    have hu:=kJ.bool hT;simp only[Value.okWide,hu,Cell.okWide,Cell.ok] at hb;cases v<;>first|rfl|cases hb
   | str =>
    have hu:=kJ.str hT;simp only[Value.okWide,hu,Cell.okWide,Cell.ok] at hb;cases v<;>first|rfl|cases hb
   | mv t=>exact (kJ.a5s hT).elim
   | ptr =>
    obtain⟨t,hu⟩:=kJ.ptr hT;simp only[Value.okWide,hu,Cell.okWide,Cell.ok] at hb;cases v<;>first|rfl|cases hb
   | slice t =>
    have hu:=(kJ.slice hT).1;simp only[Value.okWide,hu,Cell.okWide,Cell.ok] at hb;cases v<;>first|rfl|cases hb
  rcases KO with h|⟨b',h⟩
  .exact key _ h
  .exact key _ h
 | [],_::_,_,_,_,h,_,_,_=>h.elim
 | _::_,[],_,_,_,h,_,_,_=>h.elim
 | [],[],_::_,_,_,_,h,_,_=>h.elim
 | [],[],[],_::_,_,_,h,_,_=>h.elim
 | _::_,_::_,[],_,_,_,h,_,_=>h.elim
 | _::_,_::_,_::_,[],_,_,h,_,_=>h.elim
noncomputable def a9k(g:Nat):Bool:=g<prog.globals.size&&match ((begin prog (λ _ _=>0) default).world.heap[g]?).bind Obj.row? with
 | some (zero,t)=>zero.size == 1&&prog.buildable t&&(match prog.cellTypes prog.depth t with|some [u]=>u == t|_=>false)&&(match prog.underlying t with|some (.int .i64)=>true|_=>false)
 | none=>false
theorem a2R:ZV.all a9k=true:=by kernel_rfl
theorem QN{W:World}(h:W.ShapedOpen prog):pO W (·<W.heap.size):=⟨λ _ h=>h,λ g hg=>by
 have hk:=List.all_eq_true.1 a2R g hg;unfold a9k at hk;rw[Bool.and_eq_true] at hk;obtain⟨h1,h2⟩:=hk;split at h2
 .rename_i zero t h0;simp only[b5M] at h2;obtain⟨⟨⟨k1,k2⟩,k3⟩,k4⟩:=h2;have k3':prog.cellTypes prog.depth t=some [t]:=by
   split at k3
   .rename_i u hu;rw[hu,eq_of_beq k3]
   .cases k3
  have k4':prog.underlying t=some (.int .i64):=by
   split at k4
   .rename_i hu;exact hu
   .cases k4
  obtain⟨m,hm⟩:=cell_of_shapedOpen_int h (of_decide_eq_true h1) h0 (eq_of_beq k1) k2 k3' k4';refine⟨?_,m,hm⟩;unfold World.cell? at hm;rcases Nat.lt_or_ge g W.heap.size with q|q
  .exact q
  .rw[show W.heap[g]?=none from b7i q] at hm;cases hm
 .cases h2⟩
theorem a4Z{n:FuncId}{fn:Func}{s:ChangeSpec}{τs:List Ty}{handsOn again:Bool}(hts:aM (λ T τ=>∃ b e,ai CO T=some (τ,b,e)) fn.params.toList τs)
  (VY:∀ t∈fn.params.toList,prog.readableRec t=true/\t<prog.types.size) (hr:fn.resultTypes = #[Pm]) (Q8:s.vars=[])
  (hs:∀ ds:List (DataW H),ds.length=τs.length->s.fn H ds={ results:=[.lit (.bool true)],args:=ds })
  (b3S:∀ LK:List TV,LK.map TV.τ=τs->gN prog n (LK.map .val) (·=[⟨.bool,true⟩]))
  {W:World} {base:Nat} {args:Array Value} {ds gs:List (DataW H)} {before:List MemPlace}
  (XU:∀ (j:Nat) t v,fn.params[j]?=some t->args[j]?=some v->Value.okWide prog W .any base t v)
  (hW:DataW.Whole enc prog fn.params.toList s.vars false W args.toList ds gs before) (hk:Rows.uptoSmall H (ds++gs)=true) (DZ:pO W (·<W.heap.size)) :
  Calls prog n args W λ e W'=>∃ v,e = .returned v/\s.post enc prog fn false true handsOn again W args v W':=by
 have hW':=hW;obtain⟨p,q,hA,hV,hpq,hfz,c6⟩:=hW;rw[Q8] at hV;obtain⟨rfl,rfl⟩:=trodVars_none hV;have Z4:∀ d∈ds,Rows.uptoBulk d<=1048576:=by
  intro d hd;have h1:=Lh hd;simp only[Rows.uptoSmall,b6K,b5K] at hk;omega
 obtain⟨LK,h1,h2,h3⟩:=W4 fn.params.toList τs hts hA Z4 (λ j t v hj EY => .inr ⟨base,XU j t v (by simpa using hj) (by simpa using EY)⟩);have kB:=b3S LK h1 W (·<W.heap.size) args.toList DZ h3;rw[show args.toList.toArray=args by simp] at kB;refine kB.mono λ e W'=>?_;rintro⟨x,S',res,rfl,rfl,iC,ZZ,hS2,Um⟩;have hx:x = .bool true:=by
  have hx:dE W' S' ⟨.bool,true⟩ x:=Um;have hx:[x]=[Value.bool true]:=hx;simpa using hx
 subst hx;have hb:Below W.heap.size W W':=⟨iC.os,iC.tape,iC.output,iC.size,λ k hk=>iC.block k hk (λ h=>h)⟩;refine⟨_,rfl,YC (pa:=p) (pv:=[]) hW' ?_ ?_ ?_ hpq hb ?_⟩
 .intro b sp hd;rw[hs _ (by simpa using h2),hr];exact trodAll_mk1 ⟨1,by
   have hu:prog.underlying Pm=some .bool:=by kernel_rfl
   simp only[DataW.trod,Value.cells];rw[hu]⟩
 .intro sp VZ;rw[hs _ (by simpa using h2),List.append_nil];have bp:∀ x∈before,x.block<W.heap.size:=λ x hx=>hW'.lt x hx;rw[hpq] at bp VZ;exact HZ hb _ VY hA (λ x hx=>bp x (by simp[hx])) (λ x hx=>VZ x (by simp[hx]))
 .intro sp VZ;rw[hs _ (by simpa using h2),Q8];rfl
 .refine ok_one hr rfl ?_;have hu:prog.underlying Pm=some .bool:=by kernel_rfl
  simp[Value.okWide,hu,Cell.okWide,Cell.ok]
end
end Go.Proofs.YtlpndogmpcolnaaGreatDoor

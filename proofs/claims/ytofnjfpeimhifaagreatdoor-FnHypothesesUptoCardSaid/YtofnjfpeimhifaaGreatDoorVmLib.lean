/- VmDraw3, VmFrz, VmMix, VmDraw4, VmGuard, VmCode, VmFun, VmOwnFun, VmStFun, VmTab, VmNew, VmUse, VmOpen, VmRow, VmLib. -/
import Derived.Test.YtofnjfpeimhifaaGreatDoorVmDraw2
import Derived.Deep.LoopGhost
import Derived.Test.YtofnjfpeimhifaaGreatDoorChecked
import Derived.WalkKit
import Derived.Test.YtofnjfpeimhifaaGreatDoorRows
import Derived.ProofKit
import Derived.OpenShut
import Derived.JoinedCond
import Derived.Carry
import Derived.ChangeSame
import Derived.Shelf.Vars
set_option linter.all false
set_option maxHeartbeats 4000000
set_option maxRecDepth 100000
namespace Go.Proofs.YtofnjfpeimhifaaGreatDoor
def b3M:=@List.any_eq_false
def b2j:=@Array.getElem?_eq_some_iff
def b5o:=@Ne.symm
def b3n:=@List.eq_nil_iff_forall_not_mem
def b2h:=@Array.size_setIfInBounds
def b3I:=@of_decide_eq_false
def b3t:=@Nat.testBit_two_pow_sub_one
def b3Y:=@Classical.not_forall
def b3N:=@Classical.not_imp
def b2v:=@List.mem_append_left
def b5e:=@List.map_congr_left
def b3v:=@List.not_mem_nil
def b4W:=@or_false
def b4B:=@forall_eq_or_imp
def b2f:=@Array.getElem?_eq_none
def b1g:=@Bool.not_eq_true'
def b0Q:=@decide_eq_false_iff_not
def b2K:=@List.mem_filterMap
def b4i:=@List.foldl_nil
def b4v:=@Nat.blt_eq
def b4s:=@Bool.eq_false_iff
def b3x:=@ne_eq
def b4C:=@List.filter_cons
def b1U:=@List.mem_filter
def b2r:=@List.mem_of_mem_erase
def b4X:=@List.perm_cons_erase
def b3y:=@List.Sublist.map
def b4l:=@List.erase_sublist
def b3c:=@List.mem_erase_of_ne
def b3R:=@List.any_eq_true
def b4D:=@Option.isSome_iff_exists
def b4E:=@List.perm_middle
def b1D:=@Bool.not_false
def b3C:=@Bool.true_and
def b5f:=@List.filter_sublist
def b3Z:=@Bool.or_eq_false_iff
def b1J:=@Bool.not_true
def b5b:=@Bool.false_or
def b4j:=@Go.wp_mono
def b3T:=@Array.getElem?_toList
def b4P:=@Go.calls_of_wp
def b2A:=@Array.mapM_eq_mapM_toList
def b4k:=@Go.Sem.run_map
def b2P:=@Bool.and_eq_true_iff
def b1x:=@Nat.not_lt_zero
theorem B8{l:List Oper}{D:Nat->Prop}(hD:∀ (k:Nat),D k->∀ (o:Oper),l[k]?=some o->∀ e∈o.after.toList,Region.binds .any e=true->D e.on):∀ (i:Nat) (o:Oper),l[i]?=some o->(∀ e∈o.after.toList,Region.binds .any e=true->D e.on) ->
  ∀ k,Nat.testBit ((bL l []).getD i 0) k=true->D k:=by
 obtain⟨r,h1,h2,h3⟩:=vK l [];rw[h1];simp only[List.nil_append,List.length_nil,Nat.zero_add] at h3 ⊢;intro i;induction i using Nat.strongRecOn with
 | _ i ih =>
  intro o ho a8K k hk;obtain⟨e,he,hb,h⟩:=h3 i o ho k hk;have hde:=a8K e he hb;rcases h with rfl|⟨bz,h⟩
  .exact hde
  .have Z0:i<l.length:=(b1h.1 ho).1;have hp:l[e.on]?=some (l[e.on]'(by omega)):=b1a (by omega);exact ih e.on bz _ hp (λ e' yw cv=>hD e.on hde _ hp e' yw cv) k h
theorem bQ{l:List Oper}(h:backward l=true):∀ (i:Nat) (o:Oper),l[i]?=some o->∀ e∈o.after.toList,Region.binds .any e=true->e.on<i:=by
 intro i o ho e he hb;unfold backward at h;rw[List.all_eq_true] at h;have hi:i<l.length:=(List.getElem?_eq_some_iff.1 ho).1;have:=h i (by simpa using hi);rw[ho] at this;simp only[List.all_eq_true] at this;have:=this e he;rw[hb] at this;simpa [Nat.blt_eq] using this
theorem Cq:∀ {ds:List (Option Nat)},distinct ds=true->(∀ d∈ds,∃ t,d=some t)/\∀ (j k t:Nat),ds[j]?=some (some t)->ds[k]?=some (some t)->j=k
 | [],_=>⟨by simp,by simp⟩
 | none::_,h=>by cases h
 | some d::r,h=>by
  simp only[distinct] at h;split at h
  .cases h
  .rename_i U0;obtain⟨h1,h2⟩:=Cq h;have iF:∀ x∈r,x≠some d:=by
    intro x hx e;subst e;rw[b3M] at U0;have:=U0 _ hx;simp at this
   refine⟨λ x hx=>?_,λ j k t hj hk=>?_⟩
   .rcases b0X.1 hx with rfl|hx
    .exact⟨d,rfl⟩
    .exact h1 x hx
   .cases j with
    | zero =>
     simp at hj;subst hj;cases k with
     | zero=>rfl
     | succ k=>exact absurd rfl (iF _ (List.mem_of_getElem? (by simpa using hk)))
    | succ j =>
     cases k with
     | zero =>
      simp at hk;subst hk;exact absurd rfl (iF _ (List.mem_of_getElem? (by simpa using hj)))
     | succ k=>rw[h2 j k t (by simpa using hj) (by simpa using hk)]
theorem mem_ready{ops:Array Oper}{listed:Array Bool}{i:Nat}(hs:listed.size=ops.size):i∈Region.ready .any ops listed↔∃ o,ops[i]?=some o/\listed.getD i false=false/\∀ e∈o.after.toList,Region.binds .any e=true->listed.getD e.on false=true:=by
 unfold Region.ready;simp only[List.mem_filter,List.mem_range,Bool.and_eq_true,Bool.not_eq_true'];constructor
 .rintro⟨hi,h1,h2⟩;have ho:ops[i]?=some ops[i]:=b1L hi;rw[ho] at h2;simp only[b3l,b3g] at h2;refine⟨_,ho,?_,λ e he hb=>?_⟩
  .have:i<listed.size:=by omega
   simpa [Array.getD_eq_getD_getElem?,this] using h1
  .rw[Array.all_eq_true_iff_forall_mem] at h2;have:=h2 e (by simpa using he);simpa [hb] using this
 .rintro⟨o,ho,h1,h2⟩;have hi:i<ops.size:=(b2j.1 ho).1;refine⟨hi,?_,?_⟩
  .have:i<listed.size:=by omega
   simpa [Array.getD_eq_getD_getElem?,this] using h1
  .rw[ho];simp only[b3l,b3g];rw[Array.all_eq_true_iff_forall_mem];intro e he;cases hb:Region.binds .any e with
   | false=>simp
   | true=>simp[h2 e (by simpa using he) hb]
theorem qv{listed:Array Bool}{i k:Nat}(hi:i<listed.size):(listed.setIfInBounds i true).getD k false=true↔listed.getD k false=true\/k=i:=by
 rw[b1t,b1t,b4h];by_cases h:i=k
 .subst h;simp[hi]
 .simp[h,b5o h]
section
variable {c:Ctx} {G:Gh} {s:aj} {a:Act} {w w':World}
theorem Ic(hE:bp c.P c.E){ops:Array Oper}{m:Nat}(dJ:backward ops.toList=true)(nU:∀ j o,m<=j->ops.toList[j]?=some o->∀ k,k<j->Nat.testBit ((bL ops.toList []).getD j 0) k=true)
  {Q:aj->Prop} {Q':Exit->Act->World->Prop} (hQ:∀ G s a w,Inv c G s a w->Q s->Q' .normal a w) :
  ∀ (fuel j:Nat) (kn:List (Nat×Bool)) (G:Gh) (s:aj) (a:Act) (w:World) (listed:Array Bool),m<=j->ops.size<=j+fuel->listed.size=ops.size->(∀ k,k<ops.size->(listed.getD k false=true↔k<j)) ->
   Inv c G s a w->eP c.E ops (ops.toList.drop j) kn Q s->wpAny c.P .any ops Q' fuel listed a w:=by
 intro fuel;induction fuel with
 | zero =>
  intro j kn G s a w listed hmj hf cj hl hI hr;have iU:ops.toList.drop j=[]:=b2U (by simp;omega);rw[iU] at hr;refine⟨?_,hQ _ _ _ _ hI hr⟩;apply b3n.2;intro i hi;obtain⟨o,ho,h1,_⟩:=(mem_ready cj).1 hi;have bz:=(b2j.1 ho).1;have:=(hl i bz).2 (by omega);rw[h1] at this;cases this
 | succ fuel ih =>
  intro j kn G s a w listed hmj hf cj hl hI hr;by_cases hj:j<ops.size
  .have ho:ops[j]?=some ops[j]:=b1L hj;have a6r:ops.toList.drop j=ops[j]::ops.toList.drop (j+1):=by
    rw[List.drop_eq_getElem_cons (by simpa using hj)];simp
   rw[a6r] at hr;constructor
   .intro iU;have:j∈Region.ready .any ops listed:=(mem_ready cj).2 ⟨_,ho,by
     cases hb:listed.getD j false with
     | false=>rfl
     | true=>have:=(hl j hj).1 hb;omega,λ e he hb=>by
     have:=bQ dJ j ops[j] (by simp) e he hb;exact (hl e.on (by omega)).2 this⟩
    rw[iU] at this;cases this
   .intro i hi;obtain⟨o,cr,h1,h2⟩:=(mem_ready cj).1 hi;have Fp:=(b2j.1 cr).1;have Tn:j<=i:=by
     rcases b1w i j with h|h
     .have:=(hl i Fp).2 h;rw[h1] at this;cases this
     .exact h
    have rC:i=j:=by
     rcases b1w j i with h|h
     .have fu:=B8 (l:=ops.toList) (D:=λ k=>k<j) (λ k hk o' cH e he hb=>by
       have:=bQ dJ k o' cH e he hb;omega) i o (by simpa using cr) (λ e he hb=>by
        have bz:=bQ dJ i o (by simpa using cr) e he hb;exact (hl e.on (by omega)).1 (h2 e he hb)) j (nU i o (by omega) (by simpa using cr) j h)
      omega
     .omega
    subst rC;have hoe:o=ops[i]:=by rw[ho] at cr;exact (b1Y cr).symm
    have AW:∀ k,k<ops.size->((listed.setIfInBounds i true).getD k false=true↔k<i+1):=λ k hk=>by
     rw[qv (by omega),hl k hk];omega
    unfold wpOp;simp only[ho];have ur:=zz hE hI hr;split at ur
    .rename_i hw;rw[b0T hw];exact .inl (b2n (λ a' w' ⟨G',s',na,h1,h2⟩=>ih (i+1) na G' s' a' w' _ (by omega) (by omega) (by rw[b2h];exact cj) AW h1 h2) (ur Q'))
    .rename_i hw;rw[b0N hw];obtain⟨G',s',na,h1,h2⟩:=ur;exact ih (i+1) na G' s' _ w _ (by omega) (by omega) (by rw[b2h];exact cj) AW h1 h2
  .have iU:ops.toList.drop j=[]:=b2U (by simp;omega);rw[iU] at hr;have fv:Region.ready .any ops listed=[]:=by
    apply b3n.2;intro i hi;obtain⟨o,ho,h1,_⟩:=(mem_ready cj).1 hi;have bz:=(b2j.1 ho).1;have:=(hl i bz).2 (by omega);rw[h1] at this;cases this
   exact⟨λ _=>hQ _ _ _ _ hI hr,λ i hi=>by rw[fv] at hi;cases hi⟩
theorem Fo{l:List Oper}{ops:Array Oper}(hl:ops.toList=l){bits:Nat}{o:Oper}{EY:Bool}(h:Inv c G s a w)(hg:fM l bits s o EY):Region.wanted o (yielded ops a.tmps)=EY:=by
 unfold fM at hg;split at hg
 .rename_i hn;simp[Region.wanted,hn,hg]
 .rename_i g want hn;obtain⟨t,v,h1,_,h3,h4⟩:=hg;have hx:=aY h (.tmp t);rw[h3] at hx;have hs:uh ops g=some t:=by
   unfold uh;rw[<-h1];unfold cq;rw[<-hl];simp
  unfold GV at h4;split at h4
  .have hy:=GS (s:=s) hs hx;simp[Region.wanted,hn,hy,h4]
  .have hy:=CF (s:=s) hs hx;simp[Region.wanted,hn,hy,h4]
  .exact h4.elim
theorem Ww(hE:bp c.P c.E){ops:Array Oper}{m:Nat}{es:List JR}{s0:aj}(dJ:backward ops.toList=true)(hm:m<=ops.size)
  (nU:∀ j o,m<=j->ops.toList[j]?=some o->∀ k,k<j->Nat.testBit ((bL ops.toList []).getD j 0) k=true)
  (nV:∀ j k t,j<m->k<m->cq ops.toList j=some t->cq ops.toList k=some t->j=k)
  (a1E:∀ i o,i<m->ops.toList[i]?=some o->NV c.E ops.toList m ((bL ops.toList []).getD i 0) (dL ops.toList es s0 (List.range i)) o (es.getD i ⟨false, .any,none⟩))
  (GW:∀ i o,i<m->ops.toList[i]?=some o->qL o.dst=true) (py:∀ i o t,i<m->ops.toList[i]?=some o->tN o.op=true->o.dst=some t->s0.ai t=none)
  {Q:aj->Prop} {Q':Exit->Act->World->Prop} (hQ:∀ G s a w,Inv c G s a w->Q s->Q' .normal a w) {kn:List (Nat×Bool)} (O1:∀ G a w,Inv c G (dL ops.toList es s0 (List.range m)) a w->eP c.E ops (ops.toList.drop m) kn Q (dL ops.toList es s0 (List.range m))) :
  ∀ (fuel:Nat) (π:List Nat) (G:Gh) (a:Act) (w:World) (listed:Array Bool),ops.size=π.length+fuel->π.Nodup->(∀ k∈π,k<m)->listed.size=ops.size->(∀ k,k<ops.size->(listed.getD k false=true↔k∈π)) ->
   (∀ k∈π,∀ o,ops.toList[k]?=some o->∀ e∈o.after.toList,Region.binds .any e=true->e.on∈π)->Inv c G (dL ops.toList es s0 π) a w->wpAny c.P .any ops Q' fuel listed a w:=by
 intro fuel;induction fuel with
 | zero =>
  intro π G a w listed hf hn bz cj hl uk hI;have hlen:=th m π hn bz;have gH:∀ k,k<m->k∈π:=λ k hk=>by
   cases hb:decide (k∈π) with
   | true=>exact b1n hb
   | false =>
    have:=th m (k::π) (b1q.2 ⟨b3I hb,hn⟩) (λ j hj=>by
     rcases b0X.1 hj with rfl|hj
     .exact hk
     .exact bz j hj)
    simp at this;omega
  suffices vC:Inv c G (dL ops.toList es s0 (List.range m)) a w from Ic hE dJ nU hQ 0 m kn G (dL ops.toList es s0 (List.range m)) a w listed (b1d _) (by omega) cj (λ k hk=>by rw[hl k hk];exact⟨bz k,gH k⟩) vC (O1 G a w vC)
  have heq:∀ t,(dL ops.toList es s0 π).sl t=(dL ops.toList es s0 (List.range m)).sl t/\(dL ops.toList es s0 π).ai t=(dL ops.toList es s0 (List.range m)).ai t:=λ t =>
   Qi (bits:=2 ^ m - 1) nV bz (by simp) hn List.nodup_range (λ k hk _=>⟨gH k hk,by simpa using hk⟩) t (by
    unfold hidden;rw[List.any_eq_false];intro k hk;simp only[List.mem_range] at hk;split
    .split
     .simp[b3t,hk]
     .simp
    .simp)
  unfold Inv at hI ⊢;rw[I5] at hI ⊢;rw[<-funext λ t=>(heq t).1,<-funext λ t=>(heq t).2];exact hI
 | succ fuel ih =>
  intro π G a w listed hf hn bz cj hl uk hI;by_cases gH:∀ k,k<m->k∈π
  .suffices vC:Inv c G (dL ops.toList es s0 (List.range m)) a w from Ic hE dJ nU hQ (fuel+1) m kn G (dL ops.toList es s0 (List.range m)) a w listed (b1d _) (by have:=th m π hn bz;omega) cj (λ k hk=>by rw[hl k hk];exact⟨bz k,gH k⟩) vC (O1 G a w vC)
   have heq:∀ t,(dL ops.toList es s0 π).sl t=(dL ops.toList es s0 (List.range m)).sl t/\(dL ops.toList es s0 π).ai t=(dL ops.toList es s0 (List.range m)).ai t:=λ t =>
    Qi (bits:=2 ^ m - 1) nV bz (by simp) hn List.nodup_range (λ k hk _=>⟨gH k hk,by simpa using hk⟩) t (by
     unfold hidden;rw[List.any_eq_false];intro k hk;simp only[List.mem_range] at hk;split
     .split
      .simp[b3t,hk]
      .simp
     .simp)
   unfold Inv at hI ⊢;rw[I5] at hI ⊢;rw[<-funext λ t=>(heq t).1,<-funext λ t=>(heq t).2];exact hI
  ·
   have hex:∃ k,k<m/\k∉π/\∀ j,j<k->j∈π:=by
    have:∀ n,(∃ k,k<n/\k<m/\k∉π)->∃ k,k<m/\k∉π/\∀ j,j<k->j∈π:=by
     intro n;induction n with
     | zero=>rintro⟨k,hk,_⟩;omega
     | succ n Xp =>
      rintro⟨k,hk,hkm,kc⟩;by_cases hs:∃ k,k<n/\k<m/\k∉π
      .exact Xp hs
      .refine⟨k,hkm,kc,λ j hj=>?_⟩;cases hb:decide (j∈π) with
       | true=>exact b1n hb
       | false=>exact absurd ⟨j,by omega,by omega,b3I hb⟩ hs
    refine this m ?_;have h1:∃ k,¬ (k<m->k∈π):=b3Y.1 gH;obtain⟨k,hk⟩:=h1;have h2:=b3N.1 hk;exact⟨k,h2.1,h2.1,h2.2⟩
   obtain⟨k0,YF,qp,Va⟩:=hex;have U5:ops[k0]?=some (ops[k0]'(by omega)):=b1L (by omega);constructor
   .intro iU;have:k0∈Region.ready .any ops listed:=(mem_ready cj).2 ⟨_,U5,by
     cases hb:listed.getD k0 false with
     | false=>rfl
     | true=>exact absurd ((hl k0 (by omega)).1 hb) qp,λ e he hb=>by
     have LY:=bQ dJ k0 ops[k0] (by simp) e he hb;exact (hl e.on (by omega)).2 (Va e.on LY)⟩
    rw[iU] at this;cases this
   .intro i hi;obtain⟨o,cr,h1,h2⟩:=(mem_ready cj).1 hi;have Fp:=(Array.getElem?_eq_some_iff.1 cr).1;have eo:ops.toList[i]?=some o:=by simpa using cr
    have sQ:i∉π:=λ hh=>by
     have:=(hl i Fp).2 hh;rw[h1] at this;cases this
    have OZ:∀ e∈o.after.toList,Region.binds .any e=true->e.on∈π:=λ e he hb=>by
     have LY:=bQ dJ i o eo e he hb;exact (hl e.on (by omega)).1 (h2 e he hb)
    have AT:=B8 (l:=ops.toList) (D:=λ k=>k∈π) (λ k hk o' cH e he hb=>uk k hk o' cH e he hb) i o eo OZ;have qo:i<m:=by
     rcases b1w i m with h|h
     .exact h
     .exact absurd (AT k0 (nU i o h eo k0 (by omega))) qp
    have IL:=B8 (l:=ops.toList) (D:=λ k=>k<i) (λ k hk o' cH e he hb=>by
     have:=bQ dJ k o' cH e he hb;omega) i o eo (λ e he hb=>bQ dJ i o eo e he hb)
    have G8:=λ t hh=>Qi (l:=ops.toList) (es:=es) (s0:=s0) (m:=m) (bits:=(bL ops.toList []).getD i 0) (π:=π) (π':=List.range i) nV bz (by intro k hk;simp at hk;omega) hn b3Q
     (λ k hk hb=>⟨AT k hb,by simpa using IL k hb⟩) t hh
    obtain⟨hg,cE,Xk⟩:=a1E i o qo eo;have cG:QN ops.toList m ((bL ops.toList []).getD i 0) (dL ops.toList es s0 (List.range i))=QN ops.toList m ((bL ops.toList []).getD i 0) (dL ops.toList es s0 π):=by
     funext x;cases x with
     | tmp t =>
      simp only[QN];split
      .rfl
      .rename_i hh;exact ((G8 t hh).1).symm
     | _=>rfl
    have bW:Nf ops.toList m ((bL ops.toList []).getD i 0) (dL ops.toList es s0 (List.range i))=Nf ops.toList m ((bL ops.toList []).getD i 0) (dL ops.toList es s0 π):=by
     funext t;simp only[Nf];split
     .rfl
     .rename_i hh;exact ((G8 t hh).2).symm
    have hg':fM ops.toList ((bL ops.toList []).getD i 0) (dL ops.toList es s0 π) o (es.getD i ⟨false, .any,none⟩).EY:=by
     unfold fM at hg ⊢;split
     .rename_i sS;simpa [sS] using hg
     .rename_i g want sS;simp only[sS] at hg;obtain⟨t,b,q1,q2,q3,q4⟩:=hg;refine⟨t,b,q1,q2,?_,q4⟩;have hgm:g<m:=Nat.lt_trans (IL g q2) qo;have hh:hidden ops.toList m ((bL ops.toList []).getD i 0) t=false:=by
       unfold hidden;rw[List.any_eq_false];intro k hk;simp only[List.mem_range] at hk;split
       .rename_i d hd;split
        .rename_i CJ;have CJ:=b0L CJ;subst CJ;have:=nV k g d hk hgm hd q1;subst this;rw[q2];simp
        .simp
       .simp
      exact ((G8 t hh).1).trans q3
    have hw:=Fo (ops:=ops) rfl hI hg';have um:∀ (G':Gh) (a':Act) (w':World),Inv c G' (dL ops.toList es s0 (π++[i])) a' w'->wpAny c.P .any ops Q' fuel (listed.setIfInBounds i true) a' w':=by
     intro G' a' w' vC;refine ih (π++[i]) G' a' w' _ (by simp;omega) ?_ ?_ (by rw[b2h];exact cj) ?_ ?_ vC
     .rw[b1e];exact⟨hn,by simp,λ x hx y hy=>by simp at hy;subst hy;exact λ e=>sQ (e ▸ hx)⟩
     .intro k hk;rcases b0K.1 hk with hk|hk
      .exact bz k hk
      .simp at hk;omega
     .intro k hk;rw[qv (by omega),hl k hk];simp
     .intro k hk o' cH e he hb;rcases b0K.1 hk with hk|hk
      .exact b2v _ (uk k hk o' cH e he hb)
      .simp at hk;subst hk;rw[eo] at cH;simp only[b0J] at cH;subst cH;exact b2v _ (OZ e he hb)
    have Kq:cq ops.toList i=o.dst:=by simp[cq,eo]
    unfold wpOp;simp only[cr];cases IT:(es.getD i ⟨false, .any,none⟩).EY with
    | true =>
     rw[IT] at hw;rw[b0T hw];obtain⟨vc,hq,dY⟩:=cE IT;rw[cG,bW] at hq;refine .inl (b2n ?_ (Hw hE hI (lk':=Nf ops.toList m ((bL ops.toList []).getD i 0) (dL ops.toList es s0 π)) ?_ ?_ hq dY))
     .intro a' w' hd;obtain⟨G',mW⟩:=L5 hI (GW i o qo eo) (λ t ob CJ MI=>by
       rw[MI] at hq;have Tl:=Jo hq;have h0:=py i o t qo eo Tl CJ;have yy:=(fY ops.toList es t π s0 (λ k hk hkd=>by
        have:=nV k i t (bz k hk) qo hkd (by rw[Kq];exact CJ);subst this;exact sQ hk)).2
       rw[yy,h0]) hd
      refine um G' a' w' ?_;rw[tj,Kq];exact mW
     .intro id ob aU;unfold Nf at aU;split at aU
      .cases aU
      .exact aU
     .intro x;cases x with
      | tmp t =>
       simp only[QN];split
       .trivial
       .exact aY hI (.tmp t)
      | const v=>exact aY hI (.const v)
      | global g=>exact aY hI (.global g)
      | func f=>exact aY hI (.func f)
    | false =>
     rw[IT] at hw;rw[hw];obtain⟨hv,MI⟩:=Xk IT;refine um G _ w ?_;rw[tj,Kq,hv,MI,KS];exact Inv.put (v := .dX) hI rfl
theorem Pm{l:List Oper}{K:Prop}(h:Inv c G s a w):tg l s K->K:=by
 induction l with
 | nil=>exact λ h=>h
 | cons o r ih =>
  intro hk;simp only[tg] at hk;split at hk
  .exact ih (D3 (h.aC _) hk)
  .exact ih hk
theorem Oc(hE:bp c.P c.E)(gI:c.P.follows .mixedOrders=true){id:Nat}{ops:Array Oper}{Q:aj->Prop}{Q':Exit->Act->World->Prop}(hQ:∀ G s a w,Inv c G s a w->Q s->Q' .normal a w)
  (h:Inv c G s a w) (hd:Ob c.E ops Q s):(Code.region id ops true).wp c.P Q' a w:=by
 unfold Ob at hd;simp only at hd;split at hd;case h_2=>exact hd.elim
 case h_1 hb =>
  simp only[Bool.and_eq_true] at hb;obtain⟨CG,ui,dJ⟩:=hb;obtain⟨r,ha1,ha2,_⟩:=vK ops.toList [];have OW:(bL ops.toList []).length=ops.size:=by rw[ha1];simpa using ha2
  obtain⟨hm1,_,hm3⟩:=xI (bL ops.toList []) 0 0 (b1d _);simp only[b2l] at hm1 hm3;rw[OW] at hm1;generalize hmd:mq (bL ops.toList []) 0 0=m at *
  have nU:∀ j o,m<=j->ops.toList[j]?=some o->∀ k,k<j->Nat.testBit ((bL ops.toList []).getD j 0) k=true:=by
   intro j o hmj ho k hk;have hj:j<ops.size:=by have:=(List.getElem?_eq_some_iff.1 ho).1;simpa using this
   have hg:(bL ops.toList [])[j]?=some ((bL ops.toList [])[j]'(by omega)):=List.getElem?_eq_getElem (by omega);have:=hm3 j _ hg hmj;rw[List.getD_eq_getElem?_getD,hg,Option.getD_some,show (bL ops.toList [])[j]'(by omega)=2 ^ j - 1 by omega,Nat.testBit_two_pow_sub_one];simpa using hk
  obtain⟨_,Kq⟩:=Cq ui;have nV:∀ j k t,j<m->k<m->cq ops.toList j=some t->cq ops.toList k=some t->j=k:=by
   have get:∀ j t,j<m->cq ops.toList j=some t->((ops.toList.take m).map (·.dst))[j]?=some (some t):=by
    intro j t hj IP;unfold cq at IP;simp only[Option.bind_eq_some_iff] at IP;obtain⟨o,ho,Vb⟩:=IP;rw[List.getElem?_map,List.getElem?_take,if_pos hj,ho];simp[Vb]
   intro j k t hj hk IP hkt;exact Kq j k t (get j t hj IP) (get k t hk hkt)
  obtain⟨es,na,s',oF,hq⟩:=pS hd;have hlen:(ops.toList.take m).length=m:=by simp;omega
  have O9:∀ j o,(ops.toList.take m)[j]?=some o->ops.toList[0+j]?=some o:=λ j o ho=>by
   rw[b2e] at ho;split at ho
   .simpa using ho
   .cases ho
  obtain⟨Z7,ht2⟩:=Sf (ops.toList.take m) 0 es [] _ s' oF O9 rfl rfl;simp only[b1v,b2l,hlen] at Z7 ht2;subst ht2;have hI0:Inv c G ((ops.toList.take m).foldl aj.fresh s) a w.drew:=zS _ (bh.drew h);refine wp_region_any gI ?_;refine Ww hE (m:=m) (es:=es) (s0:=(ops.toList.take m).foldl aj.fresh s) dJ hm1 nU nV ?_ (λ i o qo ho=>b1u.1 CG o (b1y (by rw[b2e,b0T qo];exact ho))) ?_ hQ (kn:=na) (λ G a w hI=>Pm hI hq) ops.size [] G a _ _ (by simp) (by simp) (by simp) (by simp) ?_ (by simp) hI0
  .intro i o qo ho;exact Z7 i o (by rw[b2e,b0T qo];exact ho)
  .intro i o t qo ho hc CJ;exact (xr (ops.toList.take m) s t).2 o (b1y (by rw[b2e,b0T qo];exact ho)) hc CJ
  .intro k hk;simp[hk]
end
section
variable {w w':World}
theorem NU.ctx{c c':Ctx}{S:Nat->Prop}{v:Arg}{x:Value}(h:NU c S w v x)(cf:∀ b,St c S b->St c' S b):NU c' S w v x:=by
 cases v with
 | ref v=>obtain⟨b,o,cs,h1,h2,h3⟩:=h;exact⟨b,o,cs,h1,cf b h2,h3⟩
 | val v=>exact h
 | fn f=>exact h
 | cP v=>exact h
 | own v=>exact h
 | box k=>exact h
theorem C1.ctx{c c':Ctx}(hP:c'.P=c.P){G:Gh}{lk:Nat->Option aB}{v:AV}{x:Value}(h:C1 c G lk w v x)(cf:∀ b,St c G.S b->St c' G.S b):C1 c' G lk w v x:=by
 cases v with
 | cU v=>obtain⟨b,o,cs,h1,h2,h3⟩:=h;exact⟨b,o,cs,h1,cf b h2,h3⟩
 | gR v=>obtain⟨f,ej,l,h1,h2,h3⟩:=h;exact⟨f,ej,l,h1,hP ▸ h2,h3.imp λ _ _ _ q=>q.ctx cf⟩
 | _=>exact h
theorem TR.ctx{c c':Ctx}(hP:c'.P=c.P){G:Gh}{lk:Nat->Option aB}{v:AV}{x:Value}(h:TR c G lk w v x)(cf:∀ b,St c G.S b->St c' G.S b):TR c' G lk w v x:=by
 cases v with
 | aE id=>exact (show C1 c G lk w (.aE id) x from h).ctx hP cf
 | cU v=>exact (show C1 c G lk w (.cU v) x from h).ctx hP cf
 | agg cs=>obtain⟨l,h1,h2⟩:=h;exact⟨l,h1,h2.imp λ _ _ _ q=>q.ctx hP cf⟩
 | aO v=>exact h
 | any=>trivial
 | _=>exact h.elim
theorem CR.ctx{c c':Ctx}(hP:c'.P=c.P){G:Gh}{lk:Nat->Option aB}{v:AV}{x:Value}(h:CR c G lk w v x)(cf:∀ b,St c G.S b->St c' G.S b):CR c' G lk w v x:=by
 cases v with
 | aO v=>exact h
 | agg cs=>obtain⟨l,h1,h2⟩:=h;exact⟨l,h1,h2.imp λ _ _ _ q=>q.ctx hP cf⟩
 | any=>exact (show C1 c G lk w (.any) x from h).ctx hP cf
 | dX=>exact (show C1 c G lk w (.dX) x from h).ctx hP cf
 | nil=>exact (show C1 c G lk w (.nil) x from h).ctx hP cf
 | cU v=>exact (show C1 c G lk w (.cU v) x from h).ctx hP cf
 | ptr i o=>exact (show C1 c G lk w (.ptr i o) x from h).ctx hP cf
 | row i=>exact (show C1 c G lk w (.row i) x from h).ctx hP cf
 | ep i j o=>exact (show C1 c G lk w (.ep i j o) x from h).ctx hP cf
 | gK vs=>exact (show C1 c G lk w (.gK vs) x from h).ctx hP cf
 | fn f=>exact (show C1 c G lk w (.fn f) x from h).ctx hP cf
 | aE i=>exact (show C1 c G lk w (.aE i) x from h).ctx hP cf
 | sub i j o z=>exact (show C1 c G lk w (.sub i j o z) x from h).ctx hP cf
 | eB i j o z=>exact (show C1 c G lk w (.eB i j o z) x from h).ctx hP cf
 | cP f cs=>exact (show C1 c G lk w (.cP f cs) x from h).ctx hP cf
 | gR v=>exact (show C1 c G lk w (.gR v) x from h).ctx hP cf
 | mp i=>exact (show C1 c G lk w (.mp i) x from h).ctx hP cf
theorem VR.ctx{c c':Ctx}(hP:c'.P=c.P){G:Gh}{lk:Nat->Option aB}{v:AV}{x:Value}(h:VR c G lk w v x)(cf:∀ b,St c G.S b->St c' G.S b):VR c' G lk w v x:=by
 cases v with
 | aO v=>exact h
 | agg cs=>obtain⟨l,h1,h2⟩:=h;exact⟨l,h1,h2.imp λ _ _ _ q=>q.ctx hP cf⟩
 | gK vs=>obtain⟨l,h1,h2⟩:=h;exact⟨l,h1,h2.imp λ _ _ _ q=>q.ctx hP cf⟩
 | cP f cs=>obtain⟨l,h1,h2⟩:=h;exact⟨l,h1,h2.imp λ _ _ _ q=>q.ctx hP cf⟩
 | any=>exact (show C1 c G lk w (.any) x from h).ctx hP cf
 | dX=>exact (show C1 c G lk w (.dX) x from h).ctx hP cf
 | nil=>exact (show C1 c G lk w (.nil) x from h).ctx hP cf
 | cU v=>exact (show C1 c G lk w (.cU v) x from h).ctx hP cf
 | ptr i o=>exact (show C1 c G lk w (.ptr i o) x from h).ctx hP cf
 | row i=>exact (show C1 c G lk w (.row i) x from h).ctx hP cf
 | ep i j o=>exact (show C1 c G lk w (.ep i j o) x from h).ctx hP cf
 | fn f=>exact (show C1 c G lk w (.fn f) x from h).ctx hP cf
 | aE i=>exact (show C1 c G lk w (.aE i) x from h).ctx hP cf
 | sub i j o z=>exact (show C1 c G lk w (.sub i j o z) x from h).ctx hP cf
 | eB i j o z=>exact (show C1 c G lk w (.eB i j o z) x from h).ctx hP cf
 | gR v=>exact (show C1 c G lk w (.gR v) x from h).ctx hP cf
 | mp i=>exact (show C1 c G lk w (.mp i) x from h).ctx hP cf
theorem OR.ctx{c c':Ctx}(hP:c'.P=c.P){G:Gh}{lk:Nat->Option aB}{id:Nat}{o:aB}(h:OR c G lk w id o)(cf:∀ b,St c G.S b->St c' G.S b):OR c' G lk w id o:=by
 cases o with
 | box cs=>obtain⟨b,l,t,h1,h2,h3⟩:=h;exact⟨b,l,t,h1,h2,h3.imp λ _ _ _ q=>q.ctx hP cf⟩
 | row e τ xs=>exact h
 | aE τ xs=>exact h
 | map m=>exact h
def Ctx.fz(c:Ctx)(w:World)(S:Nat->Prop)(Z:Nat->Prop):Ctx :=
 { c with w0:=w,X:=λ b=>((c.w0.heap.size<=b/\b<w.heap.size)\/c.X b)/\¬ Z b,S0:=S,Z:=λ b=>Z b\/c.Z b }
theorem Inv.fz{c:Ctx}{G:Gh}{s:aj}{a:Act}(h:Inv c G s a w){Z:Nat->Prop}(hZ:∀ b,Z b->sM c G s.ai w b):Inv (c.fz w G.S Z) G s a w:=by
 have cf:∀ b,St c G.S b->St (c.fz w G.S Z) G.S b:=λ b hb=>by
  rcases hb with hb|⟨h1,h2,h3⟩
  .exact .inl hb
  .refine .inr ⟨b0V h1 h.aM.size,λ q=>q.1.elim (λ q=>by omega) h2,λ q=>q.elim (λ z=>(hZ b z).1.elim (λ q=>by omega) h2) h3⟩
 exact {
  defers:=h.defers,size:=h.size
  aM:=bK.refl _ _
  iQ:=⟨λ b hb=>hb.1.elim (λ q=>q.2) λ q=>b0V (h.iQ.1 b q) h.aM.size,λ g hg=>by
   obtain⟨_,h2,h3,_⟩:=h.iQ.2 g hg;obtain⟨g1,g2⟩:=h.XV.2 g hg;exact⟨g1,λ q=>q.1.elim (λ q=>by omega) h2,h.dE g g1,g2⟩⟩
  eh:=λ b _ _=>b2F
  sX:=λ b hb=>hb
  dE:=h.dE
  aC:=λ i=>(h.aC i).ctx (c:=c) (c':=c.fz w G.S Z) rfl cf
  aJ:=λ id o ho=>(h.aJ id o ho).ctx (c:=c) (c':=c.fz w G.S Z) rfl cf
  place:=λ id o b ho hb=>by
   obtain⟨h1,h2,h3⟩:=h.place id o b ho hb;exact⟨.inr ⟨h1.imp (λ q=>⟨q,h3⟩) (λ q=>q),λ z=>(hZ b z).2.2.2.1 id o ho hb⟩,h2,h3⟩
  apart:=h.apart
  aR:={
   tr:=h.aR.tr,nd:=h.aR.nd,ap:=h.aR.ap
   pl:=λ id τ xs b ht hb=>by
    obtain⟨h1,h2,h3,h4⟩:=h.aR.pl id τ xs b ht hb;exact⟨.inr ⟨h1.imp (λ q=>⟨q,h3⟩) (λ q=>q),λ z=>(hZ b z).2.2.2.2 id τ xs ht hb⟩,h2,h3,h4⟩ }
  root:=h.root,fP:=h.fP,dq:=h.dq,eG:=h.eG }
theorem Inv.a9z{c:Ctx}{G:Gh}{s:aj}{a:Act}{G':Gh}{s':aj}{a':Act}(h:Inv c G s a w){Z:Nat->Prop}(hZ:∀ b,Z b->sM c G s.ai w b)(h':Inv (c.fz w G.S Z) G' s' a' w') :
  Inv c G' s' a' w'/\∀ b,Z b->w'.heap[b]?=w.heap[b]?/\sM c G' s'.ai w' b:=by
 have cf:∀ b,St (c.fz w G.S Z) G'.S b->St c G'.S b:=λ b hb=>by
  rcases hb with hb|⟨h1,h2,h3⟩
  .exact .inl hb
  .have hz:¬ Z b:=λ z=>h3 (.inl z);refine .inr ⟨?_,λ q=>h2 ⟨.inr q,hz⟩,λ q=>h3 (.inr q)⟩;rcases b1w b c.w0.heap.size with q|q
   .exact q
   .exact absurd ⟨.inl ⟨q,h1⟩,hz⟩ h2
 have back:∀ b,(w.heap.size<=b\/(c.fz w G.S Z).X b)->c.w0.heap.size<=b\/c.X b:=λ b hb=>by
  have:=h.aM.size;exact hb.elim (λ q => .inl (by omega)) λ q=>q.1.elim (λ q => .inl q.1) .inr
 refine⟨{
  defers:=h'.defers,size:=h'.size
  aM:=h.aM.trans h'.aM λ i hi hx=>hx.1.elim (λ q=>by omega) (λ q=>q)
  iQ:=h.iQ
  eh:=λ b hb hx=>(h'.eh b (b0V hb h.aM.size) (λ q=>q.1.elim (λ q=>by omega) hx)).trans (h.eh b hb hx)
  sX:=λ b hb=>h'.sX b (h.sX b hb)
  dE:=h'.dE
  aC:=λ i=>(h'.aC i).ctx (c:=c.fz w G.S Z) (c':=c) rfl cf
  aJ:=λ id o ho=>(h'.aJ id o ho).ctx (c:=c.fz w G.S Z) (c':=c) rfl cf
  place:=λ id o b ho hb=>by
   obtain⟨h1,h2,h3⟩:=h'.place id o b ho hb;exact⟨back b h1,h2,h3⟩
  apart:=h'.apart
  aR:={
   tr:=h'.aR.tr,nd:=h'.aR.nd,ap:=h'.aR.ap
   pl:=λ id τ xs b ht hb=>by
    obtain⟨h1,h2,h3,h4⟩:=h'.aR.pl id τ xs b ht hb;exact⟨back b h1,h2,h3,h4⟩ }
  root:=h'.root,fP:=h'.fP,dq:=h'.dq,eG:=h'.eG },λ b z=>?_⟩
 obtain⟨z1,z2,z3,z4,z5⟩:=hZ b z;have vF:¬ (c.fz w G.S Z).X b:=λ q=>q.2 z;have iF:¬ (w.heap.size<=b\/(c.fz w G.S Z).X b):=λ q=>q.elim (λ q=>by omega) vF;exact⟨h'.aM.block b z3 vF,z1,λ q=>z2 ((h'.eh b z3 vF).1 q),b0V z3 h'.aM.size,λ i o cr hb=>iF (h'.place i o b cr hb).1,λ j τ xs hj hb=>iF (h'.aR.pl j τ xs b hj hb).1⟩
end
theorem uK{α β:Type}{f g:α->β}{l:Array α}(h:∀ x∈l.toList,f x=g x):l.map f=l.map g:=by
 apply b4u;rw[b2J,b2J];exact b5e h
theorem execOp_congr{o:Oper}{ρ Yc:Operand->Value}{l:List Operand}(h:TS o.op=some l)(he:∀ x∈l,ρ x=Yc x):execOp ρ o=execOp Yc o:=by
 have parts:∀ ps:Array (Nat×Operand),l=ps.toList.map (·.2)->(ps.map λ (i,x)=>(i,ρ x))=ps.map λ (i,x)=>(i,Yc x):=λ ps hl=>uK λ x hx=>by
  obtain⟨i,x⟩:=x;simp only;rw[he x (by rw[hl];exact b0P.2 ⟨(i,x),hx,rfl⟩)]
 unfold TS at h;split at h;case h_21=>cases h
 case h_20 T x l hh m bl =>
  simp only[b0J] at h;subst h;have key:∀ q:Option Operand,(∀ y∈q.toList,ρ y=Yc y)->q.map ρ=q.map Yc:=λ q hq=>by
   cases q with
   | none=>rfl
   | some y=>rw[b3l,b3l,hq y (by simp)]
  simp only[execOp,bl,he x (by simp),key l (λ y hy=>he y (by simp at hy;simp[hy])),key hh (λ y hy=>he y (by simp at hy;simp[hy])),key m (λ y hy=>he y (by simp at hy;simp[hy]))]
 case h_18 c bl =>
  split at h;case h_3=>cases h
  case h_1 f hc =>
   simp only[b0J] at h;subst h;have ha:c.args.map ρ=c.args.map Yc:=uK λ x hx=>he x (by simp[hx]);simp only[execOp,bl,resolve,hc,ha,he f (by simp)]
  case h_2 b hc =>
   simp only[b0J] at h;subst h;have ha:c.args.map ρ=c.args.map Yc:=uK λ x hx=>he x hx;simp only[execOp,bl,resolve,hc,ha]
 all_goals
  rename_i bl
  simp only[b0J] at h
  first
   | (have:=parts _ h.symm;simp only[execOp,bl,this];done)
   | (subst h;simp only[execOp,bl];done)
   | (subst h;simp only[execOp,bl,b3X];done)
   | (subst h;simp only[b0X,b3v,b4W,b4B,forall_eq] at he;simp only[execOp,bl,he];done)
   | (subst h;simp only[b0X,b3v,b4W,b4B,forall_eq] at he;simp only[execOp,bl,he.1,he.2];done)
   | (subst h;simp only[b0X,b3v,b4W,b4B,forall_eq] at he;simp only[execOp,bl,he.1,he.2.1,he.2.2];done)
theorem Wi{u v:TV}(h:vx u v):u=v:=by
 unfold vx at h;split at h
 .rename_i x hx;have:=TV.aT hx;rw[this,h]
 .exact h.elim
theorem LH{v u:AV}(h:HV v u):v=u:=by
 unfold HV at h;split at h
 .rw[Wi h]
 .rw[Wi h]
 .rw[h]
 .rw[h]
 .rw[h.1,h.2]
 .rfl
 .rfl
 .exact h.elim
theorem Hx{c:Ctx}{G:Gh}{lk:Nat->Option aB}{a:Act}{w:World}{o:Oper}{v:AV}{x:Value}(hr:(execOp a.eval o).run c.P w = .ok (.value x) w)(hv:VR c G lk w v x) :
  ∃ x,(execOp a.eval o).run c.P w = .ok (.value x) w/\VR c G lk w v x:=⟨x,hr,hv⟩
theorem XM{c:Ctx}{G:Gh}{sl:Nat->AV}{n:Nat}{lk:Nat->Option aB}{a:Act}{w:World}(hE:bp c.P c.E)(hI:bh c G sl n lk a w){lk':Nat->Option aB}(bW:∀ id o,lk' id=some o->lk id=some o){ev:Operand->AV}(cG:∀ x,VR c G lk w (ev x) (a.eval x))
  {o:Oper} {vc:Vc} {v:AV} {ob:Option aB} (hq:Hv c.E lk' ev o=some (vc,v,ob)) (dY:vc.ok) (Tt:reads o.op=true) :
  ∃ x,(execOp a.eval o).run c.P w = .ok (.value x) w/\VR c G lk w v x:=by
 unfold Hv at hq;split at hq;case h_1 x bl =>
  simp only[b0J,b0M] at hq;obtain⟨rfl,rfl,rfl⟩:=hq;exact Hx (by simp[execOp,bl]) (cG x)
 case h_8 T ad bl =>
  split at hq
  .rename_i τ r hT;split at hq
   .rename_i u hu;simp only[b0J,b0M] at hq;obtain⟨rfl,rfl,rfl⟩:=hq;obtain⟨b,o',cs,h1,h2,h3,h4⟩:=oo hI.aJ bW hu (cG ad);refine Hx ?_ h4;simp only[execOp,bl,h1,b1j,gY hE hT h2 h3,b1c,b1k]
   .cases hq
  .cases hq
 case h_9 x bl =>
  have key:∀ u,ev x=u->(∃ b o,a.eval x = .pointer (some ⟨b,o,none⟩))->vc = .none->v=u->ob=none->∃ x,(execOp a.eval o).run c.P w = .ok (.value x) w/\VR c G lk w v x:=by
   rintro u hu ⟨b,o',hx⟩ _ rfl rfl;refine Hx (x:=a.eval x) ?_ (hu ▸ cG x);simp only[execOp,bl,hx,b1k]
  have hx:=cG x;split at hq
  .rename_i u hu;simp only[b0J,b0M] at hq;rw[hu] at hx;obtain⟨b,o',cs,h1,_⟩:=hx;exact key _ hu ⟨b,o',h1⟩ hq.1.symm hq.2.1.symm hq.2.2.symm
  .rename_i id off hu;simp only[b0J,b0M] at hq;rw[hu] at hx;obtain⟨b,_,h1,_⟩:=hx;exact key _ hu ⟨b,off,h1⟩ hq.1.symm hq.2.1.symm hq.2.2.symm
  .rename_i id i off hu;simp only[b0J,b0M] at hq;rw[hu] at hx;obtain⟨b,_,_,_,_,_,_,_,_,h1⟩:=hx;exact key _ hu ⟨b,_,h1⟩ hq.1.symm hq.2.1.symm hq.2.2.symm
  .cases hq
 case h_10 T x i bl =>
  split at hq
  .rename_i s r hT;split at hq
   .cases hq
   .rename_i ha;split at hq
    .rename_i u hu;simp only[b0J,b0M] at hq;obtain⟨rfl,rfl,rfl⟩:=hq;obtain⟨b,o',h1,bz,h2⟩:=pT hu (cG x);refine Hx (x := .pointer (some ⟨b,o'+s.dN i,none⟩)) ?_ h2;simp only[execOp,bl,h1,b1j,Ax hE hT ha bz,b1c,b1k]
    .cases hq
  .cases hq
 case h_12 T x ix bl =>
  split at hq
  .rename_i τ r hT;split at hq
   .rename_i k i hi;have gJ:=cG ix;rw[hi] at gJ;obtain⟨gJ,_⟩:=gJ;simp only[b0O,b1i] at gJ;have hx:=cG x;split at hq
    .rename_i u hu;rw[hu] at hx;split at hq
     .rename_i xs kq;have e:=TV.aT kq;subst e;simp only[b0J,b0M] at hq;obtain⟨rfl,rfl,rfl⟩:=hq;obtain⟨h0,h1⟩:=dY;obtain⟨ad,cap,h2,h3,h4,h5⟩:=iX hx;rcases h5 with h5|⟨b,o',h5,h6,h7⟩
      .subst h5;simp only[b1f] at h1;omega
      .subst h5;have bz:i.toNat<xs.length:=by omega
       obtain⟨cs,m1,m2,m3⟩:=df.at_ (n:=τ.size) _ b o' h7 (by
        intro d hd;obtain⟨y,_,rfl⟩:=b0P.1 hd;exact Ty.cz τ y) i.toNat (τ.aK (xs.getD i.toNat τ.zero)) (by simp[List.getD,bz])
       refine Hx (x := .pointer (some ⟨b,o'+i.toNat * τ.size,none⟩)) ?_ ⟨b,_,cs,rfl, .inl h6,m3,m2⟩;simp only[execOp,bl,h2,gJ,b1j,oz hE hT h0 h1,b1c,b1k]
     .cases hq
    .rename_i id hu;rw[hu] at hx;split at hq
     .rename_i e' aW xs hl;split at hq
      .rename_i eF;have eF:=b1n eF;subst eF;simp only[b0J,b0M] at hq;obtain⟨rfl,rfl,rfl⟩:=hq;obtain⟨h0,h1⟩:=dY;obtain⟨h2,_,_⟩:=hx;have mW:=bW _ _ hl;obtain⟨l,m1,_,_⟩:=hI.aJ _ _ mW;have bz:i.toNat<xs.length:=by omega
       rcases m1.2 with ⟨_,hn⟩|⟨g,cap,cur,hv,_⟩
       .omega
       .refine Hx (x := .pointer (some ⟨g,0+i.toNat * aW.size,none⟩)) ?_ ⟨g,_,cap,e',aW,xs,hv,mW,bz,by simp⟩;simp only[execOp,bl,h2,hv,gJ,b1j,oz hE hT h0 h1,b1c,b1k]
      .cases hq
     .cases hq
    .cases hq
   .cases hq
  .rename_i n r hT;split at hq
   .rename_i k i ha hi;have gJ:=cG ix;rw[hi] at gJ;obtain⟨gJ,_⟩:=gJ;simp only[b0O,b1i] at gJ;split at hq
    .rename_i u hu;simp only[b0J,b0M] at hq;obtain⟨rfl,rfl,rfl⟩:=hq;obtain⟨b,o',h1,bz,h2⟩:=pT hu (cG x);refine Hx (x := .pointer (some ⟨b,o'+n.dN i,none⟩)) ?_ h2;simp only[execOp,bl,h1,gJ,b1j,Qc hE hT ha bz,b1c,b1k]
    .cases hq
   .cases hq
  .cases hq
 case h_24=>cases hq
 all_goals
  rename_i bl
  rw[bl] at Tt
  cases Tt
theorem P8{c:Ctx}{G:Gh}{s:aj}{a:Act}{w:World}(hE:bp c.P c.E)(h:Inv c G s a w){o:Oper}{vc:Vc}{v:AV}(hq:rop c.E s o=some (vc,v))(dY:vc.ok) :
  ∃ x,(execOp a.eval o).run c.P w = .ok (.value x) w/\VR c G s.ai w v x:=by
 unfold rop at hq;split at hq
 .rename_i hr;split at hq
  .rename_i vc' v' Ve;simp only[b0J,b0M] at hq;obtain⟨rfl,rfl⟩:=hq;exact XM hE h (λ _ _ h=>h) (aY h) Ve dY hr
  .cases hq
 .cases hq
theorem LI:∀ {v u:List AV},N9 v u->v=u
 | [],[],_=>rfl
 | a::Z9,b::bs,h=>by rw[LH h.1,LI h.2]
 | [],_::_,h=>h.elim
 | _::_,[],h=>h.elim
theorem Wy{v u:AV}(h:SD v u):v=u:=by
 unfold SD at h;split at h
 .rw[LI h]
 .exact LH h
structure lN(D:List Nat)(a b:Act):Prop where
 size:a.tmps.size=b.tmps.size
 da:a.defers=[]
 db:b.defers=[]
 at':∀ t,t∉D->a.tmps.getD t undef=b.tmps.getD t undef
theorem lN.put{D D':List Nat}{a b:Act}(h:lN D a b){d:Option Nat}{x:Value}(hD:∀ t,t∈D->t∉D'->d=some t):lN D' (a.put d x) (b.put d x) where
 size:=by cases d<;>simp[Act.put,h.size]
 da:=by cases d<;>exact h.da
 db:=by cases d<;>exact h.db
 at' t ht:=by
  rw[eb,eb,h.size];by_cases hd:d=some t
  .by_cases hl:t<b.tmps.size
   .rw[b0T ⟨hd,hl⟩,b0T ⟨hd,hl⟩]
   .rw[b0N (λ q=>hl q.2),b0N (λ q=>hl q.2)];have h1:a.tmps.getD t undef=undef:=by rw[b1t,b2f (by rw[h.size];omega)];rfl
    have h2:b.tmps.getD t undef=undef:=by rw[b1t,b2f (by omega)];rfl
    rw[h1,h2]
  .rw[b0N (λ q=>hd q.1),b0N (λ q=>hd q.1)];refine h.at' t λ hm=>hd (hD t hm ht)
theorem lN.exec{D:List Nat}{a b:Act}(h:lN D a b){o:Oper}(hu:fF D o=true):execOp a.eval o=execOp b.eval o:=by
 unfold fF at hu;split at hu
 .rename_i l hl;rw[b1u] at hu;refine execOp_congr hl λ x hx=>?_;have:=hu x hx;cases x with
  | tmp t=>exact h.at' t (by simpa using this)
  | _=>rfl
 .cases hu
theorem lJ{D D':List Nat}{o:Oper}(h:fF D o=true)(hs:∀ t∈D',t∈D):fF D' o=true:=by
 unfold fF at h ⊢;split at h
 .rename_i l hl;rw[b1u] at h ⊢;intro x hx;have:=h x hx;cases x with
  | tmp t =>
   simp only[b1g,List.contains_eq_mem,b0Q] at this ⊢;exact λ q=>this (hs t q)
  | _=>rfl
 .cases h
section
variable {c:Ctx} {G:Gh} {s:aj} {a:Act} {w w':World}
theorem a0s{P:Program}{o:Oper}{b:Act}{N N':Act->World->Prop}{Q:Exit->Act->World->Prop}(he:execOp a.eval o=execOp b.eval o)(hN:∀ x w',N (b.put o.dst x) w'->N' (a.put o.dst x) w')
  (hd:∀ b' w',N b' w'->b'.defers=[]) (h:o.wp P b w N (λ _ _ _=>False)):o.wp P a w N' Q:=by
 unfold Oper.wp at *
 rw[he];generalize (execOp b.eval o).run P w=r at *
 cases r with
 | ok n w' =>
  cases n<;>simp only[Oper.upon] at h ⊢;case value v=>exact hN _ _ h
  case skip=>exact hN _ _ h
  case defer d =>
   have:=hd _ _ h;cases hh:o.dst<;>simp[Act.put,hh] at this
  case enter f args=>exact Calls.mono h (λ e Rl q=>by cases e<;>first|exact hN _ _ q|exact q.elim λ _ q=>q.elim λ _ q=>q.elim|exact q.elim)
  case row r args=>exact Rows.mono h (λ _ _ q=>hN _ _ q)
 | halt x w'=>cases x<;>simp only[Oper.upon] at h ⊢
theorem exists_least{p:Nat->Prop}:∀ n,p n->∃ k,p k/\∀ j,j<k->¬ p j:=by
 intro n;induction n using Nat.strongRecOn with
 | _ n ih =>
  intro h;by_cases hq:∃ j,j<n/\p j
  .obtain⟨j,h1,h2⟩:=hq;exact ih j h1 h2
  .exact⟨n,h,λ j hj hp=>hq ⟨j,hj,hp⟩⟩
theorem lN.eq{a b:Act}(h:lN [] a b):a=b:=by
 obtain⟨ta,da⟩:=a;obtain⟨tb,db⟩:=b;obtain⟨h1,h2,h3,h4⟩:=h;simp only at h1 h2 h3 h4;subst h2 h3;congr 1;apply Array.ext h1;intro i hi hj;have:=h4 i (by simp);simpa [Array.getD_eq_getD_getElem?,Array.getElem?_eq_getElem hi,Array.getElem?_eq_getElem hj] using this
theorem fX{R:List (Nat×Oper)}{t:Nat}:t∈dstsOf R↔∃ r∈R,r.2.dst=some t:=by
 simp[dstsOf,b2K]
theorem a0k(h:Inv c G s a w){d:Nat}{x:Value}(hv:VR c G s.ai w (s.aC.getD d .any) x):Inv c G s (a.put (some d) x) w:=by
 have:=bh.put (d:=some d) h hv;unfold Inv;have e:iY s.aC.length s.sl (some d) (s.aC.getD d .any)=s.sl:=by
  funext i;unfold iY;split
  .rename_i hi;obtain⟨h1,_⟩:=hi;simp only[b0J] at h1;subst h1;rfl
  .rfl
 rwa [e] at this
theorem jB{E:Env}{K:Prop}:∀ {R:List (Nat×Oper)},gB E R s K->(∀ r∈R,∃ d vc,r.2.dst=some d/\rop E s r.2=some (vc,s.aC.getD d .any)/\Vc.ok vc)/\K
 | [],h=>⟨by simp,h⟩
 | r::rs,h=>by
  simp only[gB] at h;split at h
  .rename_i d vc v hd hr;have h1:=Vc.ja h;obtain⟨k1,k2⟩:=jB h1.2.2;refine⟨λ q hq=>?_,k2⟩;rcases b0X.1 hq with rfl|hq
   .exact⟨d,vc,hd,by rw[hr,Wy h1.2.1],h1.1⟩
   .exact k1 q hq
  .exact h.elim
theorem Ma(hE:bp c.P c.E){K:aj->Prop}:∀ {R:List (Nat×Oper)} {s:aj} {a:Act},Inv c G s a w->HW c.E R K s->∃ t b,Inv c G t b w/\lN (dstsOf R) a b/\K t
 | [],s,a,hI,h=>⟨s,a,hI,⟨rfl,hI.defers,hI.defers,λ _ _=>rfl⟩,h⟩
 | r::rs,s,a,hI,h=>by
  simp only[HW] at h;split at h
  .rename_i d vc v hd hr;have h1:=Vc.ja h;obtain⟨x,_,hx⟩:=P8 hE hI hr h1.1;obtain⟨t,b,k1,k2,k3⟩:=Ma hE (Inv.put (d:=some d) hI hx) (D3 hx h1.2);refine⟨t,b,k1,⟨by rw[<-k2.size];simp[Act.put],hI.defers,k2.db,λ i hi=>?_⟩,k3⟩;have dD:d≠i:=λ e=>hi (fX.2 ⟨r,by simp,by rw[hd,e]⟩);rw[<-k2.at' i λ hm=>hi (by
    obtain⟨q,hq,hqd⟩:=fX.1 hm;exact fX.2 ⟨q,by simp[hq],hqd⟩),eb,if_neg (λ q=>dD (by simpa using q.1))]
  .exact h.elim
theorem T5{E:Env}{o:Oper}{K:aj->Prop}{T:TypeId}{d:Nat}{τ:Ty}{r:Nat×Nat}(bl:o.op = .alloc T)(hd:o.dst=some d)(hT:ai E.ty T=some (τ,r)) :
  jN E o K s↔(d<400000/\K (s.lay (some d) (.ptr d 0) (some (.box (zeroCells τ))))):=by
 have h1:jG E s o=[]:=by
  unfold jG;rw[bl];split<;>rfl
 have h2:SI E s o=none:=by
  unfold SI;rw[hd,bl];simp only;split<;>rfl
 have h3:S4 E s o=none:=by unfold S4;rw[bl]
 have h4:TQ E s o=none:=by unfold TQ;rw[bl]
 obtain⟨r1,r2⟩:=r;have h5:Hv E s.ai s.eval o=some (.none, .ptr d 0,some (.box (zeroCells τ))):=by
  unfold Hv;rw[bl];simp only[hd,hT]
 unfold jN;have h6:Ub E s o=none:=by unfold Ub;rw[hd,bl]
 have h7:TM E s o=none:=by unfold TM;rw[bl]
 simp only[h1,b4i,h6,h2,h3,h4,h7,h5,Vc.and,bl,Qz,hd,qL];cases hb:Nat.blt d 400000 with
 | true=>simp only[b4v] at hb;simp[hb]
 | false=>simp only[b4s,b3x,b4v] at hb;simp[hb]
structure PE where
 i:Nat
 d:Nat
 x:Value
 b:Nat
 cs:List AV
noncomputable instance:DecidableEq PE:=λ _ _=>Classical.propDecidable _
structure zt(c:Ctx)(G:Gh)(lk:Nat->Option aB)(X:List (Nat×Oper))(a:Act)(w:World)(p:PE):Prop where
 ex:∃ o T τ r,(p.i,o)∈X/\o.op = .alloc T/\o.dst=some p.d/\ai c.E.ty T=some (τ,r)/\p.cs=zeroCells τ
 val:a.tmps.getD p.d undef=if p.d<a.tmps.size then p.x else undef
 ptr:p.x = .pointer (some ⟨p.b,0,none⟩)
 lt:p.d<400000
 new:∃ l t,w.heap[p.b]?=some (.cells l.toArray t (0,0))/\∀ (c:Ctx) (G:Gh) (lk:Nat->Option aB) (w:World),aN (C1 c G lk w) p.cs l
 fr:sM c G lk w p.b
theorem zt.put{lk:Nat->Option aB}{X:List (Nat×Oper)}{p:PE}(h:zt c G lk X a w p){d:Option Nat}{x:Value}(hd:d≠some p.d):zt c G lk X (a.put d x) w p :=
 ⟨h.ex,by rw[eb,b0N (λ q=>hd q.1),gh];exact h.val,h.ptr,h.lt,h.new,h.fr⟩
theorem Wv(h:Inv c G s a w){p:PE}{X:List (Nat×Oper)}{a2:Act}(hp:zt c G s.ai X a2 w p) :
  Inv c ⟨G.S,λ i=>if i=p.d then p.x else G.η i,G.φ⟩ (s.lay (some p.d) (.ptr p.d 0) (some (.box p.cs))) (a.put (some p.d) p.x) w:=by
 obtain⟨l,t,h1,h2⟩:=hp.new;refine Inv.YN h hp.lt ⟨p.b,l,t,hp.ptr,h1,h2 _ _ _ _⟩ ⟨_,rfl,rfl⟩ λ b hb=>?_;rw[hp.ptr] at hb;simp only[dw,b0J] at hb;subst hb;obtain⟨q1,q2,q3,q4,q5⟩:=hp.fr;exact⟨q1,q2,q3,λ i o' _ ho=>q4 i o' ho,q5⟩
theorem Wu{p:PE}{X:List (Nat×Oper)}{a2:Act}(hp:zt c G s.ai X a2 w p){b:Nat}(hb:sM c G s.ai w b)(dD:b≠p.b) :
  sM c ⟨G.S,λ i=>if i=p.d then p.x else G.η i,G.φ⟩ (s.lay (some p.d) (.ptr p.d 0) (some (.box p.cs))).ai w b:=by
 have bW:(s.lay (some p.d) (.ptr p.d 0) (some (.box p.cs))).ai=λ i=>if i=p.d then some ((aB.box p.cs).kill p.d) else (if i=p.d then none else (s.bU p.d).ai i):=by
  funext i;show ai ((p.d,(aB.box p.cs).kill p.d)::bF p.d (s.bU p.d).aJ) i=_;rw[dx,er];rfl
 obtain⟨q1,q2,q3,q4,q5⟩:=hb;rw[bW];refine⟨q1,q2,q3,λ i o ho e=>?_,λ j τ xs hj lX=>?_⟩
 .by_cases hi:i=p.d
  .simp only[b0T hi] at e;rw[hp.ptr] at e;simp only[dw,b0J] at e;exact dD e.symm
  .simp only[b0N hi] at e ho;rw[dV] at ho;simp only[b1s] at ho;obtain⟨o',cH,_⟩:=ho;exact q4 i o' cH e
 .by_cases hi:j=p.d
  .simp only[b0T hi] at hj;cases hj
  .simp only[b0N hi] at hj;rw[dV] at hj;exact q5 j τ xs (iJ hj) lX
theorem SZ(hE:bp c.P c.E)(h:Inv c G s a w){a2:Act}{o:Oper}{T:TypeId}{d i:Nat}{τ:Ty}{r:Nat×Nat}(bl:o.op = .alloc T)(hd:o.dst=some d)(hT:ai c.E.ty T=some (τ,r))(GW:d<400000){X:List (Nat×Oper)}(hX:(i,o)∈X) :
  ∃ w' p,p.i=i/\p.d=d/\p.b=w.heap.size/\(execOp a2.eval o).run c.P w = .ok (.value p.x) w'/\Inv c G s a w'/\zt c G s.ai X (a2.put (some d) p.x) w' p/\bK (λ _=>False) w w':=by
 obtain⟨r1,r2⟩:=r;obtain⟨inf,z,h1,h2,h3,h4⟩:=(hE.info hT).ex;refine⟨w.alloc (.cells z.cells T),⟨i,d, .pointer (some ⟨w.heap.size,0,none⟩),w.heap.size,zeroCells τ⟩,rfl,rfl,rfl,?_,h.alloc _,?_,fg w _⟩
 .simp[execOp,bl,Instr.alloc,zeroValue,typeInfo,h1,h3,newVar,newRow]
 .refine⟨⟨o,T,τ,_,hX,bl,hd,hT,rfl⟩,?_,rfl,GW,⟨z.cells.toList,T,by simpa using heap_alloc_new w _,λ _ _ _ _=>gM h4⟩,?_⟩
  .simp only[eb,gh,b2o];split
   .rfl
   .rename_i bz;first|rfl|(rw[b1t,b2f (by omega)];rfl)
  .refine⟨.inl h.aM.size,λ q=>by have:=h.dE _ q;simp only at this;omega,by simp,λ j o' hj hb=>by have:=(h.place j o' _ hj hb).2.2;simp only at this;omega,λ j τ xs hj hb=>by have:=(h.aR.pl j τ xs _ hj hb).2.2.1;simp only at this;omega⟩
theorem Re{E:Env}{o:Oper}(h:Jr E o=true):reads o.op=true:=by
 unfold Jr at h;rw[Bool.and_eq_true] at h;exact h.1
theorem Bt{E:Env}{o:Oper}(h:reads o.op=true):dm E o=false:=by
 unfold dm;generalize Dz E o=q;generalize o.op=op at *
 cases op<;>first|rfl|cases h
theorem Fs(bR:List Nat)(x:Nat×Oper):∀ l,(IV bR x l).Perm (x::l)
 | [] => .refl _
 | y::ys=>by
  unfold IV;split
  .exact .refl _
  .exact ((Fs bR x ys).cons y).trans (.swap x y ys)
theorem iV(E:Env)(bR:List Nat):∀ l,(Hl E bR l).Perm l
 | [] => .refl _
 | x::xs=>by
  unfold Hl;split
  .exact (Fs bR x _).trans ((iV E bR xs).cons x)
  .exact (iV E bR xs).cons x
structure XE where
 i:Nat
 d:Nat
 x:Value
 o:Oper
noncomputable instance:DecidableEq XE:=λ _ _=>Classical.propDecidable _
structure Zy(E:Env)(P:Program)(X:List (Nat×Oper))(a:Act)(e:XE):Prop where
 mem:(e.i,e.o)∈X
 dst:e.o.dst=some e.d
 val:a.tmps.getD e.d undef=if e.d<a.tmps.size then e.x else undef
 run:(jg e.o.op=true/\∀ w,(execOp a.eval e.o).run P w = .ok (.value e.x) w)\/((sT e.o.op=true/\Dz E e.o=true)/\∃ p,e.x = .slice p 0 0)
theorem Zy.lz{E:Env}{P:Program}{X:List (Nat×Oper)}{a:Act}{e:XE}(h:Zy E P X a e):dm E e.o=true:=by
 rcases h.run with ⟨q,_⟩|⟨⟨q,q'⟩,_⟩
 .simp[dm,q]
 .simp[dm,q,q']
theorem Je{op:Op}(h:sT op=true):∃ T,op = .buildSlice T 0 #[]:=by
 unfold sT at h;split at h
 .rename_i T len ps;simp only[b0U] at h;have h1:=b0L h.1;have h2:ps = #[]:=b2M (b0L h.2);exact⟨T,by rw[h1,h2]⟩
 .cases h
theorem X9{o:Oper}(h:sT o.op=true)(D:List Nat):fF D o=true:=by
 obtain⟨T,h⟩:=Je h;simp[fF,TS,h]
theorem Zy.put{E:Env}{P:Program}{X:List (Nat×Oper)}{e:XE}(h:Zy E P X a e)(hda:a.defers=[]){d:Option Nat}{x:Value}(hd:d≠some e.d)(hu:∀ t,d=some t->fF [t] e.o=true):Zy E P X (a.put d x) e :=
 ⟨h.mem,h.dst,by rw[eb,b0N (λ q=>hd q.1),gh];exact h.val,h.run.imp (λ hr=>⟨hr.1,λ w=>by
  cases d with
  | none=>exact hr.2 w
  | some t =>
   have hA:lN [t] (a.put (some t) x) a:=⟨gh a _ x,by rw[iS];exact hda,hda,λ u hu=>by rw[eb,if_neg (λ q=>hu (by simpa using q.1.symm))]⟩;rw[hA.exec (hu t rfl)];exact hr.2 w⟩) id⟩
theorem S5(h:Inv c G s a w){o:Oper}{t:Operand}{i:Nat}(bl:o.op = .extract t i)(hc:vU s o.op=true):∃ x,∀ w',(execOp a.eval o).run c.P w' = .ok (.value x) w':=by
 rw[bl] at hc;simp only[vU] at hc;split at hc
 .rename_i vs hv;have hx:=aY h t;rw[hv] at hx;obtain⟨l,h1,h2⟩:=hx;have bz:i<l.length:=by rw[<-h2.length];exact b1N hc
  refine⟨l[i],λ w'=>?_⟩;have h3:l[i]?=some l[i]:=b1a bz;simp[execOp,bl,Instr.extract,h1,h3]
 .cases hc
theorem Qb{E:Env}{o:Oper}{K:aj->Prop}{t:Operand}{i d:Nat}(bl:o.op = .extract t i)(hd:o.dst=some d)(hr:jN E o K s) :
  ∃ vs v,s.eval t = .gK vs/\vs[i]?=some v/\known v (K (s.put (some d) v)):=by
 have h1:jG E s o=[]:=by
  unfold jG;rw[bl];split<;>rfl
 have h2:SI E s o=none:=by
  unfold SI;rw[hd,bl];simp only;split<;>rfl
 have h3:S4 E s o=none:=by unfold S4;rw[bl]
 have h4:TQ E s o=none:=by unfold TQ;rw[bl]
 have h6:Ub E s o=none:=by unfold Ub;rw[hd,bl]
 have h7:TM E s o=none:=by unfold TM;rw[bl]
 unfold jN at hr;split at hr
 .exact hr.elim
 simp only[h1,b4i,h6,h2,h3,h4,h7] at hr;split at hr
 .rename_i vc v ob hq;unfold Hv at hq;rw[bl] at hq;simp only at hq;split at hq
  .rename_i vs hv;split at hq
   .rename_i u hu;simp only[Option.some.injEq,Prod.mk.injEq] at hq;obtain⟨rfl,rfl,rfl⟩:=hq;refine⟨vs,u,hv,hu,?_⟩;simpa [Vc.and,bl,Qz,hd,aj.lay] using hr
   .cases hq
  .cases hq
 .exact hr.elim
theorem S6(h:Inv c G s a w){o:Oper}{t:Operand}{i:Nat}(bl:o.op = .extract t i){vs:List AV}{v:AV}(h1:s.eval t = .gK vs)(h2:vs[i]?=some v){x:Value}(hx:(execOp a.eval o).run c.P w = .ok (.value x) w):VR c G s.ai w v x:=by
 have hv:=aY h t;rw[h1] at hv;obtain⟨l,k1,k2⟩:=hv;obtain⟨y,k3,k4⟩:=k2.at_ i v h2;have:(execOp a.eval o).run c.P w = .ok (.value y) w:=by simp[execOp,bl,Instr.extract,k1,k3]
 rw[this] at hx;simp only[b4L,Next.value.injEq,b1i] at hx;subst hx;cases v<;>first|exact k4|exact k4.elim|trivial
theorem VV{E:Env}{o:Oper}{K:aj->Prop}{d:Nat}(hn:sT o.op=true/\Dz E o=true)(ha:nI E o=true)(hd:o.dst=some d)(hr:jN E o K s) :
  ∃ τ,K (s.put (some d) (.aO ⟨.slice τ,[]⟩)):=by
 obtain⟨hn,fv⟩:=hn;obtain⟨T,bl⟩:=Je hn;unfold nI at ha;simp only[bl,hd,fv] at ha;split at ha
 .rename_i d' τ r Xa hT;simp only[b0J] at Xa;subst Xa;have ha:Nat.blt d 400000=true/\E.ro.contains d=true/\E.own.contains d=false:=by
   have ha:(Nat.blt d 400000&&(E.ro.contains d && !E.own.contains d))=true:=ha;simp only[b0U,b1g] at ha;exact⟨ha.1,ha.2.1,ha.2.2⟩
  obtain⟨h4,hro,dM⟩:=ha;have h1:jG E s o=[]:=by
   unfold jG;simp only[hd,dM,bl];simp
  have h2:SI E s o=none:=by
   unfold SI;simp only[hd,dM]
  have h3:S4 E s o=none:=by unfold S4;rw[bl]
  have h4':TQ E s o=none:=by unfold TQ;rw[bl]
  have h6:Ub E s o=none:=by unfold Ub;rw[hd,bl]
  have h7:TM E s o=none:=by unfold TM;rw[bl]
  obtain⟨r1,r2⟩:=r;have h8:Hv E s.ai s.eval o=some (.none, .aO ⟨.slice τ,[]⟩,none):=by
   unfold Hv;rw[bl];simp only[hd,hT,hro];rfl
  unfold jN at hr;simp only[h1,List.foldl_nil,h6,h2,h3,h4',h7,h8,Vc.and,bl,Qz,hd,qL,h4] at hr;exact⟨τ,hr⟩
 .simp at ha
theorem UG(hE:bp c.P c.E)(h:Inv c G s a w){a2:Act}{o:Oper}{d:Nat}(hn:sT o.op=true/\Dz c.E o=true)(ha:nI c.E o=true)(hd:o.dst=some d) :
  ∃ w' x,(execOp a2.eval o).run c.P w = .ok (.value x) w'/\Inv c G s a w'/\(∃ p,x = .slice p 0 0)/\bK (λ _=>False) w w':=by
 obtain⟨hn,fv⟩:=hn;obtain⟨T,bl⟩:=Je hn;unfold nI at ha;simp only[bl,hd,fv] at ha;split at ha
 .rename_i d' τ r Xa hT;obtain⟨r1,r2⟩:=r;obtain⟨k1,_,inf,z,k2,k3,k4,k5,k6⟩:=hE.slice hT;refine⟨w.alloc (.cells #[] r2), .slice (some ⟨w.heap.size,0,none⟩) 0 0,?_,h.alloc _,⟨_,rfl⟩,fg w _⟩;have hz:(Array.range 0).map (λ _=>(default:Value)) = #[]:=by apply b2M;simp
  simp[execOp,bl,Instr.buildSlice,b1A k1,sizeOf,typeInfo,k2,Instr.fill,newRow,hz]
 .simp at ha
theorem kz(E:Env){X:List (Nat×Oper)}{x:Nat×Oper}{t:Nat}(hx:x∈X)(ha:dm E x.2=true)(hd:x.2.dst=some t):t∈pV E X :=
 b2K.2 ⟨x,hx,by simp[ha,hd]⟩
theorem RZ{E:Env}{bR:List Nat}{n:Nat}{R:List (Nat×Oper)}{K:aj->Prop}{s:aj}:gQ E bR n R [] K s=K s:=by cases n<;>rfl
theorem Ho{E:Env}{bR:List Nat}{n:Nat}{R:List (Nat×Oper)}{x:Nat×Oper}{xs:List (Nat×Oper)}{K:aj->Prop}{s:aj}(h:gQ E bR n R (x::xs) K s) :
  ∃ m,TH E bR (x::xs) s=true/\(((fF (dstsOf (R.filter λ r => !Nat.testBit (bR.getD x.1 0) r.1)++pV E xs) x.2&&xs.all λ y=>dm E y.2||Nat.testBit (bR.getD y.1 0) x.1)=true /\
    jN E x.2 (λ s'=>gB E (R.filter λ r => !Nat.testBit (bR.getD x.1 0) r.1) s' (gQ E bR m (R.filter λ r => !Nat.testBit (bR.getD x.1 0) r.1) xs K s')) s) \/
   (dm E x.2=false/\yf (Ol E bR (x::xs)) (λ y=>match fF (dstsOf (R.filter λ r => !Nat.testBit (bR.getD y.1 0) r.1)++pV E ((x::xs).filter λ z => !Nat.beq z.1 y.1)) y.2 with
      | true=>jN E y.2 (λ s'=>gB E (R.filter λ r => !Nat.testBit (bR.getD y.1 0) r.1) s' (gQ E bR m (R.filter λ r => !Nat.testBit (bR.getD y.1 0) r.1) ((x::xs).filter λ z => !Nat.beq z.1 y.1) K s')) s
      | false=>False) (x::xs))):=by
 cases n with
 | zero=>exact h.elim
 | succ n =>
  simp only[gQ] at h;refine⟨n,?_⟩;split at h
  .rename_i h1;refine⟨h1,?_⟩;split at h
   .rename_i h2;exact .inl ⟨h2,h⟩
   .split at h
    .exact h.elim
    .rename_i h3;exact .inr ⟨h3,h⟩
  .exact h.elim
theorem PO{E:Env}{bR:List Nat}{n:Nat}{R:List (Nat×Oper)}{x:Nat×Oper}{xs:List (Nat×Oper)}{K:aj->Prop}{s:aj}(hz:dm E x.2=true)(h:gQ E bR n R (x::xs) K s) :
  ∃ m,jN E x.2 (λ s'=>gB E (R.filter λ r => !Nat.testBit (bR.getD x.1 0) r.1) s' (gQ E bR m (R.filter λ r => !Nat.testBit (bR.getD x.1 0) r.1) xs K s')) s:=by
 obtain⟨m,_,h|h⟩:=Ho h
 .exact⟨m,h.2⟩
 .rw[hz] at h;cases h.1
theorem zJ{p:Nat×Oper->Bool}{f:Nat×Oper->Prop}:∀ {l:List (Nat×Oper)},yf p f l->∀ y∈l,p y=true->f y
 | [],_,y,hy,_=>by cases hy
 | x::l,h,y,hy,hp=>by
  unfold yf at h;split at h
  .rcases b0X.1 hy with rfl|hy
   .exact h.1
   .exact zJ h.2 y hy hp
  .rename_i h0;rcases b0X.1 hy with rfl|hy
   .rw[hp] at h0;cases h0
   .exact zJ h y hy hp
theorem YR{a b:Nat}:Nat.beq a b=false↔a≠b:=by
 constructor
 .intro h e;subst e;rw[Nat.beq_refl] at h;cases h
 .intro h;cases hb:Nat.beq a b
  .rfl
  .exact absurd (b0L hb) h
theorem OG{x:Nat×Oper}{xs:List (Nat×Oper)}(h:x.1∉xs.map (·.1)):((x::xs).filter λ z => !Nat.beq z.1 x.1)=xs:=by
 rw[b4C,b0N (by simp)];refine List.filter_eq_self.2 λ z hz=>?_;have:z.1≠x.1:=λ e=>h (b0P.2 ⟨z,hz,e⟩);rw[YR.2 this];rfl
theorem RG{i:Nat}{o:Oper}:∀ {X:List (Nat×Oper)},(i,o)∈X->(X.map (·.1)).Nodup->(X.filter λ z => !Nat.beq z.1 i).length+1=X.length
 | [],h,_=>by cases h
 | x::xs,h,hn=>by
  simp only[b1p,b1q] at hn;rcases b0X.1 h with e|h
  .subst e;rw[OG (x:=(i,o)) hn.1];rfl
  .have dD:x.1≠i:=λ e=>hn.1 (b0P.2 ⟨_,h,e.symm⟩);rw[b4C,b0T (by rw[YR.2 dD];rfl),b0W,b0W,RG h hn.2]
theorem Xw{E:Env}{bR:List Nat}{n:Nat}{R X:List (Nat×Oper)}{y:Nat×Oper}{K:aj->Prop}{s:aj}(h:gQ E bR n R X K s)(hy:y∈X)(dh:(X.map (·.1)).Nodup)(hc:Ol E bR X y=true)
  (hh:∀ x xs,X=x::xs->dm E x.2=true->Nat.testBit (bR.getD y.1 0) x.1=false) :
  ∃ m,fF (dstsOf (R.filter λ r => !Nat.testBit (bR.getD y.1 0) r.1)++pV E (X.filter λ z => !Nat.beq z.1 y.1)) y.2=true /\
   jN E y.2 (λ s'=>gB E (R.filter λ r => !Nat.testBit (bR.getD y.1 0) r.1) s' (gQ E bR m (R.filter λ r => !Nat.testBit (bR.getD y.1 0) r.1) (X.filter λ z => !Nat.beq z.1 y.1) K s')) s:=by
 match X,hy,dh,hc,hh,h with
 | x::xs,hy,dh,hc,hh,h =>
  obtain⟨m,_,h|h⟩:=Ho h
  .obtain⟨h1,h2⟩:=h;simp only[b0U,b1u,b2m] at h1;have e:y=x:=by
    rcases b0X.1 hy with e|hy
    .exact e
    .simp only[Ol,b0U,b1g,b1u,b2m] at hc;rcases h1.2 y hy with q|q
     .rw[hc.1] at q;cases q
     .rcases hc.2 x (by simp) with k|k
      .rw[hh x xs rfl k] at q;cases q
      .rw[k] at q;cases q
   subst e;simp only[b1p,b1q] at dh;rw[OG dh.1];exact⟨m,h1.1,h2⟩
  .have:=zJ h.2 y hy hc;split at this
   .rename_i hu;exact⟨m,hu,this⟩
   .exact this.elim
theorem VB(
          hE:bp c.P c.E) {ops:Array Oper} {hi:Nat} {Seg:List (Nat×Oper)} (dJ:backward ops.toList=true) (hhi:hi<=ops.size)
  (nU:∀ j o,hi<=j->ops.toList[j]?=some o->∀ k,k<hi->Nat.testBit ((bL ops.toList []).getD j 0) k=true)
  (a3O:∀ x∈Seg,x.2.guard=none) (NC:∀ x∈Seg,nI c.E x.2=true) (a1F:∀ x∈Seg,jg x.2.op=true->fF (dstsOf (Seg.filter λ y => !Nat.testBit ((bL ops.toList []).getD x.1 0) y.1)++pV c.E Seg) x.2=true) (a1C:∀ x∈Seg,∀ y∈Seg,∀ t,x.2.dst=some t->y.2.dst=some t->x.1=y.1) {K:aj->Prop} {Q':Exit->Act->World->Prop}
  (O1:∀ (fuel:Nat) (G:Gh) (s:aj) (a:Act) (w:World) (listed:Array Bool),ops.size=hi+fuel->listed.size=ops.size->(∀ k,k<ops.size->(listed.getD k false=true↔k<hi))->Inv c G s a w->K s->wpAny c.P .any ops Q' fuel listed a w) :
  ∀ (N fuel:Nat) (Rc X:List (Nat×Oper)) (R:List Nat) (PL:List PE) (SL:List XE) (G:Gh) (t:aj) (a b:Act) (w:World) (listed:Array Bool),fuel+X.length<=N->fuel+PL.length+SL.length=R.length+X.length+(ops.size - hi)->listed.size=ops.size ->
   (∀ i∈R,i<hi/\∃ o,ops.toList[i]?=some o/\(i,o)∈Rc/\(i,o)∈Seg/\lH c.E (bL ops.toList []) Seg (i,o)=true/\fF (dstsOf (Seg.filter λ y => !Nat.testBit ((bL ops.toList []).getD i 0) y.1)) o=true)->(∀ x∈X,x.1<hi/\ops.toList[x.1]?=some x.2/\x∈Seg)->R.Nodup->(X.map (·.1)).Nodup->(∀ i∈R,∀ x∈X,i≠x.1) ->
   (PL.map PE.i++SL.map XE.i).Nodup->(PL.map PE.b).Nodup->(∀ p∈PL,zt c G t.ai X a w p)->(∀ e∈SL,Zy c.E c.P X a e) ->
   (∀ k,k<ops.size->(listed.getD k false=true↔k<hi/\k∉R/\((∀ x∈X,x.1≠k)\/k∈PL.map PE.i++SL.map XE.i)))->(∀ k,k<ops.size->listed.getD k false=true->∀ o,ops.toList[k]?=some o->∀ e∈o.after.toList,Region.binds .any e=true->listed.getD e.on false=true) ->
   Inv c G t b w->lN (R.filterMap (cq ops.toList)++(PL.map PE.d++SL.map XE.d)) a b->(∀ i∈R,∀ o,ops.toList[i]?=some o->∃ d vc,o.dst=some d/\rop c.E t o=some (vc,t.aC.getD d .any)/\Vc.ok vc) ->
   ∀ n,gQ c.E (bL ops.toList []) n Rc X K t->wpAny c.P .any ops Q' fuel listed a w:=by
 intro N;induction N with
 | zero =>
  intro fuel Rc X R PL SL G t a b w listed hN hf cj hR hX Kl IJ IG MB Td lg lW hl vE hI hA hs nn hK;have h2:X=[]:=b1W (by omega);subst h2;have h3:PL=[]:=by
   cases PL with
   | nil=>rfl
   | cons p PL=>obtain⟨o,T,τ,r,hm,_⟩:=(lg p (by simp)).ex;cases hm
  subst h3;have h4:SL=[]:=by
   cases SL with
   | nil=>rfl
   | cons p SL=>have hm:=(lW p (by simp)).mem;cases hm
  subst h4;have h1:R=[]:=List.eq_nil_of_length_eq_zero (by simp at hf;omega);subst h1;have vD:a=b:=lN.eq (by simpa using hA);subst vD;exact O1 fuel G t a w listed (by simp at hf;omega) cj (λ k hk=>by rw[hl k hk];simp) hI (by rw[RZ] at hK;exact hK)
 | succ N ih =>
  intro fuel Rc X R PL SL G t a b w listed hN hf cj hR hX Kl IJ IG MB Td lg lW hl vE hI hA hs nn hK;by_cases GX:R=[]/\X=[]
  .obtain⟨rfl,rfl⟩:=GX;have h3:PL=[]:=by
    cases PL with
    | nil=>rfl
    | cons p PL=>obtain⟨o,T,τ,r,hm,_⟩:=(lg p (by simp)).ex;cases hm
   subst h3;have h4:SL=[]:=by
    cases SL with
    | nil=>rfl
    | cons p SL=>have hm:=(lW p (by simp)).mem;cases hm
   subst h4;have vD:a=b:=lN.eq (by simpa using hA);subst vD;exact O1 fuel G t a w listed (by simp at hf;omega) cj (λ k hk=>by rw[hl k hk];simp) hI (by rw[RZ] at hK;exact hK)
  have W5:∀ i o,i<ops.size->ops.toList[i]?=some o->listed.getD i false=true->∀ k,Nat.testBit ((bL ops.toList []).getD i 0) k=true->listed.getD k false=true/\k<ops.size:=λ i o hi ho hli k hk =>
   B8 (l:=ops.toList) (D:=λ k=>listed.getD k false=true/\k<ops.size) (λ k hk o' cH e he hb=>⟨vE k hk.2 hk.1 o' cH e he hb,by
    have:=bQ dJ k o' cH e he hb;have:=hk.2;omega⟩) i o ho (λ e he hb=>⟨vE i hi hli o ho e he hb,by
    have:=bQ dJ i o ho e he hb;omega⟩) k hk
  by_cases NB:∃ x0 xs p,X=x0::xs/\p∈PL/\p.i=x0.1
  .obtain⟨x0,xs,p,rfl,hp,Z3⟩:=NB;obtain⟨o,T,τ,r,hm,bl,G6,hT,iP⟩:=(lg p hp).ex;have hx0:x0=(p.i,o):=by
    have h1:=(hX x0 (by simp)).2.1;have h2:=(hX _ hm).2.1;rw[<-Z3,h2] at h1;simp only[b0J] at h1;rw[h1,Z3]
   subst hx0;obtain⟨mm,hK⟩:=PO (by simp[dm,mj,bl]) hK;rw[T5 bl G6 hT,<-iP] at hK;obtain⟨k1,k2⟩:=jB hK.2;have OS:=hX _ hm;have hlp:listed.getD p.i false=true:=(hl p.i (by have:=OS.1;simp only at this;omega)).2 ⟨OS.1,λ q=>IG _ q _ hm rfl, .inr (b0K.2 (.inl (b0P.2 ⟨p,hp,rfl⟩)))⟩;have fu:∀ j∈R,∃ o',ops.toList[j]?=some o'/\(j,o')∈Rc.filter λ r => !Nat.testBit ((bL ops.toList []).getD p.i 0) r.1:=λ j hj=>by
    obtain⟨q1,o',q2,q3,_,_⟩:=hR j hj;refine⟨o',q2,b1U.2 ⟨q3,?_⟩⟩;simp only[b1g];cases hb:Nat.testBit ((bL ops.toList []).getD p.i 0) j with
    | false=>rfl
    | true=>exact absurd hj ((hl j (by omega)).1 (W5 p.i o (by have:=OS.1;simp only at this;omega) OS.2.1 hlp j hb).1).2.1
   have a1L:∀ q∈PL.erase p,q∈PL/\q.i≠p.i/\q.b≠p.b:=λ q hq=>by
    have YH:=b2r hq;have Ku:=b4X hp;have n1:=(Ku.map PE.i).nodup_iff.1 (b1e.1 MB).1;have n2:=(Ku.map PE.b).nodup_iff.1 Td;simp only[b1p,b1q] at n1 n2;exact⟨YH,λ e=>n1.1 (b0P.2 ⟨q,hq,e⟩),λ e=>n2.1 (b0P.2 ⟨q,hq,e⟩)⟩
   have a6A:(PL.erase p).length+1=PL.length:=by
    have:=b2O hp;have:=b2V hp;omega
   simp only[b1p,b1q] at IJ;refine ih fuel _ xs R (PL.erase p) SL _ _ a (b.put (some p.d) p.x) w listed (by simp at hN;omega) (by simp at hf;omega) cj (λ j hj=>?_) (λ y hy=>hX y (by simp[hy])) Kl IJ.2 (λ j hj y hy=>IG j hj y (by simp[hy])) ?_ ?_ (λ q hq=>?_) (λ e he=>?_) (λ k hk=>?_) vE (Wv hI (lg p hp)) ?_ (λ j hj o' cH=>?_) _ k2
   .obtain⟨q1,o',q2,q3,q4,q7⟩:=hR j hj;obtain⟨o2,q5,q6⟩:=fu j hj;have e:o'=o2:=by rw[q2] at q5;simpa using q5
    subst e;exact⟨q1,o',q2,q6,q4,q7⟩
   .exact MB.sublist ((b3y _ b4l).append (List.Sublist.refl _))
   .exact Td.sublist (b3y _ b4l)
   .obtain⟨BQ,uq,hq3⟩:=a1L q hq;obtain⟨o2,T2,jr,r2,m1,m2,m3,m4,m5⟩:=(lg q BQ).ex;refine⟨⟨o2,T2,jr,r2,?_,m2,m3,m4,m5⟩,(lg q BQ).val,(lg q BQ).ptr,(lg q BQ).lt,(lg q BQ).new,Wu (lg p hp) (lg q BQ).fr hq3⟩;rcases b0X.1 m1 with e|m1
    .simp only[b0M] at e;exact absurd e.1 uq
    .exact m1
   .have h3:=lW e he;refine⟨?_,h3.dst,h3.val,h3.run⟩;rcases b0X.1 h3.mem with q|q
    .simp only[b0M] at q;rcases h3.run with ⟨q',_⟩|⟨⟨q',_⟩,_⟩<;>(rw[q.2,bl] at q';cases q')
    .exact q
   .rw[hl k hk];constructor
    .rintro⟨q1,q2,q3⟩;refine⟨q1,q2,?_⟩;by_cases kc:k=p.i
     .subst kc;exact .inl λ y hy e=>IJ.1 (b0P.2 ⟨y,hy,e⟩)
     .rcases q3 with q3|q3
      .exact .inl λ y hy=>q3 y (by simp[hy])
      .rcases b0K.1 q3 with q3|q3
       .obtain⟨q,hq,rfl⟩:=b0P.1 q3;exact .inr (b0K.2 (.inl (b0P.2 ⟨q,(b3c (λ e=>kc (by rw[e]))).2 hq,rfl⟩)))
       .exact .inr (b0K.2 (.inr q3))
    .rintro⟨q1,q2,q3⟩;refine⟨q1,q2,?_⟩;by_cases kc:k=p.i
     .subst kc;exact .inr (b0K.2 (.inl (b0P.2 ⟨p,hp,rfl⟩)))
     .rcases q3 with q3|q3
      .refine .inl λ y hy=>?_;rcases b0X.1 hy with rfl|hy
       .exact λ e=>kc e.symm
       .exact q3 y hy
      .rcases b0K.1 q3 with q3|q3
       .obtain⟨q,hq,rfl⟩:=b0P.1 q3;exact .inr (b0K.2 (.inl (b0P.2 ⟨q,b2r hq,rfl⟩)))
       .exact .inr (b0K.2 (.inr q3))
   .refine⟨by rw[gh];exact hA.size,hA.da,by rw[iS];exact hA.db,λ u hu=>?_⟩;by_cases Xm:u=p.d
    .subst Xm;rw[(lg p hp).val,eb,<-hA.size];by_cases bz:p.d<a.tmps.size
     .rw[b0T bz,b0T ⟨rfl,bz⟩]
     .rw[b0N bz,b0N (λ q=>bz q.2),b1t,b2f (by rw[<-hA.size];omega)];rfl
    .rw[eb,if_neg (λ q=>Xm (by simpa using q.1.symm))];refine hA.at' u λ hm=>hu ?_;rcases List.mem_append.1 hm with hm|hm
     .exact b0K.2 (.inl hm)
     .rcases b0K.1 hm with hm|hm
      .obtain⟨q,hq,rfl⟩:=b0P.1 hm;exact b0K.2 (.inr (b0K.2 (.inl (b0P.2 ⟨q,(b3c (λ e=>Xm (by rw[e]))).2 hq,rfl⟩))))
      .exact b0K.2 (.inr (b0K.2 (.inr hm)))
   .obtain⟨o2,q5,q6⟩:=fu j hj;rw[q5] at cH;simp only[b0J] at cH;subst cH;exact k1 (j,o2) q6
  by_cases IK:∃ x0 xs e,X=x0::xs/\e∈SL/\e.i=x0.1
  .obtain⟨x0,xs,e,rfl,he,hei⟩:=IK;have Tc:=lW e he;have hx0:x0=(e.i,e.o):=by
    have h1:=(hX x0 (by simp)).2.1;have h2:=(hX _ Tc.mem).2.1;rw[<-hei,h2] at h1;simp only[b0J] at h1;rw[h1,hei]
   subst hx0;obtain⟨mm,hK⟩:=PO Tc.lz hK;have OS:=hX _ Tc.mem;have hlp:listed.getD e.i false=true:=(hl e.i (by have:=OS.1;simp only at this;omega)).2 ⟨OS.1,λ q=>IG _ q _ Tc.mem rfl, .inr (b0K.2 (.inr (b0P.2 ⟨e,he,rfl⟩)))⟩;have a1A:=W5 e.i e.o (by have:=OS.1;simp only at this;omega) OS.2.1 hlp;have fu:∀ j∈R,∃ o',ops.toList[j]?=some o'/\(j,o')∈Rc.filter λ r => !Nat.testBit ((bL ops.toList []).getD e.i 0) r.1:=λ j hj=>by
    obtain⟨q1,o',q2,q3,_,_⟩:=hR j hj;refine⟨o',q2,b1U.2 ⟨q3,?_⟩⟩;simp only[b1g];cases hb:Nat.testBit ((bL ops.toList []).getD e.i 0) j with
    | false=>rfl
    | true=>exact absurd hj ((hl j (by omega)).1 (a1A j hb).1).2.1
   have hDu:∀ u,u∈R.filterMap (cq ops.toList)++(PL.map PE.d++SL.map XE.d)->u∈dstsOf (Seg.filter λ y => !Nat.testBit ((bL ops.toList []).getD e.i 0) y.1)++pV c.E Seg:=λ u hu=>by
    rcases b0K.1 hu with hu|hu
    .obtain⟨j,hj,BP⟩:=List.mem_filterMap.1 hu;obtain⟨q1,o',q2,_,q3,_⟩:=hR j hj;refine List.mem_append.2 (.inl (fX.2 ⟨(j,o'),List.mem_filter.2 ⟨q3,?_⟩,by simpa [cq,q2] using BP⟩));simp only[Bool.not_eq_true'];cases hb:Nat.testBit ((bL ops.toList []).getD e.i 0) j with
     | false=>rfl
     | true=>exact absurd hj ((hl j (by omega)).1 (a1A j hb).1).2.1
    .rcases b0K.1 hu with hu|hu
     .obtain⟨p,hp,rfl⟩:=b0P.1 hu;obtain⟨o2,T,τ,r,hm,O6,G6,_⟩:=(lg p hp).ex;exact b0K.2 (.inr (kz c.E (hX _ hm).2.2 (by simp[dm,mj,O6]) G6))
     .obtain⟨q,hq,rfl⟩:=b0P.1 hu;exact b0K.2 (.inr (kz c.E (hX _ (lW q hq).mem).2.2 (lW q hq).lz (lW q hq).dst))
   obtain⟨v,Pd,hK⟩:∃ v,VR c G t.ai w v e.x/\gB c.E (Rc.filter λ r => !Nat.testBit ((bL ops.toList []).getD e.i 0) r.1) (t.put (some e.d) v) (gQ c.E (bL ops.toList []) mm (Rc.filter λ r => !Nat.testBit ((bL ops.toList []).getD e.i 0) r.1) xs K (t.put (some e.d) v)):=by
    rcases Tc.run with ⟨hx,hr⟩|⟨hx,p,hp⟩
    .obtain⟨tt,ix,bl⟩:∃ tt ix,e.o.op = .extract tt ix:=by
      have:=hx;unfold jg at this;split at this
      .exact⟨_,_,by assumption⟩
      .cases this
     obtain⟨vs,v,hv1,hv2,hK⟩:=Qb bl Tc.dst hK;have cE:=hr w;rw[hA.exec (lJ (a1F _ OS.2.2 hx) hDu)] at cE;have Pd:=S6 hI bl hv1 hv2 cE;exact⟨v,Pd,D3 Pd hK⟩
    .obtain⟨τ,hK⟩:=VV hx (NC _ OS.2.2) Tc.dst hK;refine⟨_,?_,hK⟩;rw[hp];exact⟨p,0,rfl,b1d _,by simp[maxLen],by simp, .inl rfl⟩
   obtain⟨k1,k2⟩:=jB hK;have a1L:∀ q∈SL.erase e,q∈SL/\q.i≠e.i:=λ q hq=>by
    have YH:=b2r hq;have Ku:=b4X he;have n1:=(Ku.map XE.i).nodup_iff.1 (b1e.1 MB).2.1;simp only[b1p,b1q] at n1;exact⟨YH,λ q'=>n1.1 (b0P.2 ⟨q,hq,q'⟩)⟩
   have a6A:(SL.erase e).length+1=SL.length:=by
    have:=b2O he;have:=b2V he;omega
   simp only[b1p,b1q] at IJ;refine ih fuel _ xs R PL (SL.erase e) _ _ a (b.put (some e.d) e.x) w listed (by simp at hN;omega) (by simp at hf;omega) cj (λ j hj=>?_) (λ y hy=>hX y (by simp[hy])) Kl IJ.2 (λ j hj y hy=>IG j hj y (by simp[hy])) ?_ Td (λ q hq=>?_) (λ q hq=>?_) (λ k hk=>?_) vE (Inv.put (d:=some e.d) hI Pd) ?_ (λ j hj o' cH=>?_) _ k2
   .obtain⟨q1,o',q2,q3,q4,q7⟩:=hR j hj;obtain⟨o2,q5,q6⟩:=fu j hj;have e:o'=o2:=by rw[q2] at q5;simpa using q5
    subst e;exact⟨q1,o',q2,q6,q4,q7⟩
   .exact MB.sublist ((List.Sublist.refl _).append (b3y _ b4l))
   .obtain⟨o2,T2,jr,r2,m1,m2,m3,m4,m5⟩:=(lg q hq).ex;refine⟨⟨o2,T2,jr,r2,?_,m2,m3,m4,m5⟩,(lg q hq).val,(lg q hq).ptr,(lg q hq).lt,(lg q hq).new,(lg q hq).fr⟩;rcases b0X.1 m1 with e'|m1
    .simp only[b0M] at e';rcases Tc.run with ⟨q',_⟩|⟨⟨q',_⟩,_⟩<;>(rw[<-e'.2,m2] at q';cases q')
    .exact m1
   .obtain⟨BQ,uq⟩:=a1L q hq;have h3:=lW q BQ;refine⟨?_,h3.dst,h3.val,h3.run⟩;rcases b0X.1 h3.mem with e'|e'
    .simp only[b0M] at e';exact absurd e'.1 uq
    .exact e'
   .rw[hl k hk];constructor
    .rintro⟨q1,q2,q3⟩;refine⟨q1,q2,?_⟩;by_cases kc:k=e.i
     .subst kc;exact .inl λ y hy e=>IJ.1 (b0P.2 ⟨y,hy,e⟩)
     .rcases q3 with q3|q3
      .exact .inl λ y hy=>q3 y (by simp[hy])
      .rcases b0K.1 q3 with q3|q3
       .exact .inr (b0K.2 (.inl q3))
       .obtain⟨q,hq,rfl⟩:=b0P.1 q3;exact .inr (b0K.2 (.inr (b0P.2 ⟨q,(b3c (λ e=>kc (by rw[e]))).2 hq,rfl⟩)))
    .rintro⟨q1,q2,q3⟩;refine⟨q1,q2,?_⟩;by_cases kc:k=e.i
     .subst kc;exact .inr (b0K.2 (.inr (b0P.2 ⟨e,he,rfl⟩)))
     .rcases q3 with q3|q3
      .refine .inl λ y hy=>?_;rcases b0X.1 hy with rfl|hy
       .exact λ e=>kc e.symm
       .exact q3 y hy
      .rcases b0K.1 q3 with q3|q3
       .exact .inr (b0K.2 (.inl q3))
       .obtain⟨q,hq,rfl⟩:=b0P.1 q3;exact .inr (b0K.2 (.inr (b0P.2 ⟨q,b2r hq,rfl⟩)))
   .refine⟨by rw[gh];exact hA.size,hA.da,by rw[iS];exact hA.db,λ u hu=>?_⟩;by_cases Xm:u=e.d
    .subst Xm;rw[Tc.val,eb,<-hA.size];by_cases bz:e.d<a.tmps.size
     .rw[b0T bz,b0T ⟨rfl,bz⟩]
     .rw[b0N bz,b0N (λ q=>bz q.2),b1t,b2f (by rw[<-hA.size];omega)];rfl
    .rw[eb,if_neg (λ q=>Xm (by simpa using q.1.symm))];refine hA.at' u λ hm=>hu ?_;rcases List.mem_append.1 hm with hm|hm
     .exact b0K.2 (.inl hm)
     .rcases b0K.1 hm with hm|hm
      .exact b0K.2 (.inr (b0K.2 (.inl hm)))
      .obtain⟨q,hq,rfl⟩:=b0P.1 hm;exact b0K.2 (.inr (b0K.2 (.inr (b0P.2 ⟨q,(b3c (λ e=>Xm (by rw[e]))).2 hq,rfl⟩))))
   .obtain⟨o2,q5,q6⟩:=fu j hj;rw[q5] at cH;simp only[b0J] at cH;subst cH;exact k1 (j,o2) q6
  have a1z:∀ p∈PL,∃ x∈X,x.1=p.i:=λ p hp=>by
   obtain⟨o,T,τ,r,hm,_⟩:=(lg p hp).ex;exact⟨_,hm,rfl⟩
  have UY:∀ p∈SL,∃ x∈X,x.1=p.i:=λ p hp=>⟨_,(lW p hp).mem,rfl⟩;have hun:∃ k,k<hi/\¬ (listed.getD k false=true):=by
   rcases R with _|⟨i,R⟩
   .rcases X with _|⟨x,X⟩
    .exact absurd ⟨rfl,rfl⟩ GX
    .have:=(hX x (by simp)).1;refine⟨x.1,this,λ hh=>((hl x.1 (by omega)).1 hh).2.2.elim (λ q=>q x (by simp) rfl) λ q=>?_⟩;rcases b0K.1 q with q|q
     .obtain⟨p,hp,e⟩:=b0P.1 q;exact NB ⟨x,X,p,rfl,hp,e⟩
     .obtain⟨p,hp,e⟩:=b0P.1 q;exact IK ⟨x,X,p,rfl,hp,e⟩
   .have:=(hR i (by simp)).1;exact⟨i,this,λ hh=>((hl i (by omega)).1 hh).2.1 (by simp)⟩
  have CO:PL.length+SL.length<R.length+X.length:=by
   rcases R with _|⟨i,R⟩
   .rcases X with _|⟨x,X⟩
    .exact absurd ⟨rfl,rfl⟩ GX
    .have wa:(PL.map PE.i++SL.map XE.i) ⊆ X.map (·.1):=λ k hk=>by
      rcases b0K.1 hk with hk|hk
      .obtain⟨p,hp,rfl⟩:=b0P.1 hk;obtain⟨y,hy,e⟩:=a1z p hp;rcases b0X.1 hy with rfl|hy
       .exact absurd ⟨_,_,p,rfl,hp,e.symm⟩ NB
       .exact b0P.2 ⟨y,hy,e⟩
      .obtain⟨p,hp,rfl⟩:=b0P.1 hk;obtain⟨y,hy,e⟩:=UY p hp;rcases b0X.1 hy with rfl|hy
       .exact absurd ⟨_,_,p,rfl,hp,e.symm⟩ IK
       .exact b0P.2 ⟨y,hy,e⟩
     have:=b3m MB wa;simp at this ⊢;omega
   .have wa:(PL.map PE.i++SL.map XE.i) ⊆ X.map (·.1):=λ k hk=>by
     rcases b0K.1 hk with hk|hk
     .obtain⟨p,hp,rfl⟩:=b0P.1 hk;obtain⟨y,hy,e⟩:=a1z p hp;exact b0P.2 ⟨y,hy,e⟩
     .obtain⟨p,hp,rfl⟩:=b0P.1 hk;obtain⟨y,hy,e⟩:=UY p hp;exact b0P.2 ⟨y,hy,e⟩
    have:=b3m MB wa;simp at this ⊢;omega
  obtain⟨fuel,rfl⟩:∃ f,fuel=f+1:=⟨fuel - 1,by omega⟩;obtain⟨k1,sR⟩:=hun;obtain⟨k0,⟨YF,qp⟩,Va⟩:=exists_least (p:=λ k=>k<hi/\¬ (listed.getD k false=true)) k1 sR;have U5:ops[k0]?=some (ops[k0]'(by omega)):=b1L (by omega);constructor
  .intro iU;have:k0∈Region.ready .any ops listed:=(mem_ready cj).2 ⟨_,U5,by
    cases hb:listed.getD k0 false with
    | false=>rfl
    | true=>exact absurd hb qp,λ e he hb=>by
    have bz:=bQ dJ k0 ops[k0] (by simp) e he hb;exact b3F λ hh=>Va e.on bz ⟨by omega,hh⟩⟩
   rw[iU] at this;cases this
  .intro i jw;obtain⟨o,cr,h1,h2⟩:=(mem_ready cj).1 jw;have Fp:=(Array.getElem?_eq_some_iff.1 cr).1;have eo:ops.toList[i]?=some o:=by simpa using cr
   have AT:=B8 (l:=ops.toList) (D:=λ k=>listed.getD k false=true/\k<ops.size) (λ k hk o' cH e he hb=>⟨vE k hk.2 hk.1 o' cH e he hb,by
    have:=bQ dJ k o' cH e he hb;have:=hk.2;omega⟩) i o eo (λ e he hb=>⟨h2 e he hb,by
    have:=bQ dJ i o eo e he hb;omega⟩)
   have qo:i<hi:=by
    rcases b1w i hi with h|h
    .exact h
    .exact absurd (AT k0 (nU i o h eo k0 YF)).1 qp
   have AW:∀ k,(listed.setIfInBounds i true).getD k false=true↔listed.getD k false=true\/k=i:=λ k=>qv (by omega);have U2:∀ k,k<ops.size->(listed.setIfInBounds i true).getD k false=true->∀ o,ops.toList[k]?=some o->∀ e∈o.after.toList,Region.binds .any e=true->(listed.setIfInBounds i true).getD e.on false=true:=by
    intro k hk Kr o' cH e he hb;rw[AW] at Kr ⊢;rcases Kr with Kr|rfl
    .exact .inl (vE k hk Kr o' cH e he hb)
    .rw[eo] at cH;simp only[b0J] at cH;subst cH;exact .inl (h2 e he hb)
   have a1N:¬ (listed.getD i false=true):=by rw[h1];simp
   have YK:=a1N;rw[hl i Fp] at YK;have hXi:i∉R->∃ x∈X,x.1=i:=λ GY=>b3F λ hh=>YK ⟨qo,GY, .inl λ x hx e=>hh ⟨x,hx,e⟩⟩;have RN:∀ p∈PL,p.i≠i:=λ p hp e=>by
    obtain⟨x,hx,hxe⟩:=a1z p hp;exact YK ⟨qo,λ q=>IG i q x hx (by rw[hxe,e]), .inr (b0K.2 (.inl (b0P.2 ⟨p,hp,e⟩)))⟩
   have RO:∀ p∈SL,p.i≠i:=λ p hp e=>by
    obtain⟨x,hx,hxe⟩:=UY p hp;exact YK ⟨qo,λ q=>IG i q x hx (by rw[hxe,e]), .inr (b0K.2 (.inr (b0P.2 ⟨p,hp,e⟩)))⟩
   have IH:(i,o)∈Seg:=by
    by_cases GY:i∈R
    .obtain⟨_,o',cH,_,hm,_⟩:=hR i GY;rw[eo] at cH;simp only[b0J] at cH;subst cH;exact hm
    .obtain⟨x,hx,EO⟩:=hXi GY;have:=(hX x hx).2.1;rw[EO,eo] at this;simp only[b0J] at this;have e:x=(i,o):=by rw[<-EO,this]
     rw[<-e];exact (hX x hx).2.2
   have hg:o.guard=none:=a3O _ IH;have hPd:∀ p∈PL,o.dst≠some p.d:=λ p hp e=>by
    obtain⟨o2,T,τ,r,hm,bl,G6,_⟩:=(lg p hp).ex;have hsg:=(hX _ hm).2.2;exact RN p hp (a1C _ hsg _ IH p.d G6 e)
   have hSd:∀ p∈SL,o.dst≠some p.d:=λ p hp e=>RO p hp (a1C _ (hX _ (lW p hp).mem).2.2 _ IH p.d (lW p hp).dst e);have hSu:∀ p∈SL,∀ t,o.dst=some t->fF [t] p.o=true:=λ p hp t ht=>by
    have hm:=hX _ (lW p hp).mem;have hlp:listed.getD p.i false=true:=(hl p.i (by have:=hm.1;simp only at this;omega)).2 ⟨hm.1,λ q=>IG _ q _ (lW p hp).mem rfl, .inr (b0K.2 (.inr (b0P.2 ⟨p,hp,rfl⟩)))⟩;rcases (lW p hp).run with ⟨hex,_⟩|⟨zZ,_⟩;rotate_left
    .exact X9 zZ.1 _
    refine lJ (a1F _ hm.2.2 hex) λ u hu=>?_;simp only[b0Z] at hu;subst hu;refine b0K.2 (.inl (fX.2 ⟨_,b1U.2 ⟨IH,?_⟩,ht⟩));simp only[b1g];cases hb:Nat.testBit ((bL ops.toList []).getD p.i 0) i with
    | false=>rfl
    | true=>exact absurd (W5 p.i p.o (by have:=hm.1;simp only at this;omega) hm.2.1 hlp i hb).1 a1N
   have hw:Region.wanted o (yielded ops a.tmps)=true:=by simp[Region.wanted,hg]
   unfold wpOp;simp only[cr];rw[if_pos hw];refine .inl ?_;by_cases GY:i∈R
   ·
    obtain⟨_,o',cH,YH,_,fv,hu⟩:=hR i GY;rw[eo] at cH;simp only[b0J] at cH;subst cH;obtain⟨d,vc,hd,hr,dY⟩:=hs i GY o eo;obtain⟨x,hx,hvx⟩:=P8 hE hI hr dY;have hu:fF (R.filterMap (cq ops.toList)++(PL.map PE.d++SL.map XE.d)) o=true:=lJ hu λ t ht=>by
     rcases b0K.1 ht with ht|ht
     .obtain⟨j,hj,BP⟩:=List.mem_filterMap.1 ht;obtain⟨q1,o',q2,_,q3,_⟩:=hR j hj;refine fX.2 ⟨(j,o'),List.mem_filter.2 ⟨q3,?_⟩,by simpa [cq,q2] using BP⟩;simp only[Bool.not_eq_true'];cases hb:Nat.testBit ((bL ops.toList []).getD i 0) j with
      | false=>rfl
      | true=>exact absurd hj ((hl j (by omega)).1 (AT j hb).1).2.1
     .obtain⟨zi,zo,hm,U9,G6⟩:∃ zi zo,(zi,zo)∈X/\dm c.E zo=true/\zo.dst=some t:=by
       rcases b0K.1 ht with ht|ht
       .obtain⟨p,hp,rfl⟩:=b0P.1 ht;obtain⟨o2,T,τ,r,hm,bl,G6,_⟩:=(lg p hp).ex;exact⟨_,o2,hm,by simp[dm,mj,bl],G6⟩
       .obtain⟨p,hp,rfl⟩:=b0P.1 ht;exact⟨_,p.o,(lW p hp).mem,(lW p hp).lz,(lW p hp).dst⟩
      have hsg:=(hX _ hm).2.2;by_cases hb:Nat.testBit ((bL ops.toList []).getD i 0) zi=true
      .simp only[lH,b0U,b1u,b2m,b1g] at fv;rcases fv.2 _ hsg with q|q
       .rw[Bt (Re q)] at U9;cases U9
       .rw[hb] at q;cases q
      .exact fX.2 ⟨_,List.mem_filter.2 ⟨hsg,by simpa using hb⟩,G6⟩
    unfold Oper.wp;rw[hA.exec hu,hx];show wpAny c.P .any ops Q' fuel _ (a.put o.dst x) w;have QT:(R.erase i).length+1=R.length:=by
     have:=b2O GY;have:=b2V GY;omega
    have wa:∀ t,t∈(R.erase i).filterMap (cq ops.toList)->t∈R.filterMap (cq ops.toList):=λ t ht=>by
     obtain⟨q,hq,hqd⟩:=b2K.1 ht;exact b2K.2 ⟨q,b2r hq,hqd⟩
    refine ih fuel Rc X (R.erase i) PL SL G t (a.put o.dst x) (b.put o.dst x) w _ (by omega) (by omega) (by rw[b2h];exact cj) (λ j hj=>?_) hX (Kl.erase i) IJ (λ j hj=>IG j (b2r hj)) MB Td (λ p hp=>(lg p hp).put (hPd p hp)) (λ e he=>(lW e he).put hA.da (hSd e he) (hSu e he)) (λ k hk=>?_) U2 (by rw[hd];exact a0k hI hvx) (hA.put λ q hq Ve=>?_) (λ j hj=>hs j (b2r hj)) _ hK
    .exact hR j (b2r hj)
    .rw[AW,hl k hk,Kl.mem_erase_iff];constructor
     .rintro (⟨q1,q2,q3⟩|rfl)
      .exact⟨q1,λ q=>q2 q.2,q3⟩
      .exact⟨qo,λ q=>q.1 rfl, .inl λ x hx=>(IG _ GY x hx).symm⟩
     .rintro⟨q1,q2,q3⟩;by_cases G5:k=i
      .exact .inr G5
      .exact .inl ⟨q1,λ q=>q2 ⟨G5,q⟩,q3⟩
    .rcases b0K.1 hq with hq|hq
     .obtain⟨j,hj,BP⟩:=b2K.1 hq;by_cases rD:j=i
      .subst rD;rw[<-BP];simp[cq,eo]
      .exact absurd (b0K.2 (.inl (b2K.2 ⟨j,Kl.mem_erase_iff.2 ⟨rD,hj⟩,BP⟩))) Ve
     .exact absurd (b0K.2 (.inr hq)) Ve
   .obtain⟨x,hx,EO⟩:=hXi GY;have hxo:x=(i,o):=by
     have:=(hX x hx).2.1;rw[EO,eo] at this;simp only[b0J] at this;rw[<-EO,this]
    subst hxo;have hZ:∀ b,(∃ p∈PL,p.b=b)->sM c G t.ai w b:=λ b ⟨p,hp,e⟩=>e ▸ (lg p hp).fr;by_cases ZX:mj o.op=true
    ·
     have ME:=NC _ IH;obtain⟨T,bl⟩:∃ T,o.op = .alloc T:=by
      unfold mj at ZX;split at ZX
      .exact⟨_,by assumption⟩
      .cases ZX
     unfold nI at ME;simp only[bl,Bool.and_eq_true,Option.isSome_iff_exists] at ME;obtain⟨⟨d,hd⟩,GW,⟨⟨τ,r⟩,hT⟩⟩:=ME;simp only[hd,qL,Nat.blt_eq] at GW;obtain⟨w',p,Z3,hpd,hpb,cE,vC,hpo,kc⟩:=SZ hE hI (a2:=a) bl hd hT GW hx;unfold Oper.wp;rw[cE];show wpAny c.P .any ops Q' fuel _ (a.put o.dst p.x) w';rw[hd];refine ih fuel Rc X R (p::PL) SL G t (a.put (some d) p.x) b w' _ (by omega) (by simp;omega) (by rw[Array.size_setIfInBounds];exact cj) hR hX Kl IJ IG ?_ ?_ (λ q hq=>?_) (λ e he=>(lW e he).put hA.da (by rw[<-hd];exact hSd e he) (by rw[<-hd];exact hSu e he)) (λ k hk=>?_) U2 vC ?_ hs _ hK
     .simp only[b1p,b1B,b1q];refine⟨λ hm=>?_,MB⟩;rcases b0K.1 hm with hm|hm
      .obtain⟨q,hq,e⟩:=b0P.1 hm;exact RN q hq (by rw[e,Z3])
      .obtain⟨q,hq,e⟩:=b0P.1 hm;exact RO q hq (by rw[e,Z3])
     .simp only[b1p,b1q];refine⟨λ hm=>?_,Td⟩;obtain⟨q,hq,e⟩:=b0P.1 hm;have:=(lg q hq).fr.2.2.1;rw[e,hpb] at this;exact b3k _ this
     .rcases b0X.1 hq with rfl|hq
      .exact hpo
      .have h3:=(lg q hq).put (d:=some d) (x:=p.x) (by rw[<-hd];exact hPd q hq);have bz:=h3.fr.2.2.1;refine⟨h3.ex,h3.val,h3.ptr,h3.lt,?_,h3.fr.grow kc.size⟩;obtain⟨l,ty,q1,q2⟩:=h3.new;exact⟨l,ty,by rw[kc.block q.b bz (λ h=>h)];exact q1,q2⟩
     .rw[AW,hl k hk,b1p,b1B,b0X,Z3];constructor
      .rintro (⟨q1,q2,q3⟩|rfl)
       .exact⟨q1,q2,q3.imp id .inr⟩
       .exact⟨qo,GY, .inr (.inl rfl)⟩
      .rintro⟨q1,q2,q3⟩;by_cases G5:k=i
       .exact .inr G5
       .exact .inl ⟨q1,q2,q3.imp id λ q=>q.resolve_left G5⟩
     .refine⟨by rw[gh];exact hA.size,by rw[iS];exact hA.da,hA.db,λ u hu=>?_⟩;simp only[List.map_cons,List.cons_append,List.mem_append,List.mem_cons,hpd] at hu;rw[eb,if_neg (λ q=>hu (.inr (.inl (by simpa using q.1.symm))))];exact hA.at' u λ hm=>hu ((List.mem_append.1 hm).imp id λ q => .inr (List.mem_append.1 q))
    by_cases hex:jg o.op=true
    ·
     obtain⟨tt,ix,bl⟩:∃ tt ix,o.op = .extract tt ix:=by
      have:=hex;unfold jg at this;split at this
      .exact⟨_,_,by assumption⟩
      .cases this
     have a8F:vU t o.op=true:=by
      obtain⟨x0,xs,rfl⟩:∃ x0 xs,X=x0::xs:=by
       cases X with
       | nil=>cases hx
       | cons x0 xs=>exact⟨x0,xs,rfl⟩
      obtain⟨_,h3,_⟩:=Ho hK;unfold TH at h3;rw[List.all_eq_true] at h3;have h4:=h3 _ hx;rw[Bool.or_eq_true] at h4;rcases h4 with h4|h4
      .exact h4
      .rw[b3R] at h4;obtain⟨y,hy,h4⟩:=h4;rw[b0U,b1g] at h4;have h5:=(AT y.1 h4.2).1;have h6:=(hX y hy).1;rcases ((hl y.1 (by omega)).1 h5).2.2 with h7|h7
       .exact absurd rfl (h7 y hy)
       .have hyl:dm c.E y.2=true:=by
         have e0:=(hX y hy).2.1;rcases b0K.1 h7 with h7|h7
         .obtain⟨p,hp,e⟩:=b0P.1 h7;obtain⟨o2,T,τ,r,hm,O6,G6,_⟩:=(lg p hp).ex;have e1:=(hX _ hm).2.1;simp only at e1;rw[e,e0] at e1;simp only[b0J] at e1;rw[e1];simp[dm,mj,O6]
         .obtain⟨p,hp,e⟩:=b0P.1 h7;have e1:=(hX _ (lW p hp).mem).2.1;simp only at e1;rw[e,e0] at e1;simp only[b0J] at e1;rw[e1];simp[(lW p hp).lz]
        rw[hyl] at h4;exact absurd h4.1 (by simp)
     obtain⟨x,cE⟩:=S5 hI bl a8F;have ME:=a1F _ IH hex;obtain⟨d,hd⟩:∃ d,o.dst=some d:=by
      have:=NC _ IH;simp only[nI,bl,b4D] at this;exact this
     have hDu:∀ u,u∈R.filterMap (cq ops.toList)++(PL.map PE.d++SL.map XE.d)->u∈dstsOf (Seg.filter λ y => !Nat.testBit ((bL ops.toList []).getD i 0) y.1)++pV c.E Seg:=λ u hu=>by
      rcases b0K.1 hu with hu|hu
      .obtain⟨j,hj,BP⟩:=List.mem_filterMap.1 hu;obtain⟨q1,o',q2,_,q3,_⟩:=hR j hj;refine List.mem_append.2 (.inl (fX.2 ⟨(j,o'),List.mem_filter.2 ⟨q3,?_⟩,by simpa [cq,q2] using BP⟩));simp only[Bool.not_eq_true'];cases hb:Nat.testBit ((bL ops.toList []).getD i 0) j with
       | false=>rfl
       | true=>exact absurd hj ((hl j (by omega)).1 (AT j hb).1).2.1
      .rcases b0K.1 hu with hu|hu
       .obtain⟨p,hp,rfl⟩:=b0P.1 hu;obtain⟨o2,T,τ,r,hm,O6,G6,_⟩:=(lg p hp).ex;exact b0K.2 (.inr (kz c.E (hX _ hm).2.2 (by simp[dm,mj,O6]) G6))
       .obtain⟨q,hq,rfl⟩:=b0P.1 hu;exact b0K.2 (.inr (kz c.E (hX _ (lW q hq).mem).2.2 (lW q hq).lz (lW q hq).dst))
     have a1R:∀ w',(execOp a.eval o).run c.P w' = .ok (.value x) w':=λ w'=>by
      rw[hA.exec (lJ ME hDu)];exact cE w'
     have a6B:fF [d] o=true:=lJ ME λ u hu=>by
      simp only[b0Z] at hu;subst hu;exact b0K.2 (.inr (kz c.E IH (by simp[dm,hex]) hd))
     unfold Oper.wp;rw[a1R w];show wpAny c.P .any ops Q' fuel _ (a.put o.dst x) w;rw[hd];refine ih fuel Rc X R PL (⟨i,d,x,o⟩::SL) G t (a.put (some d) x) b w _ (by omega) (by simp;omega) (by rw[Array.size_setIfInBounds];exact cj) hR hX Kl IJ IG ?_ Td (λ q hq=>(lg q hq).put (by rw[<-hd];exact hPd q hq)) (λ e he=>?_) (λ k hk=>?_) U2 hI ?_ hs _ hK
     .rw[b1p];refine (b4E.nodup_iff).2 (b1q.2 ⟨λ hm=>?_,MB⟩);rcases b0K.1 hm with hm|hm
      .obtain⟨q,hq,e⟩:=b0P.1 hm;exact RN q hq e
      .obtain⟨q,hq,e⟩:=b0P.1 hm;exact RO q hq e
     .rcases b0X.1 he with rfl|he
      .refine⟨hx,hd,?_, .inl ⟨hex,λ w'=>?_⟩⟩
       .simp only[eb,gh,b2o];split
        .rfl
        .rename_i bz;first|rfl|(rw[b1t,b2f (by omega)];rfl)
       .have hA':lN [d] (a.put (some d) x) a:=⟨gh a _ x,by rw[iS];exact hA.da,hA.da,λ u hu=>by rw[eb,if_neg (λ q=>hu (by simpa using q.1.symm))]⟩;show (execOp (a.put (some d) x).eval o).run c.P w'=_;rw[hA'.exec a6B];exact a1R w'
      .exact (lW e he).put hA.da (by rw[<-hd];exact hSd e he) (by rw[<-hd];exact hSu e he)
     .rw[AW,hl k hk,b1p];constructor
      .rintro (⟨q1,q2,q3⟩|rfl)
       .refine⟨q1,q2,q3.imp (λ q=>q) λ q=>?_⟩;rcases b0K.1 q with q|q
        .exact b0K.2 (.inl q)
        .exact b0K.2 (.inr (b1O _ q))
       .exact⟨qo,GY, .inr (b0K.2 (.inr (b2X ..)))⟩
      .rintro⟨q1,q2,q3⟩;by_cases G5:k=i
       .exact .inr G5
       .refine .inl ⟨q1,q2,q3.imp (λ q=>q) λ q=>?_⟩;rcases b0K.1 q with q|q
        .exact b0K.2 (.inl q)
        .exact b0K.2 (.inr ((b0X.1 q).resolve_left G5))
     .refine⟨by rw[gh];exact hA.size,by rw[iS];exact hA.da,hA.db,λ u hu=>?_⟩;simp only[List.map_cons,List.mem_append,List.mem_cons] at hu;rw[eb,if_neg (λ q=>hu (.inr (.inr (.inl (by simpa using q.1.symm)))))];exact hA.at' u λ hm=>hu ((List.mem_append.1 hm).imp (λ q=>q) λ q=>(List.mem_append.1 q).imp (λ q=>q) .inr)
    by_cases zZ:sT o.op=true/\Dz c.E o=true
    ·
     have ME:=NC _ IH;obtain⟨d,hd⟩:∃ d,o.dst=some d:=by
      obtain⟨T,bl⟩:=Je zZ.1;unfold nI at ME;rw[bl,zZ.2] at ME;cases hd:o.dst with
      | some d=>exact⟨d,rfl⟩
      | none=>rw[hd] at ME;simp at ME
     obtain⟨w',x,cE,vC,Tw,kc⟩:=UG hE hI (a2:=a) zZ ME hd;unfold Oper.wp;rw[cE];show wpAny c.P .any ops Q' fuel _ (a.put o.dst x) w';rw[hd];refine ih fuel Rc X R PL (⟨i,d,x,o⟩::SL) G t (a.put (some d) x) b w' _ (by omega) (by simp;omega) (by rw[Array.size_setIfInBounds];exact cj) hR hX Kl IJ IG ?_ Td (λ q hq=>?_) (λ e he=>?_) (λ k hk=>?_) U2 vC ?_ hs _ hK
     .rw[b1p];refine (b4E.nodup_iff).2 (b1q.2 ⟨λ hm=>?_,MB⟩);rcases b0K.1 hm with hm|hm
      .obtain⟨q,hq,e⟩:=b0P.1 hm;exact RN q hq e
      .obtain⟨q,hq,e⟩:=b0P.1 hm;exact RO q hq e
     .have h3:=(lg q hq).put (d:=some d) (x:=x) (by rw[<-hd];exact hPd q hq);have bz:=h3.fr.2.2.1;refine⟨h3.ex,h3.val,h3.ptr,h3.lt,?_,h3.fr.grow kc.size⟩;obtain⟨l,ty,q1,q2⟩:=h3.new;exact⟨l,ty,by rw[kc.block q.b bz (λ h=>h)];exact q1,q2⟩
     .rcases b0X.1 he with rfl|he
      .refine⟨hx,hd,?_, .inr ⟨zZ,Tw⟩⟩;simp only[eb,gh,b2o];split
       .rfl
       .rename_i bz;first|rfl|(rw[b1t,b2f (by omega)];rfl)
      .exact (lW e he).put hA.da (by rw[<-hd];exact hSd e he) (by rw[<-hd];exact hSu e he)
     .rw[AW,hl k hk,b1p];constructor
      .rintro (⟨q1,q2,q3⟩|rfl)
       .refine⟨q1,q2,q3.imp (λ q=>q) λ q=>?_⟩;rcases b0K.1 q with q|q
        .exact b0K.2 (.inl q)
        .exact b0K.2 (.inr (b1O _ q))
       .exact⟨qo,GY, .inr (b0K.2 (.inr (b2X ..)))⟩
      .rintro⟨q1,q2,q3⟩;by_cases G5:k=i
       .exact .inr G5
       .refine .inl ⟨q1,q2,q3.imp (λ q=>q) λ q=>?_⟩;rcases b0K.1 q with q|q
        .exact b0K.2 (.inl q)
        .exact b0K.2 (.inr ((b0X.1 q).resolve_left G5))
     .refine⟨by rw[gh];exact hA.size,by rw[iS];exact hA.da,hA.db,λ u hu=>?_⟩;simp only[List.map_cons,List.mem_append,List.mem_cons] at hu;rw[eb,if_neg (λ q=>hu (.inr (.inr (.inl (by simpa using q.1.symm)))))];exact hA.at' u λ hm=>hu ((List.mem_append.1 hm).imp (λ q=>q) λ q=>(List.mem_append.1 q).imp (λ q=>q) .inr)
    ·
     have a8V:dm c.E o=false:=by
      simp only[dm,Bool.or_eq_false_iff];exact⟨by simpa using ZX,by simpa using hex,by
       cases q1:sT o.op
       .rfl
       .cases q2:Dz c.E o
        .rfl
        .exact absurd ⟨q1,q2⟩ zZ⟩
     have U9:∀ z∈X,Nat.testBit ((bL ops.toList []).getD i 0) z.1=true->dm c.E z.2=true/\z.1∈PL.map PE.i++SL.map XE.i:=λ z hz hb=>by
      have h3:=(AT z.1 hb).1;have h4:=(hX z hz).1;rcases ((hl z.1 (by omega)).1 h3).2.2 with h5|h5
      .exact absurd rfl (h5 z hz)
      .refine⟨?_,h5⟩;have e0:=(hX z hz).2.1;rcases b0K.1 h5 with h7|h7
       .obtain⟨p,hp,e⟩:=b0P.1 h7;obtain⟨o2,T,τ,r,hm,O6,G6,_⟩:=(lg p hp).ex;have e1:=(hX _ hm).2.1;simp only at e1;rw[e,e0] at e1;simp only[b0J] at e1;rw[e1];simp[dm,mj,O6]
       .obtain⟨p,hp,e⟩:=b0P.1 h7;have e1:=(hX _ (lW p hp).mem).2.1;simp only at e1;rw[e,e0] at e1;simp only[b0J] at e1;rw[e1];exact (lW p hp).lz
     obtain⟨mm,hu0,hK⟩:=Xw (y:=(i,o)) hK hx IJ (by
      simp only[Ol,a8V,b1D,b3C,b1u,b2m,b1g];intro z hz;cases hb:Nat.testBit ((bL ops.toList []).getD i 0) z.1 with
      | false=>exact .inr rfl
      | true=>exact .inl (U9 z hz hb).1) (λ x0 xs e hz=>by
      cases hb:Nat.testBit ((bL ops.toList []).getD i 0) x0.1 with
      | false=>rfl
      | true =>
       rcases b0K.1 (U9 x0 (by rw[e];simp) hb).2 with h5|h5
       .obtain⟨p,hp,e'⟩:=b0P.1 h5;exact absurd ⟨x0,xs,p,e,hp,e'⟩ NB
       .obtain⟨p,hp,e'⟩:=b0P.1 h5;exact absurd ⟨x0,xs,p,e,hp,e'⟩ IK)
     have hxm:∀ z,z∈X->z.1≠i->z∈X.filter λ z => !Nat.beq z.1 i:=λ z hz dD=>List.mem_filter.2 ⟨hz,by rw[YR.2 dD];rfl⟩;have YM:∀ z,z∈(X.filter λ z => !Nat.beq z.1 i)->z∈X/\z.1≠i:=λ z hz=>⟨(List.mem_filter.1 hz).1,YR.1 (by simpa using (List.mem_filter.1 hz).2)⟩;have rE:(X.filter λ z => !Nat.beq z.1 i).length+1=X.length:=RG hx IJ;generalize kq:(X.filter λ z => !Nat.beq z.1 i)=xs at *
     have hxn:(xs.map (·.1)).Nodup:=by rw[<-kq];exact IJ.sublist (b3y _ b5f)
     .simp only at hu0 hK;have fu:∀ j∈R,∃ o',ops.toList[j]?=some o'/\(j,o')∈Rc.filter λ r => !Nat.testBit ((bL ops.toList []).getD i 0) r.1:=λ j hj=>by
       obtain⟨q1,o',q2,q3,_,_⟩:=hR j hj;refine⟨o',q2,b1U.2 ⟨q3,?_⟩⟩;simp only[b1g];cases hb:Nat.testBit ((bL ops.toList []).getD i 0) j with
       | false=>rfl
       | true=>exact absurd hj ((hl j (by omega)).1 (AT j hb).1).2.1
      have hu:fF (R.filterMap (cq ops.toList)++(PL.map PE.d++SL.map XE.d)) o=true:=lJ hu0 λ t ht=>by
       rcases b0K.1 ht with ht|ht
       .obtain⟨j,hj,BP⟩:=List.mem_filterMap.1 ht;obtain⟨o',q2,q3⟩:=fu j hj;exact List.mem_append.2 (.inl (fX.2 ⟨(j,o'),q3,by simpa [cq,q2] using BP⟩))
       .rcases b0K.1 ht with ht|ht
        .obtain⟨p,hp,rfl⟩:=b0P.1 ht;obtain⟨o2,T,τ,r,hm,bl,G6,_⟩:=(lg p hp).ex;exact b0K.2 (.inr (kz c.E (hxm _ hm (RN p hp)) (by simp[dm,mj,bl]) G6))
        .obtain⟨p,hp,rfl⟩:=b0P.1 ht;exact b0K.2 (.inr (kz c.E (hxm _ (lW p hp).mem (RO p hp)) ((lW p hp).lz) (lW p hp).dst))
      have hIz:=hI.fz hZ;refine a0s (hA.exec hu) ?_ ?_ (Jt (c:=c.fz w G.S λ b=>∃ p∈PL,p.b=b) hE hIz hK (Q:=λ _ _ _=>False))
      .rintro x w' ⟨G',s',a8t,hsr⟩;obtain⟨vC,hJ⟩:=hI.a9z hZ a8t;obtain⟨k1,k2⟩:=jB hsr;refine ih fuel _ xs R PL SL G' s' (a.put o.dst x) (b.put o.dst x) w' _ (by omega) (by omega) (by rw[b2h];exact cj) (λ j hj=>?_) (λ y hy=>hX y (YM y hy).1) Kl hxn (λ j hj y hy=>IG j hj y (YM y hy).1) MB Td (λ p hp=>?_) (λ e he=>?_) (λ k hk=>?_) U2 vC (hA.put λ q hq Ve=>absurd hq Ve) (λ j hj o' cH=>?_) _ k2
       .obtain⟨q1,o',q2,q3,q4,q7⟩:=hR j hj;obtain⟨o2,q5,q6⟩:=fu j hj;have e:o'=o2:=by rw[q2] at q5;simpa using q5
        subst e;exact⟨q1,o',q2,q6,q4,q7⟩
       .have h3:=(lg p hp).put (d:=o.dst) (x:=x) (hPd p hp);obtain⟨e1,e2⟩:=hJ p.b ⟨p,hp,rfl⟩;refine⟨?_,h3.val,h3.ptr,h3.lt,?_,e2⟩
        .obtain⟨o2,T,τ,r,hm,m2,m3,m4,m5⟩:=h3.ex;exact⟨o2,T,τ,r,hxm _ hm (RN p hp),m2,m3,m4,m5⟩
        .obtain⟨l,ty,q1,q2⟩:=h3.new;exact⟨l,ty,by rw[e1];exact q1,q2⟩
       .have h3:=(lW e he).put (x:=x) hA.da (hSd e he) (hSu e he);exact⟨hxm _ h3.mem (RO e he),h3.dst,h3.val,h3.run⟩
       .rw[AW,hl k hk];constructor
        .rintro (⟨q1,q2,q3⟩|rfl)
         .exact⟨q1,q2,q3.imp (λ q y hy=>q y (YM y hy).1) λ q=>q⟩
         .exact⟨qo,GY, .inl λ y hy e=>(YM y hy).2 e⟩
        .rintro⟨q1,q2,q3⟩;by_cases G5:k=i
         .exact .inr G5
         .refine .inl ⟨q1,q2,q3.imp (λ q y hy=>?_) λ q=>q⟩;by_cases e:y.1=i
          .rw[e];exact b5o G5
          .exact q y (hxm y hy e)
       .obtain⟨o2,q5,q6⟩:=fu j hj;rw[q5] at cH;simp only[b0J] at cH;subst cH;exact k1 (j,o2) q6
      .rintro b' w' ⟨G',s',vC,_⟩;exact vC.defers
end
theorem wg{bR:List Nat}{p:Nat}(h:Pk bR p=true){j k:Nat}(hj:p<=j)(hl:j<bR.length)(hk:k<p):Nat.testBit (bR.getD j 0) k=true:=by
 unfold Pk at h;rw[List.all_eq_true] at h;have hm:bR[j]∈bR.drop p:=by
  rw[List.mem_iff_getElem?];refine⟨j - p,?_⟩;rw[b2W,show p+(j - p)=j by omega,b1a hl]
 have h1:=Nat.eq_of_beq_eq_true (h _ hm);rw[List.getD_eq_getElem?_getD,List.getElem?_eq_getElem hl,Option.getD_some];have h2:Nat.testBit (bR[j] % 2 ^ p) k=true:=by rw[h1,Nat.testBit_two_pow_sub_one];simpa using hk
 rw[Nat.testBit_mod_two_pow] at h2;simp only[b0U] at h2;exact h2.2
theorem Sa{l:List Oper}{es:List JR}{lo m bits:Nat}{s0:aj}{π π':List Nat}(nV:∀ j k t,lo<=j->j<m->lo<=k->k<m->cq l j=some t->cq l k=some t->j=k)
  (Xn:∀ k∈π,lo<=k/\k<m) (Pg:∀ k∈π',lo<=k/\k<m) (hn:π.Nodup) (sS:π'.Nodup) (ha:∀ k,lo<=k->k<m->Nat.testBit bits k=true->k∈π/\k∈π') (t:Nat) (hh:hidden l m bits t=false) :
  (dL l es s0 π).sl t=(dL l es s0 π').sl t/\(dL l es s0 π).ai t=(dL l es s0 π').ai t:=by
 by_cases hex:∃ k,lo<=k/\k<m/\cq l k=some t
 .obtain⟨k,bW,hk,hd⟩:=hex;have hb:Nat.testBit bits k=true:=by
   have:=hh;unfold hidden at this;rw[List.any_eq_false] at this;have:=this k (by simpa using hk);simp only[hd] at this;simp only[Nat.beq_refl] at this;simpa using this
  obtain⟨h1,h2⟩:=ha k bW hk hb;obtain⟨e1,e2⟩:=uY l es t k hd π s0 h1 hn (λ j hj dD BP=>dD (nV j k t (Xn j hj).1 (Xn j hj).2 bW hk BP hd));obtain⟨e3,e4⟩:=uY l es t k hd π' s0 h2 sS (λ j hj dD BP=>dD (nV j k t (Pg j hj).1 (Pg j hj).2 bW hk BP hd));exact⟨e1.trans e3.symm,e2.trans e4.symm⟩
 .have iF:∀ k,lo<=k->k<m->cq l k≠some t:=λ k hl hk hd=>hex ⟨k,hl,hk,hd⟩;obtain⟨e1,e2⟩:=fY l es t π s0 (λ k hk=>iF k (Xn k hk).1 (Xn k hk).2);obtain⟨e3,e4⟩:=fY l es t π' s0 (λ k hk=>iF k (Pg k hk).1 (Pg k hk).2);exact⟨e1.trans e3.symm,e2.trans e4.symm⟩
def eU(lo i:Nat):List Nat:=List.range' lo (i - lo)
theorem y9{lo i k:Nat}:k∈eU lo i↔lo<=k/\k<i:=by
 unfold eU;rw[List.mem_range'_1];omega
theorem HB(lo i:Nat):(eU lo i).Nodup:=List.nodup_range'
theorem a0m{lo i:Nat}(h:lo<=i):eU lo (i+1)=eU lo i++[i]:=by
 unfold eU;rw[show i+1 - lo=(i - lo)+1 by omega,List.range'_1_concat,show lo+(i - lo)=i by omega]
theorem QB{E:Env}{l:List Oper}{m lo:Nat}{bR:List Nat}{s0:aj}:∀ (r:List Oper) (i:Nat) (es xi:List JR) (s s':aj),Trace E l m bR i r es s s'->(∀ j o,r[j]?=some o->l[i+j]?=some o)->xi.length=i->lo<=i ->
  s=dL l (xi++es) s0 (eU lo i) ->
  (∀ j o,r[j]?=some o->NV E l m (bR.getD (i+j) 0) (dL l (xi++es) s0 (eU lo (i+j))) o ((xi++es).getD (i+j) ⟨false, .any,none⟩))/\s'=dL l (xi++es) s0 (eU lo (i+r.length))
 | [],i,[],xi,s,s',h,_,_,_,hs=>by
  have h:s=s':=h;subst h;exact⟨by simp,by simpa using hs⟩
 | o::r,i,e::es,xi,s,s',h,hl,h0,hlo,hs=>by
  obtain⟨h1,h2⟩:=h;have ho:l[i]?=some o:=hl 0 o rfl;have LX:(xi++e::es).getD i ⟨false, .any,none⟩=e:=by simp[b0S,<-h0]
  have cf:s.iH o.dst e.v e.ob=dL l ((xi++[e])++es) s0 (eU lo (i+1)):=by
   rw[b1o,a0m hlo,tj,b3s,LX,<-hs];simp[cq,ho]
  have ih:=QB r (i+1) es (xi++[e]) _ s' h2 (λ j p hj=>by
   have:=hl (j+1) p (by simpa using hj);rwa [show i+(j+1)=i+1+j by omega] at this) (by simp[h0]) (by omega) cf
  rw[b1o,b3s] at ih;refine⟨λ j p hj=>?_,by rw[ih.2];congr 2;simp;omega⟩;cases j with
  | zero =>
   simp at hj;subst hj;rw[b2L,LX,<-hs];exact h1
  | succ j =>
   have:=ih.1 j p (by simpa using hj);rwa [show i+1+j=i+(j+1) by omega] at this
 | [],_,_::_,_,_,_,h,_,_,_,_=>h.elim
 | _::_,_,[],_,_,_,h,_,_,_,_=>h.elim
theorem PU:∀ (l π:List Nat),l.Nodup->(∀ k∈l,k∈π)->l.length<=π.length
 | [],_,_,_=>by simp
 | x::l,π,hn,h=>by
  have sS:=b1q.1 hn;have hx:=h x (by simp);have h1:=PU l (π.erase x) sS.2 (λ k hk=>by
   have dD:k≠x:=λ e=>by subst e;exact sS.1 hk
   exact (b3c dD).2 (h k (by simp[hk])))
  have h3:=b2O hx;have:0<π.length:=b2V hx;simp only[b0W];omega
theorem PT{lo m:Nat}(π:List Nat)(hn:π.Nodup)(h:∀ k∈π,lo<=k/\k<m):π.length<=m - lo:=by
 have h1:(List.range lo++π).Nodup:=by
  rw[b1e];refine⟨b3Q,hn,λ x hx y hy e=>?_⟩;simp at hx;have:=(h y hy).1;omega
 have h2:=th (max lo m) (List.range lo++π) h1 (λ k hk=>by
  rcases b0K.1 hk with hk|hk
  .simp at hk;omega
  .have:=(h k hk).2;omega)
 rw[b0Y,List.length_range] at h2;cases π with
 | nil=>simp
 | cons k r =>
  have:=h k (by simp);omega
section
variable {c:Ctx} {G:Gh} {s:aj} {a:Act} {w w':World}
theorem a2A(hE:bp c.P c.E){ops:Array Oper}{j:Nat}(dJ:backward ops.toList=true)(hj:j<ops.size)(hcut:∀ i,j<i->i<ops.size->Nat.testBit ((bL ops.toList []).getD i 0) j=true)
  {P:aj->Prop} {Q':Exit->Act->World->Prop} {fuel:Nat} {kn:List (Nat×Bool)} {listed:Array Bool} (cj:listed.size=ops.size) (hl:∀ k,k<ops.size->(listed.getD k false=true↔k<j))
  (hI:Inv c G s a w) (hr:eP c.E ops [ops[j]] kn P s)
  (um:∀ G s a w (listed:Array Bool),listed.size=ops.size->(∀ k,k<ops.size->(listed.getD k false=true↔k<j+1))->Inv c G s a w->P s->wpAny c.P .any ops Q' fuel listed a w):wpAny c.P .any ops Q' (fuel+1) listed a w:=by
 have ho:ops[j]?=some ops[j]:=b1L hj;constructor
 .intro iU;have:j∈Region.ready .any ops listed:=(mem_ready cj).2 ⟨_,ho,by
   cases hb:listed.getD j false with
   | false=>rfl
   | true=>have:=(hl j hj).1 hb;omega,λ e he hb=>by
   have:=bQ dJ j ops[j] (by simp) e he hb;exact (hl e.on (by omega)).2 this⟩
  rw[iU] at this;cases this
 .intro i hi;obtain⟨o,cr,h1,h2⟩:=(mem_ready cj).1 hi;have Fp:=(b2j.1 cr).1;have Tn:j<=i:=by
   rcases b1w i j with h|h
   .have:=(hl i Fp).2 h;rw[h1] at this;cases this
   .exact h
  have rC:i=j:=by
   rcases b1w j i with h|h
   .have fu:=B8 (l:=ops.toList) (D:=λ k=>k<j) (λ k hk o' cH e he hb=>by
     have:=bQ dJ k o' cH e he hb;omega) i o (by simpa using cr) (λ e he hb=>by
      have bz:=bQ dJ i o (by simpa using cr) e he hb;exact (hl e.on (by omega)).1 (h2 e he hb)) j (hcut i h Fp)
    omega
   .omega
  subst rC;have AW:∀ k,k<ops.size->((listed.setIfInBounds i true).getD k false=true↔k<i+1):=λ k hk=>by
   rw[qv (by omega),hl k hk];omega
  unfold wpOp;simp only[ho];have ur:=zz hE hI hr;split at ur
  .rename_i hw;rw[b0T hw];exact .inl (b2n (λ a' w' ⟨G',s',na,h1,h2⟩=>um G' s' a' w' _ (by rw[b2h];exact cj) AW h1 h2) (ur Q'))
  .rename_i hw;rw[b0N hw];obtain⟨G',s',na,h1,h2⟩:=ur;exact um G' s' _ w _ (by rw[b2h];exact cj) AW h1 h2
theorem a0F(hE:bp c.P c.E){ops:Array Oper}{lo m:Nat}{es:List JR}{s0:aj}(dJ:backward ops.toList=true)(hm:m<=ops.size)
  (nU:∀ j o,m<=j->ops.toList[j]?=some o->∀ k,k<m->Nat.testBit ((bL ops.toList []).getD j 0) k=true)
  (a8T:∀ j o,lo<=j->ops.toList[j]?=some o->∀ k,k<lo->Nat.testBit ((bL ops.toList []).getD j 0) k=true)
  (nV:∀ j k t,lo<=j->j<m->k<m->cq ops.toList j=some t->cq ops.toList k=some t->j=k)
  (a1E:∀ i o,lo<=i->i<m->ops.toList[i]?=some o->NV c.E ops.toList m ((bL ops.toList []).getD i 0) (dL ops.toList es s0 (eU lo i)) o (es.getD i ⟨false, .any,none⟩))
  (GW:∀ i o,lo<=i->i<m->ops.toList[i]?=some o->qL o.dst=true) (py:∀ i o t,lo<=i->i<m->ops.toList[i]?=some o->tN o.op=true->o.dst=some t->s0.ai t=none)
  {Q':Exit->Act->World->Prop}
  (O1:∀ (fuel:Nat) (G:Gh) (a:Act) (w:World) (listed:Array Bool),ops.size=m+fuel->listed.size=ops.size->(∀ k,k<ops.size->(listed.getD k false=true↔k<m))->Inv c G (dL ops.toList es s0 (eU lo m)) a w->wpAny c.P .any ops Q' fuel listed a w) :
  ∀ (fuel:Nat) (π:List Nat) (G:Gh) (a:Act) (w:World) (listed:Array Bool),ops.size=lo+π.length+fuel->π.Nodup->(∀ k∈π,lo<=k/\k<m)->listed.size=ops.size->(∀ k,k<ops.size->(listed.getD k false=true↔k<lo\/k∈π)) ->
   (∀ k∈π,∀ o,ops.toList[k]?=some o->∀ e∈o.after.toList,Region.binds .any e=true->e.on<lo\/e.on∈π)->lo<=m->Inv c G (dL ops.toList es s0 π) a w->wpAny c.P .any ops Q' fuel listed a w:=by
 have a1D:∀ j k t,lo<=j->j<m->lo<=k->k<m->cq ops.toList j=some t->cq ops.toList k=some t->j=k:=λ j k t h1 h2 _ h4=>nV j k t h1 h2 h4;have fin:∀ (fuel:Nat) (π:List Nat) (G:Gh) (a:Act) (w:World) (listed:Array Bool),ops.size=lo+π.length+fuel->π.Nodup->(∀ k∈π,lo<=k/\k<m)->listed.size=ops.size->(∀ k,k<ops.size->(listed.getD k false=true↔k<lo\/k∈π)) ->
   lo<=m->(∀ k,lo<=k->k<m->k∈π)->Inv c G (dL ops.toList es s0 π) a w->wpAny c.P .any ops Q' fuel listed a w:=by
  intro fuel π G a w listed hf hn bz cj hl Tp gH hI;have hlen:=PT π hn bz;have Tn:m - lo<=π.length:=by
   have h2:(eU lo m).length<=π.length:=PU (eU lo m) π (HB lo m) λ k hk=>gH k (y9.1 hk).1 (y9.1 hk).2;simpa [eU] using h2
  have heq:∀ t,(dL ops.toList es s0 π).sl t=(dL ops.toList es s0 (eU lo m)).sl t/\(dL ops.toList es s0 π).ai t=(dL ops.toList es s0 (eU lo m)).ai t:=λ t =>
   Sa (bits:=2 ^ m - 1) a1D bz (λ k hk=>y9.1 hk) hn (HB lo m) (λ k bW hk _=>⟨gH k bW hk,y9.2 ⟨bW,hk⟩⟩) t (by
    unfold hidden;rw[List.any_eq_false];intro k hk;simp only[List.mem_range] at hk;split
    .split
     .simp[b3t,hk]
     .simp
    .simp)
  refine O1 fuel G a w listed (by omega) cj (λ k hk=>?_) ?_
  .rw[hl k hk];constructor
   .rintro (h|h)
    .omega
    .exact (bz k h).2
   .intro h;rcases b1w k lo with h'|h'
    .exact .inl h'
    .exact .inr (gH k h' h)
  .unfold Inv at hI ⊢;rw[I5] at hI ⊢;rw[<-funext λ t=>(heq t).1,<-funext λ t=>(heq t).2];exact hI
 intro fuel;induction fuel with
 | zero =>
  intro π G a w listed hf hn bz cj hl uk Tp hI;refine fin 0 π G a w listed hf hn bz cj hl Tp (λ k bW hk=>?_) hI;cases hb:decide (k∈π) with
  | true=>exact b1n hb
  | false =>
   have:=PT (lo:=lo) (m:=m) (k::π) (b1q.2 ⟨b3I hb,hn⟩) (λ j hj=>by
    rcases b0X.1 hj with rfl|hj
    .exact⟨bW,hk⟩
    .exact bz j hj)
   simp at this;omega
 | succ fuel ih =>
  intro π G a w listed hf hn bz cj hl uk Tp hI;by_cases gH:∀ k,lo<=k->k<m->k∈π
  .exact fin (fuel+1) π G a w listed hf hn bz cj hl Tp gH hI
  ·
   have hex:∃ k,lo<=k/\k<m/\k∉π/\∀ j,lo<=j->j<k->j∈π:=by
    have:∀ n,(∃ k,k<n/\lo<=k/\k<m/\k∉π)->∃ k,lo<=k/\k<m/\k∉π/\∀ j,lo<=j->j<k->j∈π:=by
     intro n;induction n with
     | zero=>rintro⟨k,hk,_⟩;omega
     | succ n Xp =>
      rintro⟨k,hk,Kr,hkm,kc⟩;by_cases hs:∃ k,k<n/\lo<=k/\k<m/\k∉π
      .exact Xp hs
      .refine⟨k,Kr,hkm,kc,λ j hjl hj=>?_⟩;cases hb:decide (j∈π) with
       | true=>exact b1n hb
       | false=>exact absurd ⟨j,by omega,hjl,by omega,b3I hb⟩ hs
    refine this m ?_;obtain⟨k,hk⟩:=b3Y.1 gH;have h2:=b3N.1 hk;have h3:=b3N.1 h2.2;exact⟨k,h3.1,h2.1,h3.1,h3.2⟩
   obtain⟨k0,b0B,YF,qp,Va⟩:=hex;have U5:ops[k0]?=some (ops[k0]'(by omega)):=b1L (by omega);constructor
   .intro iU;have:k0∈Region.ready .any ops listed:=(mem_ready cj).2 ⟨_,U5,by
     cases hb:listed.getD k0 false with
     | false=>rfl
     | true =>
      rcases (hl k0 (by omega)).1 hb with h|h
      .omega
      .exact absurd h qp,λ e he hb=>by
     have LY:=bQ dJ k0 ops[k0] (by simp) e he hb;refine (hl e.on (by omega)).2 ?_;rcases b1w e.on lo with h|h
     .exact .inl h
     .exact .inr (Va e.on h LY)⟩
    rw[iU] at this;cases this
   .intro i hi;obtain⟨o,cr,h1,h2⟩:=(mem_ready cj).1 hi;have Fp:=(Array.getElem?_eq_some_iff.1 cr).1;have eo:ops.toList[i]?=some o:=by simpa using cr
    have zZ:¬ (i<lo\/i∈π):=λ hh=>by
     have:=(hl i Fp).2 hh;rw[h1] at this;cases this
    have sQ:i∉π:=λ h=>zZ (.inr h);have hil:lo<=i:=by
     rcases b1w i lo with h|h
     .exact absurd (.inl h) zZ
     .exact h
    have OZ:∀ e∈o.after.toList,Region.binds .any e=true->e.on<lo\/e.on∈π:=λ e he hb=>by
     have LY:=bQ dJ i o eo e he hb;exact (hl e.on (by omega)).1 (h2 e he hb)
    have AT:=B8 (l:=ops.toList) (D:=λ k=>k<lo\/k∈π) (λ k hk o' cH e he hb=>by
     rcases hk with hk|hk
     .have:=bQ dJ k o' cH e he hb;exact .inl (by omega)
     .exact uk k hk o' cH e he hb) i o eo OZ
    have qo:i<m:=by
     rcases b1w i m with h|h
     .exact h
     .rcases AT k0 (nU i o h eo k0 YF) with h|h
      .omega
      .exact absurd h qp
    have IL:=B8 (l:=ops.toList) (D:=λ k=>k<i) (λ k hk o' cH e he hb=>by
     have:=bQ dJ k o' cH e he hb;omega) i o eo (λ e he hb=>bQ dJ i o eo e he hb)
    have G8:=λ t hh=>Sa (l:=ops.toList) (es:=es) (s0:=s0) (lo:=lo) (m:=m) (bits:=(bL ops.toList []).getD i 0) (π:=π) (π':=eU lo i) a1D bz (λ k hk=>by have:=y9.1 hk;omega) hn (HB lo i)
     (λ k bW hk hb=>⟨by
      rcases AT k hb with h|h
      .omega
      .exact h,y9.2 ⟨bW,IL k hb⟩⟩) t hh
    obtain⟨hg,cE,Xk⟩:=a1E i o hil qo eo;have cG:QN ops.toList m ((bL ops.toList []).getD i 0) (dL ops.toList es s0 (eU lo i))=QN ops.toList m ((bL ops.toList []).getD i 0) (dL ops.toList es s0 π):=by
     funext x;cases x with
     | tmp t =>
      simp only[QN];split
      .rfl
      .rename_i hh;exact ((G8 t hh).1).symm
     | _=>rfl
    have bW:Nf ops.toList m ((bL ops.toList []).getD i 0) (dL ops.toList es s0 (eU lo i))=Nf ops.toList m ((bL ops.toList []).getD i 0) (dL ops.toList es s0 π):=by
     funext t;simp only[Nf];split
     .rfl
     .rename_i hh;exact ((G8 t hh).2).symm
    have hg':fM ops.toList ((bL ops.toList []).getD i 0) (dL ops.toList es s0 π) o (es.getD i ⟨false, .any,none⟩).EY:=by
     unfold fM at hg ⊢;split
     .rename_i sS;simpa [sS] using hg
     .rename_i g want sS;simp only[sS] at hg;obtain⟨t,b,q1,q2,q3,q4⟩:=hg;refine⟨t,b,q1,q2,?_,q4⟩;have hgm:g<m:=Nat.lt_trans (IL g q2) qo;have hh:hidden ops.toList m ((bL ops.toList []).getD i 0) t=false:=by
       unfold hidden;rw[List.any_eq_false];intro k hk;simp only[List.mem_range] at hk;split
       .rename_i d hd;split
        .rename_i CJ;have CJ:=b0L CJ;subst CJ;rcases b1w k lo with Kr|Kr
         .rw[a8T i o hil eo k Kr];simp
         .have:=nV k g d Kr hk hgm hd q1;subst this;rw[q2];simp
        .simp
       .simp
      exact ((G8 t hh).1).trans q3
    have hw:=Fo (ops:=ops) rfl hI hg';have um:∀ (G':Gh) (a':Act) (w':World),Inv c G' (dL ops.toList es s0 (π++[i])) a' w'->wpAny c.P .any ops Q' fuel (listed.setIfInBounds i true) a' w':=by
     intro G' a' w' vC;refine ih (π++[i]) G' a' w' _ (by simp;omega) ?_ ?_ (by rw[b2h];exact cj) ?_ ?_ Tp vC
     .rw[b1e];exact⟨hn,by simp,λ x hx y hy=>by simp at hy;subst hy;exact λ e=>sQ (e ▸ hx)⟩
     .intro k hk;rcases b0K.1 hk with hk|hk
      .exact bz k hk
      .simp at hk;omega
     .intro k hk;rw[qv (by omega),hl k hk];simp[or_assoc]
     .intro k hk o' cH e he hb;rcases b0K.1 hk with hk|hk
      .exact (uk k hk o' cH e he hb).imp id (b2v _)
      .simp at hk;subst hk;rw[eo] at cH;simp only[b0J] at cH;subst cH;exact (OZ e he hb).imp id (b2v _)
    have Kq:cq ops.toList i=o.dst:=by simp[cq,eo]
    unfold wpOp;simp only[cr];cases IT:(es.getD i ⟨false, .any,none⟩).EY with
    | true =>
     rw[IT] at hw;rw[b0T hw];obtain⟨vc,hq,dY⟩:=cE IT;rw[cG,bW] at hq;refine .inl (b2n ?_ (Hw hE hI (lk':=Nf ops.toList m ((bL ops.toList []).getD i 0) (dL ops.toList es s0 π)) ?_ ?_ hq dY))
     .intro a' w' hd;obtain⟨G',mW⟩:=L5 hI (GW i o hil qo eo) (λ t ob CJ MI=>by
       rw[MI] at hq;have Tl:=Jo hq;have h0:=py i o t hil qo eo Tl CJ;have yy:=(fY ops.toList es t π s0 (λ k hk hkd=>by
        have:=nV k i t (bz k hk).1 (bz k hk).2 qo hkd (by rw[Kq];exact CJ);subst this;exact sQ hk)).2
       rw[yy,h0]) hd
      refine um G' a' w' ?_;rw[tj,Kq];exact mW
     .intro id ob aU;unfold Nf at aU;split at aU
      .cases aU
      .exact aU
     .intro x;cases x with
      | tmp t =>
       simp only[QN];split
       .trivial
       .exact aY hI (.tmp t)
      | const v=>exact aY hI (.const v)
      | global g=>exact aY hI (.global g)
      | func f=>exact aY hI (.func f)
    | false =>
     rw[IT] at hw;rw[hw];obtain⟨hv,MI⟩:=Xk IT;refine um G _ w ?_;rw[tj,Kq,hv,MI,KS];exact Inv.put (v := .dX) hI rfl
theorem DL{α:Type}{l:List α}{lo hi j:Nat}{o:α}(h:((l.take hi).drop lo)[j]?=some o):l[lo+j]?=some o/\lo+j<hi:=by
 rw[b2W,b2e] at h;split at h
 .rename_i bz;exact⟨h,bz⟩
 .cases h
theorem iC{α:Type}{l:List α}{lo hi i:Nat}{o:α}(h:l[i]?=some o)(h1:lo<=i)(h2:i<hi):((l.take hi).drop lo)[i - lo]?=some o:=by
 rw[b2W,b2e,show lo+(i - lo)=i by omega,b0T h2,h]
theorem qK:∀ {l:List (Option Nat)},tO l=true->∀ (i j t:Nat),l[i]?=some (some t)->l[j]?=some (some t)->i=j
 | [],_,i,j,t,h,_=>by simp at h
 | none::r,h,i,j,t,hi,hj=>by
  cases i with
  | zero=>simp at hi
  | succ i =>
   cases j with
   | zero=>simp at hj
   | succ j=>rw[qK (l:=r) h i j t (by simpa using hi) (by simpa using hj)]
 | some d::r,h,i,j,t,hi,hj=>by
  simp only[tO] at h;split at h
  .cases h
  .rename_i U0;rw[b3M] at U0;have no:∀ k:Nat,r[k]?=some (some d)->False:=λ k hk=>by
    have:=U0 _ (b1y hk);simp at this
   cases i with
   | zero =>
    simp at hi;subst hi;cases j with
    | zero=>rfl
    | succ j=>exact (no j (by simpa using hj)).elim
   | succ i =>
    cases j with
    | zero =>
     simp at hj;subst hj;exact (no i (by simpa using hi)).elim
    | succ j=>rw[qK (l:=r) h i j t (by simpa using hi) (by simpa using hj)]
theorem Fm{l:List Oper}{lo hi:Nat}(h:CB l lo hi=true):∀ j k t,lo<=j->j<hi->k<hi->cq l j=some t->cq l k=some t->j=k:=by
 unfold CB at h;rw[Bool.and_eq_true,Bool.and_eq_true] at h;obtain⟨⟨_,h1⟩,h2⟩:=h;have hd:=qK h1;have get:∀ j t,cq l j=some t->∃ o,l[j]?=some o/\o.dst=some t:=by
  intro j t h;unfold cq at h;simp only[Option.bind_eq_some_iff] at h;exact h
 intro j k t hj hjh hkh IP hkt;obtain⟨o,ho,Vb⟩:=get j t IP;obtain⟨o',cH,a5l⟩:=get k t hkt;have g1:=iC ho hj hjh;rcases b1w k lo with hk|hk
 .rw[b1u] at h2;have hm:o'∈l.take lo:=b1y (by rw[b2e,b0T hk];exact cH);have:=h2 o' hm;rw[a5l] at this;simp only[b1g] at this;rw[b3M] at this;have:=this o (b1y g1);rw[Vb] at this;simp at this
 .have g2:=iC cH hk hkh;have:=hd (j - lo) (k - lo) t (by rw[b2i,g1];simp[Vb]) (by rw[b2i,g2];simp[a5l]);omega
theorem US{l:List Oper}{lo hi:Nat}(h:CB l lo hi=true){i:Nat}{o:Oper}(h1:lo<=i)(h2:i<hi)(ho:l[i]?=some o):qL o.dst=true:=by
 unfold CB at h;rw[Bool.and_eq_true,Bool.and_eq_true] at h;exact List.all_eq_true.1 h.1.1 o (List.mem_of_getElem? (iC ho h1 h2))
theorem Dh{i:Nat}{o:Oper}:∀ {l:List Oper} {lo:Nat},(i,o)∈j0 lo l↔∃ j,i=lo+j/\l[j]?=some o
 | [],lo=>by simp[j0]
 | x::l,lo=>by
  simp only[j0,b0X,b0M,Dh (l:=l)];constructor
  .rintro (⟨rfl,rfl⟩|⟨j,rfl,h⟩)
   .exact⟨0,rfl,rfl⟩
   .exact⟨j+1,by omega,by simpa using h⟩
  .rintro⟨j,rfl,h⟩;cases j with
   | zero=>simp at h;exact .inl ⟨rfl,h.symm⟩
   | succ j=>exact .inr ⟨j,by omega,by simpa using h⟩
theorem FK:∀ (l:List Oper) (lo:Nat),((j0 lo l).map (·.1)).Nodup
 | [],lo=>b1V
 | x::l,lo=>by
  simp only[j0,b1p,b1q];refine⟨λ h=>?_,FK l (lo+1)⟩;obtain⟨⟨i,o⟩,h1,h2⟩:=b0P.1 h;obtain⟨j,h3,_⟩:=Dh.1 h1;simp only at h2;omega
theorem lN.mono{D D':List Nat}{a b:Act}(h:lN D a b)(hs:∀ t∈D,t∈D'):lN D' a b:=⟨h.size,h.da,h.db,λ t ht=>h.at' t λ q=>ht (hs t q)⟩
theorem Me:∀ (l:List Oper) (lo:Nat),(j0 lo l).length=l.length
 | [],lo=>rfl
 | x::l,lo=>by simp[j0,Me l]
theorem Io{α:Type}(p:α->Bool):∀ l:List α,(l.filter p).length+(l.filter λ x => !p x).length=l.length
 | []=>rfl
 | x::l=>by
  have:=Io p l;cases h:p x<;>simp[b4C,h]<;>omega
theorem VZ(hE:bp c.P c.E){ops:Array Oper}(dJ:backward ops.toList=true){Q:aj->Prop}{Q':Exit->Act->World->Prop}(hQ:∀ G s a w,Inv c G s a w->Q s->Q' .normal a w) :
  ∀ (Yo:List Nat) (lo:Nat) (kn:List (Nat×Bool)) (fuel:Nat) (G:Gh) (s:aj) (a:Act) (w:World) (listed:Array Bool),ops.size=lo+fuel->listed.size=ops.size->(∀ k,k<ops.size->(listed.getD k false=true↔k<lo))->Inv c G s a w ->
   tI c.E ops ops.toList (bL ops.toList []) Yo lo kn Q s->wpAny c.P .any ops Q' fuel listed a w:=by
 obtain⟨r,ha1,ha2,_⟩:=vK ops.toList [];have OW:(bL ops.toList []).length=ops.size:=by rw[ha1];simpa using ha2
 intro Yo;induction Yo with
 | nil =>
  intro lo kn fuel G s a w listed hf cj hl hI hr;simp only[tI] at hr;split at hr
  .rename_i hb;have hb:=Nat.eq_of_beq_eq_true hb;have hlo:lo=ops.size:=by simpa using hb
   have h0:fuel=0:=by omega
   subst h0;refine⟨?_,hQ _ _ _ _ hI hr⟩;apply b3n.2;intro i hi;obtain⟨o,ho,h1,_⟩:=(mem_ready cj).1 hi;have bz:=(b2j.1 ho).1;have:=(hl i bz).2 (by omega);rw[h1] at this;cases this
  .exact hr.elim
 | cons hi Yo ih =>
  intro lo kn fuel G s a w listed hf cj hl hI hr;simp only[tI] at hr;split at hr;case h_2=>exact hr.elim
  case h_1 hc =>
  simp only[b0U,b4v,Nat.ble_eq,b1K] at hc;obtain⟨Kp,hc0,hc2,hc3⟩:=hc;split at hr
  .rename_i hb;have hb:=b0L hb;subst hb;have bz:lo<ops.size:=by omega
   obtain⟨fuel,rfl⟩:∃ f,fuel=f+1:=⟨fuel - 1,by omega⟩;have uo:(ops.toList.take (lo+1)).drop lo=[ops[lo]]:=by
    rw[List.drop_take,show lo+1 - lo=1 by omega,List.drop_eq_getElem_cons (by simpa using bz)];simp
   rw[uo] at hr;refine a2A hE dJ bz (λ i h1 h2=>wg Kp (by omega) (by omega) (by omega)) cj hl hI hr ?_;intro G s a w listed cj hl hI hp;exact ih (lo+1) kn fuel G s a w listed (by omega) cj hl hI hp
  .split at hr;case h_3=>exact hr.elim
   case h_1 EN ZX =>
    unfold Yl at hr;split at hr;case h_2=>exact hr.elim
    case h_1 gI =>
    have sC:∀ i o,(i,o)∈j0 lo ((ops.toList.take hi).drop lo)↔lo<=i/\i<hi/\ops.toList[i]?=some o:=λ i o=>by
     rw[Dh];constructor
     .rintro⟨j,rfl,h⟩;obtain⟨h1,h2⟩:=DL h;exact⟨by omega,h2,h1⟩
     .rintro⟨h1,h2,h3⟩;exact⟨i - lo,by omega,iC h3 h1 h2⟩
    have dh:=FK ((ops.toList.take hi).drop lo) lo;have xx:(j0 lo ((ops.toList.take hi).drop lo)).length=hi - lo:=by rw[Me];simp;omega
    have vZ:∀ x∈j0 lo ((ops.toList.take hi).drop lo),∀ y∈j0 lo ((ops.toList.take hi).drop lo),∀ t,x.2.dst=some t->y.2.dst=some t->x.1=y.1:=λ x hx y hy t hxt hyt=>by
     have h1:=(sC x.1 x.2).1 hx;have h2:=(sC y.1 y.2).1 hy;exact Fm EN x.1 y.1 t h1.1 h1.2.1 h2.2.1 (by simp[cq,h1.2.2,hxt]) (by simp[cq,h2.2.2,hyt])
    generalize j0 lo ((ops.toList.take hi).drop lo)=eU at *
    simp only[a2p,b0U,b1u] at gI;obtain⟨t,b,q1,q2,q3⟩:=Ma hE hI hr;obtain⟨q4,q5⟩:=jB q3;have a1S:∀ p:Nat×Oper->Bool,((eU.filter p).map (·.1)).Nodup:=λ p=>dh.sublist (b3y _ b5f);have a6C:∀ x∈eU,∀ y∈eU,x.1=y.1->x=y:=λ x hx y hy e=>by
     obtain⟨x1,x2⟩:=x;obtain⟨y1,y2⟩:=y;simp only at e;subst e;have h1:=((sC _ _).1 hx).2.2;rw[((sC _ _).1 hy).2.2] at h1;simp only[b0J] at h1;rw[h1]
    refine VB hE (hi:=hi) (Seg:=eU) dJ hc3 ?_ (λ x hx=>by simpa using (gI.1 x hx).1) (λ x hx=>(gI.1 x hx).2) ?_ vZ (λ fuel G s a w listed hf cj hl hI hp=>ih hi kn fuel G s a w listed (by omega) cj hl hI hp) (fuel+(Hl c.E (bL ops.toList []) (eU.filter λ r => !lH c.E (bL ops.toList []) eU r)).length) fuel (eU.filter (lH c.E (bL ops.toList []) eU)) (Hl c.E (bL ops.toList []) (eU.filter λ r => !lH c.E (bL ops.toList []) eU r))
     ((eU.filter (lH c.E (bL ops.toList []) eU)).map (·.1)) [] [] G t a b w listed (b1d _) ?_ cj ?_ ?_ (a1S _) ((((iV _ _ _).map (·.1)).nodup_iff).2 (a1S _)) ?_ b1V b1V (λ p hp=>by cases hp) (λ p hp=>by cases hp) ?_ ?_ ?_ ?_ ?_ eU.length ?_
    .intro j o hj ho k hk;have:=(List.getElem?_eq_some_iff.1 ho).1;exact wg Kp hj (by rw[OW];simpa using this) hk
    .intro x hx he;have:=gI.2 x hx;simpa [he] using this
    .rw[b1F,(iV _ _ _).length_eq,Io,xx,b1f,b1f];omega
    .intro i jw;obtain⟨⟨i',o⟩,h1,rfl⟩:=b0P.1 jw;obtain⟨h2,h3⟩:=b1U.1 h1;have h4:=(sC _ _).1 h2;refine⟨h4.2.1,o,h4.2.2,h1,h2,?_⟩;have:=gI.2 _ h2;rw[h3] at this;have dD:jg o.op=false:=by
      have:=Bt (E:=c.E) (o:=o) (by simp only[lH,Jr,b0U] at h3;exact h3.1.1);simp only[dm,b3Z] at this;exact this.2.1
     exact⟨h3,by simpa [dD] using this⟩
    .intro x hx;have hx:=(iV _ _ _).mem_iff.1 hx;have h2:=(b1U.1 hx).1;have h4:=(sC _ _).1 h2;exact⟨h4.2.1,h4.2.2,h2⟩
    .intro i jw x hx e;have hx:=(iV _ _ _).mem_iff.1 hx;obtain⟨y,h1,rfl⟩:=b0P.1 jw;obtain⟨h2,h3⟩:=b1U.1 h1;obtain⟨h4,h5⟩:=b1U.1 hx;have:=a6C _ h2 _ h4 e;subst this;rw[h3] at h5;cases h5
    .intro k hk;rw[hl k hk];constructor
     .intro h;refine⟨by omega,λ hm=>?_, .inl λ x hx e=>?_⟩
      .obtain⟨y,h1,rfl⟩:=b0P.1 hm;have:=((sC _ _).1 (b1U.1 h1).1).1;omega
      .have:=((sC _ _).1 (b1U.1 ((iV _ _ _).mem_iff.1 hx)).1).1;omega
     .rintro⟨h1,h2,h3⟩;have h3:=h3.resolve_right (by simp);rcases b1w k lo with h|h
      .exact h
      .have hm:(k,ops[k])∈eU:=(sC _ _).2 ⟨h,h1,by simp⟩;cases hr:lH c.E (bL ops.toList []) eU (k,ops[k]) with
       | true=>exact absurd (b0P.2 ⟨_,b1U.2 ⟨hm,hr⟩,rfl⟩) h2
       | false=>exact absurd rfl (h3 _ ((iV _ _ _).mem_iff.2 (b1U.2 ⟨hm,by simp[hr]⟩)))
    .intro k hk Kr o ho e he hb;have h1:=bQ dJ k o ho e he hb;have h2:=(hl k hk).1 Kr;exact (hl e.on (by omega)).2 (by omega)
    .exact q1
    .refine q2.mono λ d hd=>?_;obtain⟨r,h1,h2⟩:=fX.1 hd;have h4:=(sC _ _).1 (b1U.1 h1).1;exact b0K.2 (.inl (b2K.2 ⟨r.1,b0P.2 ⟨r,h1,rfl⟩,by simp[cq,h4.2.2,h2]⟩))
    .intro i jw o ho;obtain⟨⟨i',o'⟩,h1,rfl⟩:=b0P.1 jw;have h4:=((sC _ _).1 (b1U.1 h1).1).2.2;simp only at ho;rw[h4] at ho;simp only[b0J] at ho;subst ho;exact q4 _ h1
    .exact q5
   case h_2 EN ZX =>
   have nV:=Fm EN;obtain⟨es,na,s',oF,hq⟩:=pS hr;have hlen:((ops.toList.take hi).drop lo).length=hi - lo:=by simp;omega
   obtain⟨Z7,ht2⟩:=QB (lo:=lo) (s0:=((ops.toList.take hi).drop lo).foldl aj.fresh s) ((ops.toList.take hi).drop lo) lo es (List.replicate lo ⟨false, .any,none⟩) _ s' oF (λ j o ho=>(DL ho).1) (by simp) (Nat.le_refl _) (by simp[eU,dL]);rw[hlen,show lo+(hi - lo)=hi by omega] at ht2;subst ht2;have hI0:Inv c G (((ops.toList.take hi).drop lo).foldl aj.fresh s) a w:=zS _ hI;refine a0F hE (lo:=lo) (m:=hi) (es:=List.replicate lo ⟨false, .any,none⟩++es) (s0:=((ops.toList.take hi).drop lo).foldl aj.fresh s) dJ hc3 ?_ ?_ nV ?_ (λ i o h1 h2 ho=>US EN h1 h2 ho) ?_ ?_ fuel [] G a w listed (by simp;omega) (by simp) (by simp) cj (by simpa using hl) (by simp) (by omega) hI0
   .intro j o hj ho k hk;have:=(List.getElem?_eq_some_iff.1 ho).1;exact wg Kp hj (by rw[OW];simpa using this) hk
   .intro j o hj ho k hk;have:=(List.getElem?_eq_some_iff.1 ho).1;exact wg hc0 hj (by rw[OW];simpa using this) hk
   .intro i o h1 h2 ho;have:=Z7 (i - lo) o (iC ho h1 h2);rwa [show lo+(i - lo)=i by omega] at this
   .intro i o t h1 h2 ho Tl CJ;exact (xr ((ops.toList.take hi).drop lo) s t).2 o (b1y (iC ho h1 h2)) Tl CJ
   .intro fuel G a w listed hf cj hl hI;exact ih hi na fuel G _ a w listed (by omega) cj hl hI (Pm hI hq)
theorem Mr(hE:bp c.P c.E)(gI:c.P.follows .mixedOrders=true){id:Nat}{ops:Array Oper}{Q:aj->Prop}{Q':Exit->Act->World->Prop}(hQ:∀ G s a w,Inv c G s a w->Q s->Q' .normal a w)
  (h:Inv c G s a w) (hd:JY c.E ops Q s):(Code.region id ops true).wp c.P Q' a w:=by
 unfold JY at hd;simp only at hd;split at hd
 .exact Oc hE gI hQ h hd
 .split at hd;case h_2=>exact hd.elim
  case h_1 dJ =>
  refine wp_region_any gI ?_;exact VZ hE dJ hQ _ 0 [] ops.size G s a _ _ (by simp) (by simp) (by intro k hk;simp[hk]) (bh.drew h) hd
end
def Oa{c:Ctx}{G:Gh}{s:aj}{a:Act}{w:World}(hE:bp c.P c.E)(gI:c.P.follows .mixedOrders=true){id:Nat}{ops:Array Oper}{Q:aj->Prop}{Q':Exit->Act->World->Prop}(hQ:∀ G s a w,Inv c G s a w->Q s->Q' .normal a w)
  (h:Inv c G s a w) (hd:Ux c.E ops Q s):(Code.region id ops true).wp c.P Q' a w:=Mr hE gI hQ h hd
theorem jq{u v:TV}(h:vx u v):u=v:=by
 unfold vx at h;split at h
 .rename_i x hx;have:=TV.aT hx;rw[this,h]
 .exact h.elim
theorem As:∀ {l:List Nat},nodupB l=true->l.Nodup
 | [],_=>b1V
 | a::r,h=>by
  simp only[nodupB] at h;split at h
  .cases h
  .rename_i hc;exact List.nodup_cons.2 ⟨by simpa using hc,As h⟩
theorem xA{α:Type}(f:α->Nat):∀ {l:List α},(l.map f).Nodup->∀ x∈l,∀ y∈l,f x=f y->x=y
 | [],_,x,hx,_,_,_=>by simp at hx
 | a::r,h,x,hx,y,hy,he=>by
  simp only[b1p,b1q] at h;rcases b0X.1 hx with Pe|Pe
  .rcases b0X.1 hy with Q0|Q0
   .rw[Pe,Q0]
   .exact absurd (b0P.2 ⟨y,Q0,by rw[<-he,Pe]⟩) h.1
  .rcases b0X.1 hy with Q0|Q0
   .exact absurd (b0P.2 ⟨x,Pe,by rw[he,Q0]⟩) h.1
   .exact xA f h.2 x Pe y Q0 he
section
variable {c:Ctx} {G:Gh} {s t:aj} {a:Act} {w w':World}
def fU(G:Gh)(s t:aj)(ρ:List (Nat×Nat))(id:Nat):Value:=match s.ai (di ρ id) with
 | some _=>G.η (di ρ id)
 | none=>match cS (t.ai id) with
  | true => .tuple [.slice none 0 0].toArray
  | false => .slice none 0 0
def pN(G:Gh)(s:aj)(ρ:List (Nat×Nat))(id:Nat):List Nat:=match s.ai (di ρ id) with
 | some _=>G.φ (di ρ id)
 | none=>[]
theorem mA{ρ:List (Nat×Nat)}{x:Value}{u v:AV}(h:AV.ss ρ s t u v)(hu:C1 c G s.ai w u x):C1 c ⟨G.S,fU G s t ρ,pN G s ρ⟩ t.ai w v x:=by
 unfold AV.ss at h;split at h
 .trivial
 .split at h
  .have:=jq h;subst this;exact hu
  .split at h
   .subst h;exact⟨rfl,Nu (c:=c) (G:=G) (lk:=s.ai) (τ := .slice _) (v := .nil) rfl (show C1 c G s.ai w .nil x from hu)⟩
   .exact h.elim
  .exact h.elim
 .split at h
  .exact hu
  .exact h.elim
 .split at h
  .have:=jq h;subst this;exact hu
  .exact h.elim
 .split at h
  .split at h
   .rename_i hb;simp only[b0U] at hb;have h1:=b0L hb.1.1;have h2:=b0L hb.1.2;subst h1 h2;obtain⟨b,k1,k2,k3⟩:=hu;refine⟨b,?_,k2,hb.2⟩;simp only[fU];match hl:s.ai (di ρ _),k3 with
    | some o,_=>exact k1
   .exact h.elim
  .exact h.elim
 .split at h
  .split at h
   .rename_i hb;simp only[b0U] at hb;have h1:=b0L hb.1;subst h1;obtain⟨k1,k2,k3⟩:=hu;refine⟨?_,hb.2,k3⟩;simp only[fU];match hl:s.ai (di ρ _),k2 with
    | some o,_=>exact k1
   .exact h.elim
  .split at h
   .rename_i hr hn;refine⟨?_,hr,none,0,0,hu⟩;simp only[fU,hn,pZ hr];exact hu
   .exact h.elim
  .exact h.elim
 .split at h
  .split at h
   .rename_i hb;simp only[b0U] at hb;have h1:=b0L hb.1;subst h1;obtain⟨k1,l,k2,k3⟩:=hu;refine⟨hb.2,l,?_,k3⟩;simp only[fU];match hl:s.ai (di ρ _),k1 with
    | some o,_=>exact k2
   .exact h.elim
  .split at h
   .rename_i hr hn;have hu:x = .slice none 0 0:=hu;refine⟨hr,[],?_,none,0,0,hu⟩;simp only[fU,hn,hr];rw[hu]
   .exact h.elim
  .exact h.elim
 .split at h
  .split at h
   .rename_i hb;have h1:=b0L hb;subst h1;exact hu
   .exact h.elim
  .exact h.elim
 .split at h
  .split at h
   .rename_i hb;simp only[b0U] at hb;have h1:=b0L hb.1;subst h1;obtain⟨k1,k2,k3⟩:=hu;refine⟨?_,hb.2,k3⟩;simp only[fU];match hl:s.ai (di ρ _),k2 with
    | some o,_=>exact k1
   .exact h.elim
  .exact h.elim
 .exact h.elim
theorem Cx{ρ:List (Nat×Nat)}:∀ {us vs:List AV} {l:List Value},Fk ρ s t us vs->aN (C1 c G s.ai w) us l->aN (C1 c ⟨G.S,fU G s t ρ,pN G s ρ⟩ t.ai w) vs l
 | [],[],[],_,_=>trivial
 | u::us,v::vs,x::l,h,hu=>by
  simp only[Fk] at h;split at h
  .exact⟨ag,Cx h hu.2⟩
  .exact⟨mA h.1 hu.1,Cx h.2 hu.2⟩
 | [],_::_,_,h,_=>h.elim
 | _::_,[],_,h,_=>h.elim
 | [],[],_::_,_,h=>h.elim
 | _::_,_::_,[],_,h=>h.elim
theorem a1s{ρ:List (Nat×Nat)}{x:Value}{u v:AV}(h:AV.a4S ρ s t u v)(hu:CR c G s.ai w u x):CR c ⟨G.S,fU G s t ρ,pN G s ρ⟩ t.ai w v x:=by
 rcases hu.inv with ⟨z,rfl,h1⟩|⟨cs,l,rfl,rfl,h1⟩|h1
 .cases v with
  | any=>trivial
  | aO z' =>
   have:=jq (show vx z z' from h);subst this;exact hu
  | _=>exact (show False from h).elim
 .cases v with
  | any=>trivial
  | agg vs=>exact⟨l,rfl,Cx (show Fk ρ s t cs vs from h) h1⟩
  | _=>exact (show False from h).elim
 .cases u with
  | agg cs=>exact (show False from h1).elim
  | _=>exact (mA (show AV.ss ρ s t _ v by cases v<;>exact h) h1).We
theorem OH{ρ:List (Nat×Nat)}:∀ {us vs:List AV} {l:List Value},UQ ρ s t us vs->aN (CR c G s.ai w) us l->aN (CR c ⟨G.S,fU G s t ρ,pN G s ρ⟩ t.ai w) vs l
 | [],[],[],_,_=>trivial
 | u::us,v::vs,x::l,h,hu=>by
  simp only[UQ] at h;split at h
  .exact⟨ag,OH h hu.2⟩
  .exact⟨a1s h.1 hu.1,OH h.2 hu.2⟩
 | [],_::_,_,h,_=>h.elim
 | _::_,[],_,h,_=>h.elim
 | [],[],_::_,_,h=>h.elim
 | _::_,_::_,[],_,h=>h.elim
theorem WU{u v:FV}(h:Yy u v):u=v:=by
 unfold Yy at h;split at h
 .rename_i F hF;have:=FV.aT hF;rw[this,h]
 .exact h.elim
theorem a3H{ρ:List (Nat×Nat)}{x:Value}{u v:AV}(h:AV.fit ρ s t u v)(hu:VR c G s.ai w u x):VR c ⟨G.S,fU G s t ρ,pN G s ρ⟩ t.ai w v x:=by
 cases u with
 | agg us =>
  obtain⟨l,h1,h2⟩:=hu;cases v with
  | any=>trivial
  | agg vs=>exact⟨l,h1,Cx (show Fk ρ s t us vs from h) h2⟩
  | aO z =>
   obtain⟨τ,q⟩:=z;simp only[AV.fit] at h;split at h
   .rename_i y hy;have hr:dI w G.S ⟨τ,y⟩ x:=xQ (c:=c) (G:=G) (lk:=s.ai) (w:=w) (x:=x) hy ⟨l,h1,h2⟩;have h':y=q:=h;show dI w G.S ⟨τ,q⟩ x;rw[<-h'];exact hr
   .exact h.elim
  | _=>exact (show False from h).elim
 | gK us =>
  cases v with
  | any=>trivial
  | _=>exact (show False from h).elim
 | aO z =>
  cases v with
  | any=>trivial
  | aO z' =>
   have:=jq (show vx z z' from h);subst this;exact hu
  | _=>exact (show False from h).elim
 | cP f us =>
  obtain⟨l,h1,h2⟩:=hu;cases v with
  | any=>trivial
  | cP g vs =>
   simp only[AV.fit] at h;split at h
   .rename_i hb;have hb:=b0L hb;subst hb;exact⟨l,h1,OH h h2⟩
   .exact h.elim
  | _=>exact (show False from h).elim
 | gR z =>
  cases v with
  | any=>trivial
  | gR z' =>
   have:=WU (show Yy z z' from h);subst this;exact hu
  | _=>exact (show False from h).elim
 | any=>cases v<;>first|trivial|exact (show False from h).elim
 | dX=>cases v<;>first|trivial|exact (show False from h).elim
 | nil=>exact (mA (u := .nil) (show AV.ss ρ s t .nil v by cases v<;>exact h) (show C1 c G s.ai w .nil x from hu)).fE
 | cU z=>exact (mA (u := .cU z) (show AV.ss ρ s t (.cU z) v by cases v<;>exact h) (show C1 c G s.ai w (.cU z) x from hu)).fE
 | ptr i o=>exact (mA (u := .ptr i o) (show AV.ss ρ s t (.ptr i o) v by cases v<;>exact h) (show C1 c G s.ai w (.ptr i o) x from hu)).fE
 | row i=>exact (mA (u := .row i) (show AV.ss ρ s t (.row i) v by cases v<;>exact h) (show C1 c G s.ai w (.row i) x from hu)).fE
 | ep i k o=>exact (mA (u := .ep i k o) (show AV.ss ρ s t (.ep i k o) v by cases v<;>exact h) (show C1 c G s.ai w (.ep i k o) x from hu)).fE
 | fn f=>exact (mA (u := .fn f) (show AV.ss ρ s t (.fn f) v by cases v<;>exact h) (show C1 c G s.ai w (.fn f) x from hu)).fE
 | mp i=>exact (mA (u := .mp i) (show AV.ss ρ s t (.mp i) v by cases v<;>exact h) (show C1 c G s.ai w (.mp i) x from hu)).fE
 | aE i=>exact (mA (u := .aE i) (show AV.ss ρ s t (.aE i) v by cases v<;>exact h) (show C1 c G s.ai w (.aE i) x from hu)).fE
 | sub i k o z=>exact (mA (u := .sub i k o z) (show AV.ss ρ s t (.sub i k o z) v by cases v<;>exact h) (show C1 c G s.ai w (.sub i k o z) x from hu)).fE
 | eB i k o z=>exact (mA (u := .eB i k o z) (show AV.ss ρ s t (.eB i k o z) v by cases v<;>exact h) (show C1 c G s.ai w (.eB i k o z) x from hu)).fE
theorem zR{ρ:List (Nat×Nat)}:∀ {us vs:List AV},yi ρ s t us vs->us.length=vs.length/\∀ i,vs.getD i .any = .any\/AV.fit ρ s t (us.getD i .any) (vs.getD i .any)
 | [],[],_=>⟨rfl,λ i => .inl (by simp)⟩
 | u::us,v::vs,h=>by
  simp only[yi] at h;split at h
  .obtain⟨h1,h2⟩:=zR h;refine⟨by simp[h1],λ i=>?_⟩;cases i with
   | zero=>exact .inl rfl
   | succ i=>simpa using h2 i
  .obtain⟨h1,h2⟩:=zR h.2;refine⟨by simp[h1],λ i=>?_⟩;cases i with
   | zero=>exact .inr h.1
   | succ i=>simpa using h2 i
 | [],_::_,h=>h.elim
 | _::_,[],h=>h.elim
def a0B(aW:Ty)(ys:List aW.den)(τ:Ty)(xs:List τ.den):Prop:=∀ (w:World) (η:Value) (fp:List Nat),ij w η aW ys fp->ij w η τ xs fp
theorem Uj{aW:Ty}{ys:List aW.den}{τ:Ty}{xs:List τ.den}(h:Ui aW ys τ xs):a0B aW ys τ xs:=by
 unfold Ui at h;split at h
 .rename_i h1 h2;have h1:=b1n h1;have h2:=b1n h2;subst h1 h2;have h:=jq h;rw[TV.Wx] at h;cases h;intro w η fp hT;obtain⟨v,l,a,cap,q1,q2,q3,q4,q5,q6⟩:=hT;have e1:(List.map toO ys).length=ys.length:=b1F _;have e2:((show List J from ys).map toO).map (Ty.aK (.st .oExpr))=ys.map (Ty.aK (.st .expr)):=by
   rw[List.map_map];refine b5e λ x _=>?_;show aL.aK .oExpr (toO x)=aL.aK .expr x;rw[aL.bX,aL.bX];rfl
  refine⟨v,l,a,cap,q1,by rw[q2];exact congrArg (Value.slice a · cap) e1.symm,by exact e1 ▸ q3,q4,by exact e1 ▸ q5,?_⟩;rcases q6 with ⟨rfl,q7,q8⟩|⟨b,f,t,q7,q8,q9,q10,q11⟩
  .exact .inl ⟨rfl,q7,q8⟩
  .exact .inr ⟨b,f,t,q7,q8,q9,q10,e2 ▸ q11⟩
 .have h:=jq h;cases h;exact λ _ _ _ h=>h
def a3u(ρ:List (Nat×Nat))(s t:aj)(id:Nat):aB->Prop
 | .box bs=>∃ Z9,s.ai (di ρ id)=some (.box Z9)/\Fk ρ s t Z9 bs
 | .row e τ xs=>s.ai (di ρ id)=some (.row e τ xs)\/(s.ai (di ρ id)=none/\xs=[])
 | .aE τ xs=>(∃ aW ys,s.ai (di ρ id)=some (.aE aW ys)/\a0B aW ys τ xs)\/(s.ai (di ρ id)=none/\xs=[])
 | .map m=>s.ai (di ρ id)=some (.map m)
theorem Vu{a b:MV}(h:Xv a b):a=b:=by
 unfold Xv at h;split at h
 .rename_i f n hf;rw[MV.aT hf];simp only;rw[h.1,h.2]
 .exact h.elim
theorem kk{ρ:List (Nat×Nat)}:∀ {l:List (Nat×aB)},jv ρ s t l->∀ id o,(id,o)∈l->a3u ρ s t id o
 | [],_,id,o,h=>by simp at h
 | (k, .box bs)::r,h,id,o,hm=>by
  simp only[jv] at h;split at h
  .rename_i Z9 ha;rcases b0X.1 hm with e|hm
   .simp only[b0M] at e;obtain⟨rfl,rfl⟩:=e;exact⟨Z9,ha,h.1⟩
   .exact kk h.2 id o hm
  .exact h.elim
 | (k, .row e τ xs)::r,h,id,o,hm=>by
  simp only[jv] at h;split at h
  .rename_i e' aW ys ha;split at h
   .rename_i he;have he:=b0L he;subst he;rcases b0X.1 hm with e1|hm
    .simp only[b0M] at e1;obtain⟨rfl,rfl⟩:=e1;have:=jq h.1;cases this;exact .inl ha
    .exact kk h.2 id o hm
   .exact h.elim
  .rename_i ha;rcases b0X.1 hm with e1|hm
   .simp only[b0M] at e1;obtain⟨rfl,rfl⟩:=e1;exact .inr ⟨ha,h.1⟩
   .exact kk h.2 id o hm
  .exact h.elim
 | (k, .aE τ xs)::r,h,id,o,hm=>by
  simp only[jv] at h;split at h
  .rename_i aW ys ha;rcases b0X.1 hm with e1|hm
   .simp only[b0M] at e1;obtain⟨rfl,rfl⟩:=e1;exact .inl ⟨aW,ys,ha,Uj h.1⟩
   .exact kk h.2 id o hm
  .rename_i ha;rcases b0X.1 hm with e1|hm
   .simp only[b0M] at e1;obtain⟨rfl,rfl⟩:=e1;exact .inr ⟨ha,h.1⟩
   .exact kk h.2 id o hm
  .exact h.elim
 | (k, .map m)::r,h,id,o,hm=>by
  simp only[jv] at h;split at h
  .rename_i m' ha;rcases b0X.1 hm with e1|hm
   .simp only[b0M] at e1;obtain⟨rfl,rfl⟩:=e1;rw[Vu h.1] at ha;exact ha
   .exact kk h.2 id o hm
  .exact h.elim
theorem Cy{ρ:List (Nat×Nat)}(h:Inv c G s a w)(hf:Fits ρ s t):∃ G',Inv c G' t a w:=by
 unfold Fits at hf;split at hf;case h_2=>exact hf.elim
 case h_1 hb =>
  rw[b0U] at hb;obtain⟨hb,hb4⟩:=hb;rw[b0U] at hb;obtain⟨hb,OX⟩:=hb;simp only[b0U] at hb;obtain⟨hs,ho⟩:=hf;obtain⟨hlen,G9⟩:=zR hs;have jx:=kk ho;have eY:∀ id b,dw (fU G s t ρ id)=some b->∃ o,s.ai (di ρ id)=some o/\dw (G.η (di ρ id))=some b:=by
   intro id b hb;unfold fU at hb;split at hb
   .rename_i o ho;exact⟨o,ho,hb⟩
   .split at hb<;>cases hb
  refine⟨⟨G.S,fU G s t ρ,pN G s ρ⟩,?_⟩;exact {
   defers:=h.defers
   size:=h.size.trans hlen
   aM:=h.aM,iQ:=h.iQ,eh:=h.eh,sX:=h.sX,dE:=h.dE
   aC:=λ i=>by
    rcases G9 i with e|e
    .rw[show t.sl i = .any from e];trivial
    .exact a3H e (h.aC i)
   aJ:=λ id o aU=>by
    have hof:=jx id o (fC aU);cases o with
    | box bs =>
     obtain⟨Z9,h1,h2⟩:=hof;obtain⟨b,l,ty,k1,k2,k3⟩:=h.aJ _ _ h1;refine⟨b,l,ty,?_,k2,Cx h2 k3⟩;simp only[fU,h1];exact k1
    | row e τ xs =>
     rcases hof with h1|⟨h1,rfl⟩
     .obtain⟨l,k1,k2,k3⟩:=h.aJ _ _ h1;refine⟨l,?_,k2,k3⟩;simp only[fU,h1];exact k1
     .refine⟨[],?_,rfl,by simp⟩;simp only[fU,h1,pZ (show isRow (t.ai id)=true by rw[aU];rfl)];exact World.ownsRow_nil w 0 e τ.size
    | aE τ xs=>trivial
    | map m =>
     have h1:s.ai (di ρ id)=some (.map m):=hof;obtain⟨b,es,clock,k1,k2⟩:=h.aJ _ _ h1;refine⟨b,es,clock,?_,k2⟩;simp only[fU,h1];exact k1
   place:=λ id o b aU gT=>by
    obtain⟨o',h1,h2⟩:=eY id b gT;exact h.place _ _ b h1 h2
   apart:=λ id dt o o' b aU CM gT a8B=>by
    obtain⟨p,h1,h2⟩:=eY id b gT;obtain⟨p',h3,h4⟩:=eY dt b a8B;have:=h.apart _ _ _ _ b h1 h3 h2 h4;have AU:=xA (λ p:Nat×aB=>di ρ p.1) (As hb.2) (id,o) (fC aU) (dt,o') (fC CM) this;exact congrArg Prod.fst AU
   aR:=by
    have Ph:∀ id b,b∈pN G s ρ id->(∃ o,s.ai (di ρ id)=some o)/\b∈G.φ (di ρ id):=λ id b cv=>by
     unfold pN at cv;split at cv
     .rename_i o ho;exact⟨⟨o,ho⟩,cv⟩
     .simp at cv
    have oF:∀ id τ xs,t.ai id=some (.aE τ xs)->(∃ aW ys,s.ai (di ρ id)=some (.aE aW ys)/\a0B aW ys τ xs)\/(s.ai (di ρ id)=none/\xs=[]):=λ id τ xs aU=>jx id _ (fC aU);have fu:∀ id τ xs b,t.ai id=some (.aE τ xs)->b∈pN G s ρ id->∃ aW ys,s.ai (di ρ id)=some (.aE aW ys)/\b∈G.φ (di ρ id):=λ id τ xs b aU cv=>by
     obtain⟨⟨o,ho⟩,h2⟩:=Ph id b cv;rcases oF id τ xs aU with ⟨aW,ys,h1,_⟩|⟨h1,_⟩
     .exact⟨aW,ys,h1,h2⟩
     .rw[h1] at ho;cases ho
    exact {
     tr:=λ id τ xs aU=>by
      rcases oF id τ xs aU with ⟨aW,ys,h1,hle⟩|⟨h1,rfl⟩
      .simp only[fU,pN,h1];exact hle _ _ _ (h.aR.tr _ _ _ h1)
      .simp only[fU,pN,h1,show cS (t.ai id)=true by rw[aU];rfl];exact⟨_,[],none,0,rfl,rfl,by simp,by simp[maxLen],by simp, .inl ⟨rfl,⟨rfl,rfl⟩,rfl⟩⟩
     nd:=λ id τ xs aU=>by
      rcases oF id τ xs aU with ⟨aW,ys,h1,_⟩|⟨h1,_⟩
      .simp only[pN,h1];exact h.aR.nd _ _ _ h1
      .simp only[pN,h1];exact b1V
     pl:=λ id τ xs b aU cv=>by
      obtain⟨_,_,h1,h2⟩:=fu id τ xs b aU cv;obtain⟨q1,q2,q3,q4⟩:=h.aR.pl _ _ _ b h1 h2;refine⟨q1,q2,q3,λ i o hi rA=>?_⟩;obtain⟨o',k1,k2⟩:=eY i b rA;exact q4 _ o' k1 k2
     ap:=λ id dt τ aW xs cK b aU CM ui GU=>by
      obtain⟨_,_,h1,h2⟩:=fu id τ xs b aU ui;obtain⟨_,_,h3,h4⟩:=fu dt aW cK b CM GU;have:=h.aR.ap _ _ _ _ _ _ b h1 h3 h2 h4;have AU:=xA (λ p:Nat×aB=>di ρ p.1) (As hb.2) (id, .aE τ xs) (fC aU) (dt, .aE aW cK) (fC CM) this;exact congrArg Prod.fst AU }
   root:=λ id v hr ht=>by
    have hrg:=h.fP id v hr;match hl:t.ai id,ht with
    | some (.aE τ xs),_ =>
     have hq:=b1u.1 OX _ (fC hl);simp only[b2m,b0U,b4v,Nat.ble_eq] at hq;rcases hq with hq|hq|⟨BQ,uq⟩
     .omega
     .omega
     .have BQ:=Nat.eq_of_beq_eq_true BQ;obtain⟨l,h2⟩:=h.root id v hr uq;refine⟨l,?_⟩;show fU G s t ρ id=_;unfold fU;rw[BQ];match hs:s.ai id,uq with
      | some (.aE ..),_=>exact h2
   fP:=h.fP
   dq:=λ id v hr ht=>by
    have hrg:=h.eG id v hr;match hl:t.ai id,ht with
    | some (.box cs),_ =>
     have hq:=b1u.1 hb4 _ (fC hl);simp only[fI,b1J,b5b,b2m,b0U,b4v] at hq;rcases hq with hq|⟨BQ,uq⟩
     .omega
     .have BQ:=Nat.eq_of_beq_eq_true BQ;have h2:=h.dq id v hr uq;show fU G s t ρ id=_;unfold fU;rw[BQ];match hs:s.ai id,uq with
      | some (.box ..),_=>exact h2
   eG:=h.eG }
theorem fG(hE:bp c.P c.E)(gI:c.P.follows .mixedOrders=true):∀ (O:Code) (Λ:Nat->aP) (cur:Nat) (Q:Exit->aj->Prop) (G:Gh) (s:aj) (a:Act) (w:World),
  Inv c G s a w->ql c.E O Λ cur Q s->O.wp c.P (λ e a w=>∃ G s,Inv c G s a w/\Q e s) a w
 | .skip,Λ,cur,Q,G,s,a,w,h,hr=>wp_skip ⟨G,s,h,hr⟩
 | .region id ops draw,Λ,cur,Q,G,s,a,w,h,hr=>by
  cases draw with
  | true=>exact Oa hE gI (Q:=Q .normal) (λ G s a w hI hq=>⟨G,s,hI,hq⟩) h hr
  | false =>
   refine wp_region ?_;have:=xf hE (ops:=ops) (Q:=Q .normal) (Q':=λ e a w=>∃ G s,Inv c G s a w/\Q e s) (λ G s a w hI hq=>⟨G,s,hI,hq⟩) ops.toList 0 [] G s a w (by simp) h hr;rw[List.range_eq_range'];simpa using this
 | .seq x y,Λ,cur,Q,G,s,a,w,h,hr=>by
  simp only[ql] at hr;split at hr;case h_2 ι P μ fz dead ins aM os R5 ren sub hL =>
   obtain⟨hx,hy⟩:=hr;refine wp_seq (b4j (fG hE gI x Λ cur _ G s a w h hx) ?_);rintro e a' w' ⟨G',s',hI,hq⟩;cases e with
   | normal =>
    obtain⟨j,hPj,hF⟩:=hq;obtain⟨G3,h3⟩:=hI.CA fz;obtain⟨G4,h4⟩:=Cy h3 hF.ex.choose_spec;exact fG hE gI y (sub j) cur Q G4 _ a' w' h4 (hy j hPj)
   | _=>exact⟨G',s',hI,hq⟩
  refine wp_seq (b4j (fG hE gI x Λ cur _ G s a w h hr) ?_);rintro e a' w' ⟨G',s',hI,hq⟩;cases e with
  | normal=>exact fG hE gI y Λ cur Q G' s' a' w' hI hq
  | _=>exact⟨G',s',hI,hq⟩
 | .cond x p q,Λ,cur,Q,G,s,a,w,h,hr=>by
  simp only[ql] at hr;split at hr
  .rename_i t ht;have hx:=aY h x;rw[ht] at hx;have hx:[a.eval x]=[.bool t]:=hx;simp only[b0O,b1i] at hx;refine wp_cond hx ?_;cases t with
   | true=>exact fG hE gI p Λ cur Q G s a w h (hr.1 rfl)
   | false=>exact fG hE gI q Λ cur Q G s a w h (hr.2 rfl)
  .exact hr.elim
 | .block id x,Λ,cur,Q,G,s,a,w,h,hr=>by
  refine wp_block (b4j (fG hE gI x Λ id _ G s a w h hr) ?_);rintro e a' w' ⟨G',s',hI,hq⟩;cases e with
  | exit i =>
   simp only at hq;simp only[Exit.inBlock];split at hq
   .rename_i hi;rw[b0T (b0L hi)];exact⟨G',s',hI,hq⟩
   .rename_i hi;have:i≠id:=λ e=>by subst e;simp at hi
    rw[b0N this];exact⟨G',s',hI,hq⟩
  | _=>exact⟨G',s',hI,hq⟩
 | .loop x,Λ,cur,Q,G,s,a,w,h,hr=>by
  simp only[ql] at hr;split at hr
  .exact hr.elim
  .rename_i ι P μ fz dead ins aM os R5 ren sub hL;obtain⟨⟨i0,hP0,hF0⟩,a3R⟩:=hr;obtain⟨G1,h1⟩:=h.CA fz;obtain⟨G2,h2⟩:=Cy h1 hF0.ex.choose_spec;refine wp_loop_ghost (λ n a w=>∃ i G,P i/\μ i=n/\Inv c G (pw s (dead++Code.zy x) (ins i) aM (os i)) a w) (μ i0) ⟨i0,G2,hP0,rfl,h2⟩ ?_;rintro n a' w' ⟨i,G',hP,rfl,hI⟩;refine b4j (fG hE gI x (sub i) cur _ G' _ a' w' hI (a3R i hP)) ?_;rintro e a'' Rl ⟨G'',s'',a4V,hq⟩;cases e with
   | normal =>
    obtain⟨j,hPj,bz,hF⟩:=hq;obtain⟨G3,h3⟩:=a4V.CA fz;obtain⟨G4,h4⟩:=Cy h3 hF.ex.choose_spec;exact⟨μ j,bz,j,G4,hPj,rfl,h4⟩
   | _=>exact⟨G'',s'',a4V,hq⟩
 | .exit id,Λ,cur,Q,G,s,a,w,h,hr=>wp_exit ⟨G,s,h,hr⟩
 | .ret,Λ,cur,Q,G,s,a,w,h,hr=>wp_ret ⟨G,s,h,hr⟩
 | .label l,Λ,cur,Q,G,s,a,w,h,hr=>wp_label ⟨G,s,h,hr⟩
 | .rangeFunc ..,_,_,_,_,_,_,_,_,hr=>hr.elim
 | .scope ..,_,_,_,_,_,_,_,_,hr=>hr.elim
 | .goto ..,_,_,_,_,_,_,_,_,hr=>hr.elim
 | .refuse ..,_,_,_,_,_,_,_,_,hr=>hr.elim
end
theorem aN.replicate{α β:Type}{R:α->β->Prop}{a:α}{b:β}(vD:R a b):∀ n:Nat,aN R (List.replicate n a) (List.replicate n b)
 | 0=>trivial
 | n+1=>⟨vD,aN.replicate vD n⟩
theorem aN.nJ{α β:Type}{R:α->β->Prop}{Z9:List α}{bs:List β}(h:aN R Z9 bs){a:α}{b:β}(vD:R a b)(n:Nat):aN R (Z9++List.replicate n a) (bs++List.replicate n b) :=
 h.append (aN.replicate vD n)
theorem aN.getD{α β:Type}{R:α->β->Prop}{d:α}{e:β}(hde:R d e):∀ {Z9:List α} {bs:List β},aN R Z9 bs->∀ i:Nat,R (Z9.getD i d) (bs.getD i e)
 | [],[],_,i=>by simpa using hde
 | a::Z9,b::bs,h,0=>h.1
 | a::Z9,b::bs,h,i+1=>by simpa using aN.getD hde h.2 i
 | [],_::_,h,_=>h.elim
 | _::_,[],h,_=>h.elim
section
variable {P:Program} {E:Env}
def a0t(P:Program)(w:World)(S:Nat->Prop):Arg->Value->Prop
 | .own _,_=>True
 | .box _,_=>True
 | a,x=>tw P w S a x
theorem Mi{w:World}{S X:Nat->Prop}(hS:iZ w S)(hX:∀ b,X b->b<w.heap.size/\¬ S b){fn:Func}{args:List Arg}{bO:List Value}(ha:aN (a0t P w S) args bO)(LZ:(∀ b,¬ X b)\/∀ a∈args,a.HE=true) :
  Inv ⟨P,E,w,X,S,λ _=>none,λ _=>False,λ _=>none⟩ ⟨S,λ _=>undef,λ _=>[]⟩ (dK fn args) { tmps:=bO.toArray++Array.replicate (fn.ntmps - bO.toArray.size) undef,defers:=[] } w:=by
 have hlen:=ha.length;have G9:∀ v x,v∈args->a0t P w S v x->VR ⟨P,E,w,X,S,λ _=>none,λ _=>False,λ _=>none⟩ ⟨S,λ _=>undef,λ _=>[]⟩ (dK fn args).ai w (xe v) x:=by
  intro v x hm h;cases v with
  | val v=>exact h
  | ref v =>
   obtain⟨b,o,cs,h1,h2,h3,h4⟩:=h;exact⟨b,o,cs,h1, .inr ⟨h2,LZ.elim (λ q=>⟨q b,λ z=>z⟩) λ q=>absurd (q _ hm) (by simp[Arg.HE])⟩,h3,h4⟩
  | fn f=>exact h
  | cP v =>
   obtain⟨f,ej,l,h1,h2,h3⟩:=h;refine⟨f,ej,l,h1,h2,h3.imp λ u y _ hy=>?_⟩;cases u with
   | val v=>exact hy
   | ref v =>
    obtain⟨b,o,cs,k1,k2,k3,k4⟩:=hy;exact⟨b,o,cs,k1, .inr ⟨k2,LZ.elim (λ q=>⟨q b,λ z=>z⟩) λ q=>absurd (q _ hm) (by simp[Arg.HE])⟩,k3,k4⟩
   | fn f=>exact hy
   | cP v=>exact hy.elim
   | own v=>exact hy.elim
   | box k=>exact hy.elim
  | own v=>trivial
  | box k=>trivial
 exact {
  defers:=rfl
  size:=by simp[dK,hlen]
  aM:=bK.refl _ _
  iQ:=⟨λ b h=>(hX b h).1,λ g hg=>⟨(hS.2 g hg).1,λ q=>(hX g q).2 (hS.2 g hg).1,hS.1 g (hS.2 g hg).1,(hS.2 g hg).2⟩⟩
  eh:=λ b _ _=>b2F
  sX:=λ b hs=>hs
  dE:=hS.1
  aC:=λ i=>by
   have h1:aN (λ v x=>VR ⟨P,E,w,X,S,λ _=>none,λ _=>False,λ _=>none⟩ ⟨S,λ _=>undef,λ _=>[]⟩ (dK fn args).ai w v x) (args.map xe) bO:=aN.dG _ (ha.imp λ v x hm h=>G9 v x hm h);have h2:=aN.getD (d:=AV.any) (e:=undef) (show VR ⟨P,E,w,X,S,λ _=>none,λ _=>False,λ _=>none⟩ ⟨S,λ _=>undef,λ _=>[]⟩ (dK fn args).ai w .any undef from trivial) (h1.nJ (a:=AV.any) (b:=undef) (show VR ⟨P,E,w,X,S,λ _=>none,λ _=>False,λ _=>none⟩ ⟨S,λ _=>undef,λ _=>[]⟩ (dK fn args).ai w .any undef from trivial) (fn.ntmps - args.length)) i;have e1:(dK fn args).sl i=(args.map xe++List.replicate (fn.ntmps - args.length) AV.any).getD i AV.any:=rfl;have e2:(bO.toArray++Array.replicate (fn.ntmps - bO.toArray.size) undef).getD i undef=(bO++List.replicate (fn.ntmps - args.length) undef).getD i undef:=by
    rw[b1t,b0S,<-b3T];simp[hlen]
   rw[e1,e2];exact h2
  aJ:=λ id o h=>by cases h
  place:=λ id o b h=>by cases h
  apart:=λ id dt o o' b h=>by cases h
  aR:=⟨(λ id τ xs h=>by cases h),(λ id τ xs h=>by cases h),(λ id τ xs b h=>by cases h),(λ id dt τ aW xs cK b h=>by cases h)⟩
  root:=λ id v h=>by cases h
  fP:=λ id v h=>by cases h
  dq:=λ id v h=>by cases h
  eG:=λ id v h=>by cases h }
theorem X4{w:World}{S:Nat->Prop}(hS:iZ w S){fn:Func}{args:List Arg}{bO:List Value}(ha:aN (tw P w S) args bO) :
  Inv ⟨P,E,w,λ _=>False,S,λ _=>none,λ _=>False,λ _=>none⟩ ⟨S,λ _=>undef,λ _=>[]⟩ (dK fn args) { tmps:=bO.toArray++Array.replicate (fn.ntmps - bO.toArray.size) undef,defers:=[] } w :=
 Mi hS (λ _ h=>h.elim) (ha.imp λ v x _ h=>by
  cases v with
  | own v=>trivial
  | box k=>exact h.elim
  | _=>exact h) (.inl λ _ h=>h)
def lI(tmps:Array Value):ResultVar->Sem Value
 | .tmp t=>pure (tmps.getD t undef)
 | .cell a t=>do loadVar t (<-asAddr (tmps.getD a undef))
theorem nC(fn:Func)(tmps:Array Value):results fn tmps=(do
  let vs <-fn.results.mapM (lI tmps)
  pure (if h:vs.size=1 then vs[0] else .tuple vs)):=by
 unfold results;congr 1
theorem Js(hE:bp P E){c:Ctx}(Tk:c.P=P)(U1:c.E=E){G:Gh}{s:aj}{a:Act}{w:World}(h:Inv c G s a w):∀ {rs:List ResultVar} {Ts:List TypeId} {vs:List TV},La E s rs Ts=some vs ->
  ∃ xs,(rs.mapM (lI a.tmps)).run P w = .ok xs w/\aN (dI w (SX G s.ai)) vs xs
 | [],[],vs,hr=>by
  simp only[La,b0J] at hr;subst hr;exact⟨[],by simp,ag⟩
 | r::rs,T::Ts,vs,hr=>by
  simp only[La] at hr;split at hr
  .rename_i τ q hT;split at hr
   .rename_i x hx;split at hr
    .rename_i l hl;simp only[b0J] at hr;subst hr;obtain⟨xs,h1,h2⟩:=Js hE Tk U1 h hl;cases r with
     | tmp t =>
      refine⟨a.tmps.getD t undef::xs,by simp[b3e,lI,h1],vL h.aR h.aJ (Du λ _ _ h=>h) hx (aY h (.tmp t)),h2⟩
     | cell p t =>
      simp only at hx;split at hx
      .rename_i hb;have hb:=Nat.eq_of_beq_eq_true hb;subst hb;unfold deref at hx;split at hx
       .rename_i u hu;obtain⟨b,o,cs,k1,k2,k3,k4⟩:=oo h.aJ (Du λ _ _ h=>h) hu (aY h (.tmp p));have cE:=gY hE hT k2 k3;have k1':a.tmps.getD p undef = .pointer (some ⟨b,o,none⟩):=k1;refine⟨yO τ cs::xs,?_,vL h.aR h.aJ (Du λ _ _ h=>h) hx k4,h2⟩;simp only[Instr.loadAt,Instr.sureAddr,b1j,b1k,b1c] at cE;simp only[b3e,lI,k1',asAddr,b1j,b1k,b1c,cE,h1]
       .cases hx
      .cases hx
    .cases hr
   .cases hr
  .cases hr
 | [],_::_,_,hr=>by cases hr
 | _::_,[],_,hr=>by cases hr
theorem a2P{w:World}{S:Nat->Prop}:∀ {vs:List TV} {xs:List Value},aN (dI w S) vs xs->E0 w S vs (if h:xs.toArray.size=1 then xs.toArray[0] else .tuple xs.toArray)
 | [],[],_=>⟨[],by simp,ag⟩
 | [v],[x],h=>by simpa [E0] using h.1
 | v::u::r,x::y::z,h=>⟨x::y::z,by simp,h⟩
 | [],_::_,h=>h.elim
 | _::_,[],h=>h.elim
 | [_],_::_::_,h=>h.2.elim
 | _::_::_,[_],h=>h.2.elim
theorem RJ(hE:bp P E)(gI:P.follows .mixedOrders=true){f:FuncId}{fn:Func}{O:Code}(hf:P.funcs[f]?=some fn)(hb:fn.body=some O)(Λ:Nat->aP){args:List Arg}{post:List TV->Prop}
  (h:ql E O Λ 0 (ub E fn post) (dK fn args)):gC P f args post:=by
 intro w S bO hS ha;refine b4P hf hb ?_;have hinv:=X4 (P:=P) (E:=E) (fn:=fn) hS ha;refine b4j (fG (c:=⟨P,E,w,λ _=>False,S,λ _=>none,λ _=>False,λ _=>none⟩) hE gI O Λ 0 _ _ _ _ w hinv h) ?_;have fin:∀ (e:Exit) (a:Act) (w':World),(e = .normal\/e = .ret)->(∃ G s,Inv ⟨P,E,w,λ _=>False,S,λ _=>none,λ _=>False,λ _=>none⟩ G s a w'/\ub E fn post e s) ->
   a.defers=[]/\∃ v,(results fn a.tmps).run P w' = .ok v w'/\∃ x S' res,Ending.returned v = .returned x/\post res/\bK (λ _=>False) w w'/\(∀ b,b<w.heap.size->(S' b↔S b))/\(∀ b,S' b->b<w'.heap.size)/\E0 w' S' res x:=by
  rintro e a w' he ⟨G,s,hI,hp⟩;have IS:∃ vs,La E s fn.results.toList fn.resultTypes.toList=some vs/\post vs:=by
   rcases he with rfl|rfl <;>
   .simp only[ub] at hp;split at hp
    .rename_i vs xy;exact⟨vs,xy,hp⟩
    .exact hp.elim
  obtain⟨vs,xy,O8⟩:=IS;obtain⟨xs,h1,h2⟩:=Js hE (c:=⟨P,E,w,λ _=>False,S,λ _=>none,λ _=>False,λ _=>none⟩) rfl rfl hI xy;refine⟨hI.defers,(if h:xs.toArray.size=1 then xs.toArray[0] else .tuple xs.toArray),?_,_,SX G s.ai,vs,rfl,O8,hI.aM,λ b hb=>?_,λ b hb=>?_,a2P h2⟩
  .rw[nC,b2A];simp only[b1j,b4k,h1];rfl
  .constructor
   .rintro (hs|⟨id,e',τ,ys,aU,gT⟩|⟨id,τ,ys,aU,gT⟩)
    .exact (hI.eh b hb (λ q=>q)).1 hs
    .rcases (hI.place id _ b aU gT).1 with Tn|hx
     .have:w.heap.size<=b:=Tn;omega
     .exact hx.elim
    .rcases (hI.aR.pl id _ _ b aU gT).1 with Tn|hx
     .have:w.heap.size<=b:=Tn;omega
     .exact hx.elim
   .exact λ hs => .inl ((hI.eh b hb (λ q=>q)).2 hs)
  .rcases hb with hs|⟨id,e',τ,ys,aU,gT⟩|⟨id,τ,ys,aU,gT⟩
   .exact hI.dE b hs
   .exact (hI.place id _ b aU gT).2.2
   .exact (hI.aR.pl id _ _ b aU gT).2.2.1
 intro e a w' hq;cases e with
 | normal=>exact fin .normal a w' (.inl rfl) hq
 | ret=>exact fin .ret a w' (.inr rfl) hq
 | exit i=>obtain⟨_,_,_,hp⟩:=hq;exact hp.elim
 | goto l=>obtain⟨_,_,_,hp⟩:=hq;exact hp.elim
 | panic ch=>obtain⟨_,_,_,hp⟩:=hq;exact hp.elim
 | outgrown=>obtain⟨_,_,_,hp⟩:=hq;exact hp.elim
end
def qD(E:Env)(s:aj):List ResultVar->List TypeId->Option (List TV×List Nat)
 | [],[]=>some ([],[])
 | r::rs,T::Ts=>match ai E.ty T with
  | some (
      τ,_)=>match (match r with
    | .tmp t=>HF s.ai τ (s.eval (.tmp t))
    | .cell p t=>match Nat.beq t T with
     | true=>match pW s.ai τ (s.eval (.tmp p)) with
      | some u=>HF s.ai τ u
      | none=>none
     | false=>none) with
   | some (x,i)=>match qD E s rs Ts with
    | some (l,j)=>some (⟨τ,x⟩::l,i++j)
    | none=>none
   | none=>none
  | none=>none
 | _,_=>none
def yY(E:Env)(fn:Func)(post:List TV->Prop)(e:Exit)(s:aj):Prop :=
 match e with
 | .ret | .normal=>match qD E s fn.results.toList fn.resultTypes.toList with
  | some (vs,ids)=>match nodupB ids with
   | true=>post vs
   | false=>False
  | none=>False
 | _=>False
section
variable {P:Program} {E:Env}
theorem AD{c:Ctx}(hE:bp c.P c.E)(Tk:c.P=P)(U1:c.E=E){G:Gh}{s:aj}{a:Act}{w:World}(h:Inv c G s a w):∀ {rs:List ResultVar} {Ts:List TypeId} {vs:List TV} {ids:List Nat},qD E s rs Ts=some (vs,ids)->ids.Nodup ->
  ∃ xs fp,(rs.mapM (lI a.tmps)).run P w = .ok xs w/\HL w vs xs fp/\fp.Nodup/\∀ b∈fp,tB G s.ai ids b
 | [],[],vs,ids,hr,_=>by
  simp only[qD,b0J,b0M] at hr;obtain⟨rfl,rfl⟩:=hr;exact⟨[],[],by simp,rfl,b1V,by simp⟩
 | r::rs,T::Ts,vs,ids,hr,dh=>by
  simp only[qD] at hr;split at hr;case h_2=>cases hr
  case h_1 τ q hT =>
  split at hr;case h_2=>cases hr
  case h_1 x i hx =>
  split at hr;case h_2=>cases hr
  case h_1 l j hl =>
  simp only[b0J,b0M] at hr;obtain⟨rfl,rfl⟩:=hr;rw[b1e] at dh;obtain⟨n1,n2,n3⟩:=dh;obtain⟨xs,fp,h1,h2,h3,h4⟩:=AD hE Tk U1 h hl n2;cases r with
  | cell p t =>
   simp only at hx;split at hx;case h_2=>cases hx
   case h_1 hb =>
   have hb:=b0L hb;subst hb;split at hx;case h_2=>cases hx
   case h_1 u hu =>
   obtain⟨b,o,cs,q1,q2,q3,q4⟩:=oo h.aJ (λ _ _ h=>h) hu (aY h (.tmp p));subst Tk U1;have cE:=gY hE hT q2 q3;have q1':a.tmps.getD p undef = .pointer (some ⟨b,o,none⟩):=q1;obtain⟨f1,k1,k2,k3⟩:=qE h hx q4 n1;refine⟨yO τ cs::xs,f1++fp,?_,⟨f1,fp,rfl,k1,h2⟩,dR k2 h3 λ b hb cv=>h.hU (k3 b hb) (h4 b cv) (λ x hx y hy=>n3 x hx y hy),λ b hb=>?_⟩
   .simp only[Instr.loadAt,Instr.sureAddr,b1j,b1k,b1c] at cE;simp only[b3e,lI,q1',asAddr,b1j,b1k,b1c,cE,h1]
   .rcases b0K.1 hb with hb|hb
    .exact (k3 b hb).mono λ k hk=>by simp[hk]
    .exact (h4 b hb).mono λ k hk=>by simp[hk]
  | tmp t =>
   obtain⟨f1,k1,k2,k3⟩:=qE h hx (aY h (.tmp t)) n1;refine⟨a.tmps.getD t undef::xs,f1++fp,by simp[b3e,lI,h1],⟨f1,fp,rfl,k1,h2⟩,dR k2 h3 λ b hb cv=>h.hU (k3 b hb) (h4 b cv) (λ x hx y hy=>n3 x hx y hy),λ b hb=>?_⟩;rcases b0K.1 hb with hb|hb
   .exact (k3 b hb).mono λ k hk=>by simp[hk]
   .exact (h4 b hb).mono λ k hk=>by simp[hk]
 | [],_::_,_,_,hr,_=>by cases hr
 | _::_,[],_,_,hr,_=>by cases hr
theorem R1{w:World}:∀ {vs:List TV} {xs:List Value} {fp:List Nat},HL w vs xs fp->FY w vs (if h:xs.toArray.size=1 then xs.toArray[0] else .tuple xs.toArray) fp
 | [],[],fp,h=>⟨[],by simp,h⟩
 | [v],[x],fp,h=>by
  obtain⟨f1,f2,rfl,h1,h2⟩:=h;have h2:f2=[]:=h2;subst h2;simpa [FY] using h1
 | v::u::r,x::y::z,fp,h=>⟨x::y::z,by simp,h⟩
 | [],_::_,_,h=>h.elim
 | _::_,[],_,h=>h.elim
 | [_],_::_::_,_,h=>by obtain⟨_,_,_,_,h⟩:=h;exact h.elim
 | _::_::_,[_],_,h=>by obtain⟨_,_,_,_,h⟩:=h;exact h.elim
theorem kF:∀ {us:List TV} {id:Nat} {p:Nat×aB},p∈bP id us->id<=p.1/\p.1<id+us.length
 | [],id,p,h=>by cases h
 | u::us,id,p,h=>by
  rcases b0K.1 h with h|h
  .have:=L9 h;simp only[b0W];omega
  .have:=kF h;simp only[b0W];omega
theorem ov:∀ {us:List TV} {id:Nat},((bP id us).map (·.1)).Nodup
 | [],id=>b1V
 | u::us,id=>by
  simp only[bP,b2b];refine dR ?_ ov λ x hx uu=>?_
  .obtain⟨τ,y⟩:=u;cases τ<;>simp[fh]
  .obtain⟨p,hp,rfl⟩:=b0P.1 hx;obtain⟨q,hq,e⟩:=b0P.1 uu;have h1:=L9 hp;have h2:=kF hq;omega
theorem ZC(v:TV):v.cells.length<=100:=by
 obtain⟨τ,y⟩:=v;cases τ with
 | st s =>
  show (s.cells y).length<=100;rw[aL.fV];exact Ty.size_le (.st s)
 | _=>exact Nat.succ_le_of_lt (Nat.zero_lt_of_lt (by decide:0<100))
theorem xK{c:Ctx}{a:Act}{w:World}{S:Nat->Prop}(hR:∀ j,c.R j=none):∀ {Z9:List Arg} {xs:List Value} {fp:List Nat} {p:Nat} {G:Gh} {s:aj},Inv c G s a w->qG P w S Z9 xs fp->fp.Nodup->Fr c G s.ai w fp ->
  (∀ i x,xs[i]?=some x->a.tmps.getD (p+i) undef=x)->p+Z9.length<=s.aC.length->(∀ id o,s.ai id=some o->id<1000000+100 * p)->∃ G',Inv c G' (pQ p Z9 s) a w
 | [],xs,fp,p,G,s,h,_,_,_,_,_,_=>⟨G,h⟩
 | b::Z9,[],fp,p,G,s,h,hA,_,_,_,_,_=>hA.elim
 | b::Z9,x::xs,fp,p,G,s,h,hA,dh,hF,hx,hlen,aU=>by
  obtain⟨f1,f2,rfl,hb,hA⟩:=hA;rw[b1e] at dh;obtain⟨n1,n2,n3⟩:=dh;simp only[b0W] at hlen;have uu:∀ i y,xs[i]?=some y->a.tmps.getD (p+1+i) undef=y:=λ i y hi=>by
   have:=hx (i+1) y (by simpa using hi);rwa [show p+(i+1)=p+1+i by omega] at this
  have other:f1=[]->pQ p (b::Z9) s=pQ (p+1) Z9 s->∃ G',Inv c G' (pQ p (b::Z9) s) a w:=λ hf e=>by
   subst hf;rw[e];exact xK hR h hA n2 (λ q hq=>hF q (by simp[hq])) uu (by omega) λ id o ho=>by have:=aU id o ho;omega
  cases b with
  | own v =>
   have hO:xd w v x f1:=hb;obtain⟨G1,sV,l1,i1,e1,t1,WV⟩:=bh.Nr (id:=1000000+100 * p) h hO n1 (λ q hq=>hF q (by simp[hq]))
    (λ q hq=>by
     cases uq:s.ai q.1 with
     | none=>rfl
     | some o=>have h1:=aU _ o uq;have h2:=kF hq;omega) ov (λ j _=>hR j)
   have bW:aj.ai { aC:=s.aC.set p (iw (1000000+100 * p) v),aJ:=bP (1000000+100 * p) v.cells++s.aJ }=sV:=by
    funext i;rw[l1 i];exact nt _ _ i
   have hI:Inv c G1 { aC:=s.aC.set p (iw (1000000+100 * p) v),aJ:=bP (1000000+100 * p) v.cells++s.aJ } a w:=by
    unfold Inv;rw[bW,show aj.sl { aC:=s.aC.set p (iw (1000000+100 * p) v),aJ:=bP (1000000+100 * p) v.cells++s.aJ }=iY s.aC.length s.sl (some p) (iw (1000000+100 * p) v) from oB s.aC p _ _,
     show ({ aC:=s.aC.set p (iw (1000000+100 * p) v),aJ:=bP (1000000+100 * p) v.cells++s.aJ }:aj).aC.length=s.aC.length from by simp]
    exact { i1 with
     aC:=λ i=>by
      unfold iY;split
      .rename_i hi;obtain⟨e,_⟩:=hi;simp only[b0J] at e;subst e;rw[show a.tmps.getD p undef=x from hx 0 x rfl];exact t1.fE
      .exact i1.aC i }
   obtain⟨G2,h2⟩:=xK hR hI hA n2 (by
    rw[bW];exact WV f2 (λ q hq=>hF q (by simp[hq])) λ q hq Ve=>n3 q Ve q hq rfl) uu (by simp;omega) (λ id o ho=>by
     rw[bW,l1 id] at ho;unfold fT at ho;split at ho
     .rename_i o' cH;have h1:=kF (fC cH);have h2:=ZC v;simp only at h1;omega
     .have:=aU id o ho;omega)
   exact⟨G2,h2⟩
  | val v=>exact other hb.1 rfl
  | ref v=>exact other hb.1 rfl
  | fn v=>exact other hb.1 rfl
  | cP v=>exact other hb.1 rfl
  | box k=>exact other hb.1 rfl
theorem qG.tF{w:World}{S:Nat->Prop}:∀ {Z9:List Arg} {xs:List Value} {fp:List Nat},qG P w S Z9 xs fp->aN (a0t P w S) Z9 xs
 | [],[],_,_=>trivial
 | a::Z9,x::xs,_,h=>by
  obtain⟨f1,f2,_,h1,h2⟩:=h;refine⟨?_,qG.tF h2⟩;cases a with
  | own v=>trivial
  | box k=>exact h1.2.elim
  | _=>exact h1.2
 | [],_::_,_,h=>h.elim
 | _::_,[],_,h=>h.elim
theorem V8{w:World}{S:Nat->Prop}(hS:iZ w S){fn:Func}{args:List Arg}{bO:List Value}{fa:List Nat}(ha:qG P w S args bO fa)(LZ:fa=[]\/∀ a∈args,a.HE=true)(dh:fa.Nodup)(zX:∀ b∈fa,b<w.heap.size/\¬ S b) :
  ∃ G,Inv ⟨P,E,w,λ b=>b∈fa,S,λ _=>none,λ _=>False,λ _=>none⟩ G (Jz fn args) { tmps:=bO.toArray++Array.replicate (fn.ntmps - bO.toArray.size) undef,defers:=[] } w:=by
 have h0:=Mi (P:=P) (E:=E) (fn:=fn) hS (X:=λ b=>b∈fa) zX ha.tF (LZ.imp_left λ e b hb=>by rw[e] at hb;cases hb);have hlen:=ha.tF.length;refine xK (S:=S) (λ _=>rfl) h0 ha dh (λ b hb=>⟨.inr hb,(zX b hb).2,(zX b hb).1,λ i o h=>(by cases h),λ j τ xs h=>by cases h⟩) (λ i x hi=>?_) (by simp[dK]<;>omega) (λ id o h=>by cases h);rw[Nat.zero_add,Array.getD_eq_getD_getElem?,Array.getElem?_append_left (by simpa using (List.getElem?_eq_some_iff.1 hi).1)];simp[hi]
theorem Fl(hE:bp P E)(gI:P.follows .mixedOrders=true){f:FuncId}{fn:Func}{O:Code}(hf:P.funcs[f]?=some fn)(hb:fn.body=some O)(Λ:Nat->aP){args:List Arg}{res:List TV}{post:List TV->Prop}(O8:∀ vs,post vs->vs=res)
  (h:ql E O Λ 0 (yY E fn post) (Jz fn args)):tD P f args res:=by
 intro w S bO fa hS ha LZ px zX;refine b4P hf hb ?_;obtain⟨G0,hinv⟩:=V8 (P:=P) (E:=E) (fn:=fn) hS ha LZ px zX;refine b4j (fG (c:=⟨P,E,w,λ b=>b∈fa,S,λ _=>none,λ _=>False,λ _=>none⟩) hE gI O Λ 0 _ _ _ _ w hinv h) ?_;have fin:∀ (e:Exit) (a:Act) (w':World),(e = .normal\/e = .ret)->(∃ G s,Inv ⟨P,E,w,λ b=>b∈fa,S,λ _=>none,λ _=>False,λ _=>none⟩ G s a w'/\yY E fn post e s) ->
   a.defers=[]/\∃ v,(results fn a.tmps).run P w' = .ok v w'/\∃ x fp,Ending.returned v = .returned x/\bK (λ b=>b∈fa) w w'/\FY w' res x fp/\fp.Nodup/\∀ b∈fp,b∈fa\/(w.heap.size<=b/\b<w'.heap.size):=by
  rintro e a w' he ⟨G,s,hI,hp⟩;have IS:∃ vs ids,qD E s fn.results.toList fn.resultTypes.toList=some (vs,ids)/\ids.Nodup/\vs=res:=by
   rcases he with rfl|rfl <;>
   .simp only[yY] at hp;split at hp
    .rename_i vs ids xy;split at hp
     .rename_i hn;exact⟨vs,ids,xy,de hn,O8 vs hp⟩
     .exact hp.elim
    .exact hp.elim
  obtain⟨vs,ids,xy,hn,rfl⟩:=IS;obtain⟨xs,fp,h1,h2,h3,h4⟩:=AD (P:=P) (E:=E) (c:=⟨P,E,w,λ b=>b∈fa,S,λ _=>none,λ _=>False,λ _=>none⟩) hE rfl rfl hI xy hn;refine⟨hI.defers,(if h:xs.toArray.size=1 then xs.toArray[0] else .tuple xs.toArray),?_,_,fp,rfl,hI.aM,R1 h2,h3,λ b hb=>?_⟩
  .rw[nC,b2A];simp only[b1j,b4k,h1];rfl
  .obtain⟨id,hi,hq⟩:=h4 b hb;rcases hq with ⟨τ,ys,q1,q2⟩|⟨e',τ,ys,q1,q2⟩
   .obtain⟨p1,_,p3,_⟩:=hI.aR.pl id τ ys b q1 q2;exact p1.elim (λ q => .inr ⟨q,p3⟩) .inl
   .obtain⟨p1,_,p3⟩:=hI.place id _ b q1 q2;exact p1.elim (λ q => .inr ⟨q,p3⟩) .inl
 intro e a w' hq;cases e with
 | normal=>exact fin .normal a w' (.inl rfl) hq
 | ret=>exact fin .ret a w' (.inr rfl) hq
 | exit i=>obtain⟨_,_,_,hp⟩:=hq;exact hp.elim
 | goto l=>obtain⟨_,_,_,hp⟩:=hq;exact hp.elim
 | panic ch=>obtain⟨_,_,_,hp⟩:=hq;exact hp.elim
 | outgrown=>obtain⟨_,_,_,hp⟩:=hq;exact hp.elim
end
def ku:List CK->List TV->Nat->List AV
 | .d _::ks,v::ds,n => .aO v::ku ks ds n
 | .o _::ks,v::ds,n=>jA n v::ku ks ds (n+1)
 | .p j::ks,ds,n => .ptr (400000+j) 0::ku ks ds n
 | _,_,_=>[]
def kr:Nat->List (List CK)->List (List TV)->Nat->List (Nat×aB)
 | k,ks::sh,ds::bB,n=>(400000+k, .box (ku ks ds n))::kr (k+1) sh bB (n+(dA ks ds).length)
 | _,_,_,_=>[]
def jf:List (List CK)->List (List TV)->List TV
 | ks::sh,ds::bB=>dA ks ds++jf sh bB
 | _,_=>[]
def Sy:Arg->AV
 | .box k => .ptr (400000+k) 0
 | a=>xe a
def dQ(fn:Func)(args:List Arg)(sh:List (List CK))(bB:List (List TV)):aj :=
 { aC:=args.map Sy++List.replicate (fn.ntmps - args.length) .any,aJ:=kr 0 sh bB 1000000++bP 1000000 (jf sh bB) }
def idM(n:Nat):List (Nat×Nat):=(List.range n).map λ k=>(k,400000+k)
def Ed(E:Env)(fn:Func)(sh:List (List CK))(post:List TV->List (List TV)->Prop)(e:Exit)(s:aj):Prop :=
 match e with
 | .ret | .normal=>match qD E s fn.results.toList fn.resultTypes.toList with
  | some (vs,ids)=>match ic s.ai sh 0 (idM sh.length) with
   | some (bB,CT,m)=>match nodupB (ids++CT)&&Nat.beq m.length sh.length with
    | true=>post vs bB
    | false=>False
   | none=>False
  | none=>False
 | _=>False
theorem a0e:∀ (n:Nat) (k:Nat),ai (idM n) k=if k<n then some (400000+k) else none:=by
 intro n k;have key:∀ (l:List Nat),l.Nodup->ai (l.map λ k=>(k,400000+k)) k=if k∈l then some (400000+k) else none:=by
  intro l;induction l with
  | nil=>intro _;rfl
  | cons j l ih =>
   intro hn;simp only[b1q] at hn;rw[b1p,nu,ih hn.2];by_cases hk:k=j
   .subst hk;simp
   .simp[hk]
 rw[idM,key _ b3Q];simp
section
variable {P:Program} {E:Env}
theorem Ry{w:World}{S:Nat->Prop}{B:Nat->Nat}:∀ {sh:List (List CK)} {k:Nat} {bB:List (List TV)} {n:Nat} {fa:List Nat},fe w S B k sh bB fa ->
  ∃ xs,cY w ((jf sh bB).map TV.aK) xs fa/\(∀ u∈jf sh bB,u.τ.agg=false) /\
   ∀ p∈kr k sh bB n,∃ j cs l t,p=(400000+j, .box cs)/\k<=j/\j<k+sh.length/\w.heap[B j]?=some (.cells l.toArray t (0,0))/\l.length=cs.length /\
    ∀ (c:Ctx) (G:Gh) (lk:Nat->Option aB) (N:Nat),(∀ b,S b->G.S b)->(∀ j,j<N->G.η (400000+j) = .pointer (some ⟨B j,0,none⟩)/\fI (lk (400000+j))=true)->(∀ ks∈sh,∀ j,CK.p j∈ks->j<N) ->
     aN (C1 c G lk w) (ca n (jf sh bB)) xs->aN (C1 c G lk w) cs l
 | [],k,[],n,fa,h=>⟨[],⟨rfl,h⟩,by simp[jf],by simp[kr]⟩
 | ks::sh,k,ds::bB,n,fa,h=>by
  obtain⟨l,t,f1,f2,rfl,hw,hB,hbs⟩:=h;obtain⟨xs,q1,q2,q3⟩:=Ry (n:=n+(dA ks ds).length) hbs;obtain⟨o1,o2,o3⟩:=hB.sL;have hlen:∀ (us:List TV) (n:Nat),(ca n us).length=us.length:=λ us=>by
   induction us with
   | nil=>intro n;rfl
   | cons u us ih=>intro n;simp[ca,ih]
  have vE:∀ {ks:List CK} {ds:List TV} {l:List Value} {fp:List Nat} {n:Nat},ig w S B ks ds l fp->l.length=(ku ks ds n).length:=by
   intro ks;induction ks with
   | nil=>intro ds l fp n h;cases ds<;>cases l<;>first|rfl|cases h
   | cons k0 ks ih =>
    intro ds l fp n h;cases l with
    | nil=>cases k0<;>cases ds<;>cases h
    | cons x l =>
     cases k0 with
     | d τ =>
      cases ds with
      | nil=>cases h
      | cons v ds=>simp[ku,ih h.2 (n:=n)]
     | o τ =>
      cases ds with
      | nil=>cases h
      | cons v ds=>obtain⟨_,_,_,_,h2⟩:=h;simp[ku,ih h2 (n:=n+1)]
     | p j =>
      have h:x = .pointer (some ⟨B j,0,none⟩)/\ig w S B ks ds l fp:=by cases ds<;>exact h
      simp[ku,ih h.2 (n:=n)]
  have Kp:∀ (c:Ctx) (G:Gh) (lk:Nat->Option aB) (N:Nat),(∀ b,S b->G.S b)->(∀ j,j<N->G.η (400000+j) = .pointer (some ⟨B j,0,none⟩)/\fI (lk (400000+j))=true) ->
    ∀ {ks:List CK} {ds:List TV} {l:List Value} {fp:List Nat} {n:Nat},ig w S B ks ds l fp->(∀ j,CK.p j∈ks->j<N)->aN (C1 c G lk w) (ca n (dA ks ds)) (jM ks l)->aN (C1 c G lk w) (ku ks ds n) l:=by
   intro c G lk N hS hN ks;induction ks with
   | nil=>intro ds l fp n h _ _;cases ds<;>cases l<;>first|exact trivial|cases h
   | cons k0 ks ih =>
    intro ds l fp n h hp hc;cases l with
    | nil=>cases k0<;>cases ds<;>cases h
    | cons x l =>
     cases k0 with
     | d τ =>
      cases ds with
      | nil=>cases h
      | cons v ds =>
       obtain⟨⟨e,h1,h2⟩,h3⟩:=h;exact⟨⟨by rw[e];exact h1,Rd.aM hS (λ _ _=>rfl) _ h2⟩,ih h3 (λ j hj=>hp j (by simp[hj])) hc⟩
     | o τ =>
      cases ds with
      | nil=>cases h
      | cons v ds =>
       obtain⟨_,_,_,_,h2⟩:=h;exact⟨hc.1,ih h2 (λ j hj=>hp j (by simp[hj])) hc.2⟩
     | p j =>
      have h:x = .pointer (some ⟨B j,0,none⟩)/\ig w S B ks ds l fp:=by cases ds<;>exact h
      have hc:aN (C1 c G lk w) (ca n (dA ks ds)) (jM ks l):=by cases ds<;>exact hc
      obtain⟨g1,g2⟩:=hN j (hp j (by simp));have r:=ih h.2 (λ j hj=>hp j (by simp[hj])) hc;show aN _ (AV.ptr (400000+j) 0::ku ks ds n) (x::l);exact⟨⟨B j,g1,h.1,g2⟩,r⟩
  refine⟨jM ks l++xs,by rw[jf,b2b];exact o1.append q1,λ u hu=>(b0K.1 hu).elim (o2 u) (q2 u),λ p hp=>?_⟩;have Aa:∀ {c:Ctx} {G':Gh} {lk':Nat->Option aB},aN (C1 c G' lk' w) (ca n (jf (ks::sh) (ds::bB))) (jM ks l++xs)->aN (C1 c G' lk' w) (ca n (dA ks ds)) (jM ks l)/\aN (C1 c G' lk' w) (ca (n+(dA ks ds).length) (jf sh bB)) xs:=λ {c G' lk'} q=>by
   rw[jf,pL] at q;have hl:(ca n (dA ks ds)).length=(jM ks l).length:=by rw[<-o3];exact hlen _ _
   have h1:=q.take (ca n (dA ks ds)).length;have h2:=q.drop (ca n (dA ks ds)).length;rw[b2S,hl,b2S] at h1;rw[b3d,hl,b3d] at h2;exact⟨h1,h2⟩
  rcases b0X.1 hp with rfl|hp
  .exact⟨k,ku ks ds n,l,t,rfl,b1d _,by simp,hw,vE hB,λ c G lk N h1 h2 h3 h4=>Kp c G lk N h1 h2 hB (h3 ks (by simp)) (Aa h4).1⟩
  .obtain⟨j,cs,l',t',g1,g2,g3,g4,g5,g6⟩:=q3 p hp;exact⟨j,cs,l',t',g1,by omega,by simp;omega,g4,g5,λ c G lk N h1 h2 h3 h4=>g6 c G lk N h1 h2 (λ ks' hk=>h3 ks' (by simp[hk])) (Aa h4).2⟩
 | [],_,_::_,_,_,h=>h.elim
 | _::_,_,[],_,_,h=>h.elim
def Qk(sh:List (List CK)):Bool:=Nat.blt sh.length 1000&&sh.all λ ks=>ks.all λ c=>match c with
 | .p j=>Nat.blt j sh.length
 | _=>true
theorem Ql{sh:List (List CK)}(h:Qk sh=true):∀ ks∈sh,∀ j,CK.p j∈ks->j<sh.length:=λ ks hk j hj=>by
 unfold Qk at h;rw[Bool.and_eq_true] at h;obtain⟨_,h⟩:=h;rw[List.all_eq_true] at h;have h2:=h ks hk;rw[List.all_eq_true] at h2;exact Nat.le_of_ble_eq_true (h2 _ hj)
theorem ig.congr{w:World}{S:Nat->Prop}{B B':Nat->Nat}{N:Nat}(hB:∀ j,j<N->B j=B' j):∀ {ks:List CK} {ds:List TV} {l:List Value} {fp:List Nat},(∀ j,CK.p j∈ks->j<N)->ig w S B ks ds l fp->ig w S B' ks ds l fp:=by
 intro ks;induction ks with
 | nil=>intro ds l fp _ h;cases ds<;>cases l<;>exact h
 | cons k0 ks ih =>
  intro ds l fp hp h;cases l with
  | nil=>cases k0<;>cases ds<;>cases h
  | cons x l =>
   cases k0 with
   | d τ =>
    cases ds with
    | nil=>cases h
    | cons v ds=>exact⟨h.1,ih (λ j hj=>hp j (by simp[hj])) h.2⟩
   | o τ =>
    cases ds with
    | nil=>cases h
    | cons v ds =>
     obtain⟨f1,f2,e,h1,h2⟩:=h;exact⟨f1,f2,e,h1,ih (λ j hj=>hp j (by simp[hj])) h2⟩
   | p j =>
    have h:x = .pointer (some ⟨B j,0,none⟩)/\ig w S B ks ds l fp:=by cases ds<;>exact h
    have r:=ih (λ j hj=>hp j (by simp[hj])) h.2;have e:x = .pointer (some ⟨B' j,0,none⟩):=by rw[h.1,hB j (hp j (by simp))]
    cases ds<;>exact⟨e,r⟩
theorem fe.congr{w:World}{S:Nat->Prop}{B B':Nat->Nat}{N:Nat}(hB:∀ j,j<N->B j=B' j):∀ {sh:List (List CK)} {k:Nat} {bB:List (List TV)} {fa:List Nat},k+sh.length<=N->(∀ ks∈sh,∀ j,CK.p j∈ks->j<N)->fe w S B k sh bB fa->fe w S B' k sh bB fa
 | [],k,bB,fa,_,_,h=>by cases bB<;>exact h
 | ks::sh,k,[],fa,_,_,h=>h.elim
 | ks::sh,k,ds::bB,fa,hk,hp,h=>by
  obtain⟨l,t,f1,f2,e,h1,h2,h3⟩:=h;simp only[b0W] at hk;exact⟨l,t,f1,f2,e,by rw[<-hB k (by omega)];exact h1,h2.congr hB (hp ks (by simp)),fe.congr hB (by omega) (λ ks' eX=>hp ks' (by simp[eX])) h3⟩
theorem Fq:∀ {sh:List (List CK)} {k:Nat} {bB:List (List TV)} {n:Nat} {j:Nat},sh.length=bB.length->k<=j->j<k+sh.length->∃ cs,ai (kr k sh bB n) (400000+j)=some (.box cs)
 | [],k,bB,n,j,_,h1,h2=>by simp at h2;omega
 | ks::sh,k,[],n,j,hl,_,_=>by simp at hl
 | ks::sh,k,ds::bB,n,j,hl,h1,h2=>by
  rw[kr,nu];by_cases hj:j=k
  .subst hj;exact⟨_,b0T rfl⟩
  .rw[if_neg (by omega)];exact Fq (by simpa using hl) (by omega) (by simp at h2;omega)
theorem fe.len{w:World}{S:Nat->Prop}{B:Nat->Nat}:∀ {sh:List (List CK)} {k:Nat} {bB:List (List TV)} {fa:List Nat},fe w S B k sh bB fa->sh.length=bB.length
 | [],_,[],_,_=>rfl
 | [],_,_::_,_,h=>h.elim
 | _::_,_,[],_,h=>h.elim
 | ks::sh,k,ds::bB,fa,h=>by
  obtain⟨l,t,f1,f2,e,h1,h2,h3⟩:=h;simp[fe.len h3]
theorem Ug{w:World}{S:Nat->Prop}{B:Nat->Nat}{fn:Func}{args:List Arg}{bO:List Value}{sh:List (List CK)}{bB:List (List TV)}{fa:List Nat}(BR:Qk sh=true)(hS:iZ w S)(OQ:fe w S B 0 sh bB fa)(LW:fa.Nodup)
  (zX:∀ b∈fa,b<w.heap.size/\¬ S b/\∀ k,k<sh.length->B k≠b) (hB:∀ k,k<sh.length->B k<w.heap.size/\¬ S (B k)) (AU:∀ j k,j<sh.length->k<sh.length->B j=B k->j=k) (ha:aN (Lp P w S (BX sh.length B fa) B) args bO)
  (xv:∀ k,Arg.box k∈args->k<sh.length) :
  ∃ G,Inv ⟨P,E,w,BX sh.length B fa,S,λ _=>none,λ _=>False,λ id=>if 400000<=id/\id<400000+sh.length then some (B (id - 400000)) else none⟩ G (dQ fn args sh bB) { tmps:=bO.toArray++Array.replicate (fn.ntmps - bO.toArray.size) undef,defers:=[] } w:=by
 have hlen:=ha.length;let c1:Ctx:=⟨P,E,w,λ b=>b∈fa,S,λ _=>none,λ _=>False,λ _=>none⟩;have h0:bh c1 ⟨S,λ _=>undef,λ _=>[]⟩ (λ _ => .any) (dQ fn args sh bB).aC.length (λ _=>none) { tmps:=bO.toArray++Array.replicate (fn.ntmps - bO.toArray.size) undef,defers:=[] } w:={
  defers:=rfl
  size:=by simp[dQ,hlen]
  aM:=bK.refl _ _
  iQ:=⟨λ b h=>(zX b h).1,λ g hg=>⟨(hS.2 g hg).1,λ q=>(zX g q).2.1 (hS.2 g hg).1,hS.1 g (hS.2 g hg).1,(hS.2 g hg).2⟩⟩
  eh:=λ b _ _=>b2F
  sX:=λ b hs=>hs
  dE:=hS.1
  aC:=λ i=>trivial
  aJ:=λ id o h=>by cases h
  place:=λ id o b h=>by cases h
  apart:=λ id dt o o' b h=>by cases h
  aR:=⟨(λ id τ xs h=>by cases h),(λ id τ xs h=>by cases h),(λ id τ xs b h=>by cases h),(λ id dt τ aW xs cK b h=>by cases h)⟩
  root:=λ id v h=>by cases h
  fP:=λ id v h=>by cases h
  dq:=λ id v h=>by cases h
  eG:=λ id v h=>by cases h }
 obtain⟨xs,o1,o2,o3⟩:=Ry (n:=1000000) OQ;have b0E:sh.length<1000:=by
  unfold Qk at BR;rw[Bool.and_eq_true] at BR;exact Nat.le_of_ble_eq_true BR.1
 have ZR:Fr c1 ⟨S,λ _=>undef,λ _=>[]⟩ (λ _=>none) w fa:=λ b hb=>⟨.inr hb,(zX b hb).2.1,(zX b hb).1,(λ i o h=>by cases h),(λ j τ xs h=>by cases h)⟩;obtain⟨G1,sV,k1,k2,k3,k4,_⟩:=h0.xN (us:=jf sh bB) (cs:=xs) (id:=1000000) o2 o1 LW ZR (λ p hp=>rfl) ov (λ j _=>rfl);have O4:∀ i o,sV i=some o->1000000<=i/\cS (some o)=true:=λ i o ho=>by
  rw[k1 i] at ho;unfold fT at ho;split at ho
  .rename_i o' cH;simp only[b0J] at ho;subst ho;refine⟨(kF (fC cH)).1,?_⟩;have:∀ {us:List TV} {id:Nat} {p:Nat×aB},p∈bP id us->cS (some p.2)=true:=by
    intro us;induction us with
    | nil=>intro id p hp;cases hp
    | cons u us ih =>
     intro id p hp;rcases b0K.1 hp with hp|hp
     .obtain⟨τ,y⟩:=u;cases τ<;>simp[fh] at hp;subst hp;rfl
     .exact ih hp
   exact this (fC cH)
  .cases ho
 have Tg:∀ i o,sV i=some o->dw (G1.η i)=none:=λ i o ho=>by
  obtain⟨_,ht⟩:=O4 i o ho;match o,ht with
  | .aE τ ys,_ =>
   obtain⟨v,l,_,_,q,_⟩:=k2.aR.tr i τ ys ho;rw[q];rfl
 let G2:Gh:=⟨S,λ i=>if 400000<=i/\i<400000+sh.length then .pointer (some ⟨B (i - 400000),0,none⟩) else G1.η i,G1.φ⟩;have RX:∀ j,j<sh.length->G2.η (400000+j) = .pointer (some ⟨B j,0,none⟩):=λ j hj=>by
  show (if 400000<=400000+j/\400000+j<400000+sh.length then _ else _)=_;rw[b0T (by omega),b3j]
 have RW:∀ i,1000000<=i->G2.η i=G1.η i:=λ i hi=>b0N (by omega);have ZT:G1.S=S:=k3.S;have Ks:(dQ fn args sh bB).ai=λ i=>match ai (kr 0 sh bB 1000000) i with
   | some o=>some o
   | none=>sV i:=by
  funext i;show ai (kr 0 sh bB 1000000++bP 1000000 (jf sh bB)) i=_;rw[nt];unfold fT;cases ai (kr 0 sh bB 1000000) i with
  | some o=>rfl
  | none =>
   simp only;rw[k1 i];unfold fT;cases ai (bP 1000000 (jf sh bB)) i<;>rfl
 have a8E:∀ j,j<sh.length->∃ cs,(dQ fn args sh bB).ai (400000+j)=some (.box cs):=λ j hj=>by
  obtain⟨cs,q⟩:=Fq (n:=1000000) OQ.len (Nat.zero_le j) (by simpa using hj);exact⟨cs,by rw[Ks];simp only[q]⟩
 have uj:∀ i o,(dQ fn args sh bB).ai i=some o->(∃ j cs l t,i=400000+j/\j<sh.length/\o = .box cs/\w.heap[B j]?=some (.cells l.toArray t (0,0)) /\
   ∀ (c:Ctx) (G:Gh) (lk:Nat->Option aB),(∀ b,S b->G.S b)->(∀ j,j<sh.length->G.η (400000+j) = .pointer (some ⟨B j,0,none⟩)/\fI (lk (400000+j))=true)->aN (C1 c G lk w) (ca 1000000 (jf sh bB)) xs->aN (C1 c G lk w) cs l) \/
   (sV i=some o/\1000000<=i):=λ i o ho=>by
  rw[Ks] at ho;simp only at ho;cases hl:ai (kr 0 sh bB 1000000) i with
  | some o' =>
   rw[hl] at ho;simp only[Option.some.injEq] at ho;subst ho;obtain⟨j,cs,l,t,q1,_,q2,q3,_,q4⟩:=o3 _ (eZ hl);simp only[Prod.mk.injEq] at q1;obtain⟨rfl,rfl⟩:=q1;exact .inl ⟨j,cs,l,t,rfl,by simpa using q2,rfl,q3,λ c G lk h1 h2 h3=>q4 c G lk sh.length h1 h2 (Ql BR) h3⟩
  | none =>
   rw[hl] at ho;exact .inr ⟨ho,(O4 i o ho).1⟩
 have fi:∀ i,ew (sV i) ((dQ fn args sh bB).ai i):=λ i=>by
  cases hl:sV i with
  | none=>exact⟨(λ q=>by cases q),(λ e τ xs q=>by cases q),(λ q=>by cases q),λ q=>by cases q⟩
  | some o =>
   have:=(O4 i o hl).1;have hn:ai (kr 0 sh bB 1000000) i=none:=qw λ p hp e=>by
    obtain⟨j,cs,l,t,q1,_,q2,_⟩:=o3 p hp;rw[q1] at e;simp only at e;omega
   rw[Ks];simp only[hn,hl];exact ew.refl _
 have a3L:aN (C1 ⟨P,E,w,BX sh.length B fa,S,λ _=>none,λ _=>False,λ id=>if 400000<=id/\id<400000+sh.length then some (B (id - 400000)) else none⟩ G2 (dQ fn args sh bB).ai w) (ca 1000000 (jf sh bB)) xs:=by
  have:∀ {us:List TV} {n:Nat} {xs:List Value},1000000<=n->aN (C1 c1 G1 sV w) (ca n us) xs->aN (C1 ⟨P,E,w,BX sh.length B fa,S,λ _=>none,λ _=>False,λ id=>if 400000<=id/\id<400000+sh.length then some (B (id - 400000)) else none⟩ G2 (dQ fn args sh bB).ai w) (ca n us) xs:=by
   intro us;induction us with
   | nil=>intro n xs _ h;cases xs<;>exact h
   | cons u us ih =>
    intro n xs hn h;cases xs with
    | nil=>exact h.elim
    | cons x xs =>
     refine⟨?_,ih (by omega) h.2⟩;have h1:C1 c1 G1 sV w (jA n u) x:=h.1;obtain⟨τ,y⟩:=u;have aO:C1 c1 G1 sV w (.aO ⟨τ,y⟩) x->C1 ⟨P,E,w,BX sh.length B fa,S,λ _=>none,λ _=>False,λ id=>if 400000<=id/\id<400000+sh.length then some (B (id - 400000)) else none⟩ G2 (dQ fn args sh bB).ai w (.aO ⟨τ,y⟩) x:=λ q=>⟨q.1,Rd.aM (λ b hb=>by rw[ZT] at hb;exact hb) (λ _ _=>rfl) _ q.2⟩;cases τ with
     | slice τ =>
      obtain⟨g1,l,g2,g3⟩:=h1;exact⟨(fi n).2.2.1 g1,l,by rw[RW n hn];exact g2,g3⟩
     | mv τ=>exact trivial
     | _=>exact aO h1
  exact this (b1d _) k4
 have hN:∀ j,j<sh.length->G2.η (400000+j) = .pointer (some ⟨B j,0,none⟩)/\fI ((dQ fn args sh bB).ai (400000+j))=true:=λ j hj=>by
  obtain⟨cs,q⟩:=a8E j hj;exact⟨RX j hj,by rw[q];rfl⟩
 have Pb:∀ i τ xs,(dQ fn args sh bB).ai i=some (.aE τ xs)->sV i=some (.aE τ xs)/\1000000<=i:=λ i τ ys hi=>by
  rcases uj i _ hi with ⟨_,_,_,_,_,_,q,_⟩|q
  .cases q
  .exact q
 refine⟨G2,?_⟩;exact {
  defers:=rfl
  size:=by simp[dQ,hlen]
  aM:=bK.refl _ _
  iQ:=⟨λ b hb=>hb.elim (λ q=>(zX b q).1) λ ⟨k,hk,e⟩=>(by rw[e];exact (hB k hk).1),λ g hg=>⟨(hS.2 g hg).1,λ q=>q.elim (λ q=>(zX g q).2.1 (hS.2 g hg).1) λ ⟨k,hk,e⟩=>(hB k hk).2 (e ▸ (hS.2 g hg).1),hS.1 g (hS.2 g hg).1,(hS.2 g hg).2⟩⟩
  eh:=λ b _ _=>b2F
  sX:=λ b hs=>hs
  dE:=hS.1
  aC:=λ i=>by
   have G9:∀ v x,v∈args->Lp P w S (BX sh.length B fa) B v x->VR ⟨P,E,w,BX sh.length B fa,S,λ _=>none,λ _=>False,λ id=>if 400000<=id/\id<400000+sh.length then some (B (id - 400000)) else none⟩ G2 (dQ fn args sh bB).ai w (Sy v) x:=by
    intro v x hm h;cases v with
    | val v=>exact h
    | ref v =>
     obtain⟨b,o,cs,h1,h2,h3,h4,h5⟩:=h;exact⟨b,o,cs,h1, .inr ⟨h2,h3,λ z=>z⟩,h4,h5⟩
    | fn f=>exact h
    | cP v =>
     obtain⟨f,ej,l,h1,h2,h3⟩:=h;refine⟨f,ej,l,h1,h2,h3.imp λ u z _ hz=>?_⟩;cases u with
     | val v=>exact hz
     | ref v =>
      obtain⟨b,o,cs,h1,h2,h3,h4,h5⟩:=hz;exact⟨b,o,cs,h1, .inr ⟨h2,h3,λ z=>z⟩,h4,h5⟩
     | fn f=>exact hz
     | _=>exact hz.elim
    | own v=>exact h.elim
    | box k =>
     obtain⟨g1,g2⟩:=hN k (xv k hm);exact⟨B k,g1,h,g2⟩
   have h1:aN (λ v x=>VR ⟨P,E,w,BX sh.length B fa,S,λ _=>none,λ _=>False,λ id=>if 400000<=id/\id<400000+sh.length then some (B (id - 400000)) else none⟩ G2 (dQ fn args sh bB).ai w v x) (args.map Sy) bO:=aN.dG _ (ha.imp λ v x hm h=>G9 v x hm h);have h2:=aN.getD (d:=AV.any) (e:=undef) (show VR ⟨P,E,w,BX sh.length B fa,S,λ _=>none,λ _=>False,λ id=>if 400000<=id/\id<400000+sh.length then some (B (id - 400000)) else none⟩ G2 (dQ fn args sh bB).ai w .any undef from trivial) (h1.nJ (a:=AV.any) (b:=undef) (show VR ⟨P,E,w,BX sh.length B fa,S,λ _=>none,λ _=>False,λ id=>if 400000<=id/\id<400000+sh.length then some (B (id - 400000)) else none⟩ G2 (dQ fn args sh bB).ai w .any undef from trivial) (fn.ntmps - args.length)) i;have e1:(dQ fn args sh bB).sl i=(args.map Sy++List.replicate (fn.ntmps - args.length) AV.any).getD i AV.any:=rfl;have e2:(bO.toArray++Array.replicate (fn.ntmps - bO.toArray.size) undef).getD i undef=(bO++List.replicate (fn.ntmps - args.length) undef).getD i undef:=by
    rw[b1t,b0S,<-b3T];simp[hlen]
   rw[e1];show VR _ _ _ _ _ ((bO.toArray++Array.replicate (fn.ntmps - bO.toArray.size) undef).getD i undef);rw[e2];exact h2
  aJ:=λ i o ho=>by
   rcases uj i o ho with ⟨j,cs,l,t,rfl,hj,rfl,q3,q4⟩|⟨q1,q2⟩
   .exact⟨B j,l,t,RX j hj,q3,q4 _ G2 _ (λ b hb=>hb) hN a3L⟩
   .have:=(O4 i o q1).2;match o,this with
    | .aE τ ys,_=>trivial
  place:=λ i o b ho hb=>by
   rcases uj i o ho with ⟨j,cs,l,t,rfl,hj,rfl,q3,q4⟩|⟨q1,q2⟩
   .rw[RX j hj] at hb;simp only[dw,b0J] at hb;subst hb;exact⟨.inr (.inr ⟨j,hj,rfl⟩),(hB j hj).2,(hB j hj).1⟩
   .rw[RW i q2,Tg i o q1] at hb;cases hb
  apart:=λ i i' o o' b ho cH hb cv=>by
   rcases uj i o ho with ⟨j,cs,l,t,rfl,hj,rfl,q3,q4⟩|⟨q1,q2⟩
   .rcases uj i' o' cH with ⟨j',dC,l',t',rfl,CN,rfl,_,_⟩|⟨g1,g2⟩
    .rw[RX j hj] at hb;rw[RX j' CN] at cv;simp only[dw,b0J] at hb cv;rw[AU j j' hj CN (hb.trans cv.symm)]
    .rw[RW i' g2,Tg i' o' g1] at cv;cases cv
   .rw[RW i q2,Tg i o q1] at hb;cases hb
  aR:={
   tr:=λ i τ ys hi=>by
    obtain⟨q1,q2⟩:=Pb i τ ys hi;rw[RW i q2];exact k2.aR.tr i τ ys q1
   nd:=λ i τ ys hi=>k2.aR.nd i τ ys (Pb i τ ys hi).1
   pl:=λ i τ ys b hi hb=>by
    obtain⟨q1,q2⟩:=Pb i τ ys hi;obtain⟨p1,p2,p3,p4⟩:=k2.aR.pl i τ ys b q1 hb;have QR:b∈fa:=p1.elim (λ q=>absurd p3 (Nat.not_lt.2 q)) id;refine⟨.inr (.inl QR),(zX b QR).2.1,p3,λ i' o' cH e=>?_⟩;rcases uj i' o' cH with ⟨j,cs,l,t,rfl,hj,rfl,_,_⟩|⟨g1,g2⟩
    .rw[RX j hj] at e;simp only[dw,b0J] at e;exact (zX b QR).2.2 j hj e
    .rw[RW i' g2,Tg i' o' g1] at e;cases e
   ap:=λ i i' τ aW ys ys' b hi jw=>k2.aR.ap i i' τ aW ys ys' b (Pb i τ ys hi).1 (Pb i' aW ys' jw).1 }
  root:=λ id v h=>by cases h
  fP:=λ id v h=>by cases h
  dq:=λ id b hr ht=>by
   simp only at hr;split at hr
   .rename_i hc;simp only[b0J] at hr;show (if 400000<=id/\id<400000+sh.length then _ else _)=_;rw[b0T hc,hr]
   .cases hr
  eG:=λ id b hr=>by
   simp only at hr;split at hr
   .rename_i hc;exact hc.1
   .cases hr }
theorem S7(hE:bp P E)(gI:P.follows .mixedOrders=true){f:FuncId}{fn:Func}{O:Code}(hf:P.funcs[f]?=some fn)(hb:fn.body=some O)(Λ:Nat->aP){args:List Arg}{sh:List (List CK)}{bB:List (List TV)}{res:List TV}{dF:List (List TV)}{post:List TV->List (List TV)->Prop}
  (O8:∀ vs ds,post vs ds->vs=res/\ds=dF) (BR:Qk sh=true) (xv:∀ k,Arg.box k∈args->k<sh.length) (h:ql E O Λ 0 (Ed E fn sh post) (dQ fn args sh bB)):HK P f sh args bB res dF:=by
 intro w S B bO fa hS OQ LW zX hB AU ha;refine b4P hf hb ?_;obtain⟨G0,hinv⟩:=Ug (P:=P) (E:=E) (fn:=fn) BR hS OQ LW zX hB AU ha xv;generalize hc:(⟨P,E,w,BX sh.length B fa,S,λ _=>none,λ _=>False,λ id=>if 400000<=id/\id<400000+sh.length then some (B (id - 400000)) else none⟩:Ctx)=c at *
 have Tk:c.P=P:=by rw[<-hc]
 have U1:c.E=E:=by rw[<-hc]
 have hcw:c.w0=w:=by rw[<-hc]
 have hcX:c.X=BX sh.length B fa:=by rw[<-hc]
 have hcS:c.S0=S:=by rw[<-hc]
 have hcB:∀ j,j<sh.length->c.RB (400000+j)=some (B j):=λ j hj=>by
  rw[<-hc];show (if 400000<=400000+j/\400000+j<400000+sh.length then _ else _)=_;rw[b0T (by omega),b3j]
 have hE':bp c.P c.E:=by rw[Tk,U1];exact hE
 have cE:=fG (c:=c) hE' (by rw[Tk];exact gI) O Λ 0 (Ed E fn sh post) G0 (dQ fn args sh bB) _ w hinv (by rw[U1];exact h);rw[Tk] at cE;refine b4j cE ?_;have fin:∀ (e:Exit) (a:Act) (w':World),(e = .normal\/e = .ret)->(∃ G s,Inv c G s a w'/\Ed E fn sh post e s) ->
   a.defers=[]/\∃ v,(results fn a.tmps).run P w' = .ok v w'/\∃ x S' fp Gu,Ending.returned v = .returned x/\bK (BX sh.length B fa) w w'/\(∀ b,S b->S' b)/\(∀ b,S' b->b<w'.heap.size)/\(∀ b,b<w.heap.size->¬ BX sh.length B fa b->(S' b↔S b)) /\
    FY w' res x fp/\fe w' S' B 0 sh dF Gu/\(fp++Gu).Nodup/\(∀ b∈fp++Gu,(b∈fa\/(w.heap.size<=b/\b<w'.heap.size))/\¬ S' b/\∀ k,k<sh.length->B k≠b)/\∀ k,k<sh.length->¬ S' (B k):=by
  rintro e a w' he ⟨G,s,hI,hp⟩;have IS:∃ vs ids ds CT m,qD E s fn.results.toList fn.resultTypes.toList=some (vs,ids)/\ic s.ai sh 0 (idM sh.length)=some (ds,CT,m)/\(ids++CT).Nodup/\vs=res/\ds=dF:=by
   rcases he with rfl|rfl <;>
   .simp only[Ed] at hp;split at hp
    .rename_i vs ids xy;split at hp
     .rename_i ds CT m Kq;split at hp
      .rename_i hn;rw[b0U] at hn;obtain⟨q1,q2⟩:=O8 _ _ hp;exact⟨vs,ids,ds,CT,m,xy,Kq,de hn.1,q1,q2⟩
      .exact hp.elim
     .exact hp.elim
    .exact hp.elim
  obtain⟨vs,ids,ds,CT,m,xy,Kq,hn,rfl,rfl⟩:=IS;rw[b1e] at hn;obtain⟨n1,n2,n3⟩:=hn;obtain⟨xs,fp,h1,h2,h3,h4⟩:=AD (P:=P) (E:=E) (c:=c) hE' Tk U1 hI xy n1;obtain⟨x0,Th,Gu,a8r,a6s,a5d⟩:=rZ hI Kq n2;have YC:∀ k,k<sh.length->∃ cs,s.ai (400000+k)=some (.box cs)/\G.η (400000+k) = .pointer (some ⟨B k,0,none⟩)/\ai m k=some (400000+k):=λ k hk=>by
   obtain⟨id,cs,q1,q2⟩:=Th k (Nat.zero_le _) (by simpa using hk);have q3:=x0 k (400000+k) (by rw[a0e,if_pos hk]);rw[q3] at q1;simp only[Option.some.injEq] at q1;subst q1;exact⟨cs,q2,hI.dq _ _ (hcB k hk) (by rw[q2];rfl),q3⟩
  have hbo:∀ k,k<sh.length->ju G m k=B k:=λ k hk=>by
   obtain⟨cs,_,q2,q3⟩:=YC k hk;simp only[ju,q3,q2];rfl
  have a8s:=fe.congr (N:=sh.length) hbo (by omega) (Ql BR) (a8r m (jQ.refl m));have hJ:bK (BX sh.length B fa) w w':=by
   have:=hI.aM;rwa [hcX,hcw] at this
  have fu:∀ ids b,tB G s.ai ids b->(b∈fa\/(w.heap.size<=b/\b<w'.heap.size))/\¬ G.S b/\∀ k,k<sh.length->B k≠b:=λ ids b hb=>by
   obtain⟨id,hi,hq⟩:=hb;have hp:(c.w0.heap.size<=b\/c.X b)/\¬ G.S b/\b<w'.heap.size/\∀ k,k<sh.length->B k≠b:=by
    rcases hq with ⟨τ,ys,q1,q2⟩|⟨e',τ,ys,q1,q2⟩
    .obtain⟨p1,p2,p3,p4⟩:=hI.aR.pl id τ ys b q1 q2;refine⟨p1,p2,p3,λ k hk e=>?_⟩;obtain⟨cs,g1,g2,_⟩:=YC k hk;exact p4 _ _ g1 (by rw[g2,<-e];rfl)
    .obtain⟨p1,p2,p3⟩:=hI.place id _ b q1 q2;refine⟨p1,p2,p3,λ k hk e=>?_⟩;obtain⟨cs,g1,g2,_⟩:=YC k hk;have:=hI.apart id _ _ _ b q1 g1 q2 (by rw[g2,<-e];rfl);subst this;rw[q1] at g1;cases g1
   obtain⟨p1,p2,p3,p4⟩:=hp;refine⟨?_,p2,p4⟩;rw[hcw,hcX] at p1;rcases p1 with p1|p1|⟨k,hk,e⟩
   .exact .inr ⟨p1,p3⟩
   .exact .inl p1
   .exact absurd e.symm (p4 k hk)
  refine⟨hI.defers,(if h:xs.toArray.size=1 then xs.toArray[0] else .tuple xs.toArray),?_,_,G.S,fp,Gu,rfl,hJ,?_,hI.dE,?_,R1 h2,a8s,?_,?_,?_⟩
  .rw[nC,b2A];simp only[b1j,b4k,h1];rfl
  .intro b hb;exact hI.sX b (by rw[hcS];exact hb)
  .intro b hb hx;have:=hI.eh b (by rw[hcw];exact hb) (by rw[hcX];exact hx);rwa [hcS] at this
  .exact dR h3 a6s λ b hb cv=>hI.hU (h4 b hb) (a5d b cv) λ x hx y hy=>n3 x hx y hy
  .intro b hb;rcases b0K.1 hb with hb|hb
   .exact fu ids b (h4 b hb)
   .exact fu CT b (a5d b hb)
  .intro k hk;obtain⟨cs,q1,q2,_⟩:=YC k hk;exact (hI.place _ _ (B k) q1 (by rw[q2];rfl)).2.1
 intro e a w' hq;cases e with
 | normal=>exact fin .normal a w' (.inl rfl) hq
 | ret=>exact fin .ret a w' (.inr rfl) hq
 | exit i=>obtain⟨_,_,_,hp⟩:=hq;exact hp.elim
 | goto l=>obtain⟨_,_,_,hp⟩:=hq;exact hp.elim
 | panic ch=>obtain⟨_,_,_,hp⟩:=hq;exact hp.elim
 | outgrown=>obtain⟨_,_,_,hp⟩:=hq;exact hp.elim
def ng(fn:Func)(args:List Arg)(τ:Ty)(xs:List τ.den):aj:={ aC:=args.map xe++(.aE 50::List.replicate (fn.ntmps - (args.length+1)) .any),aJ:=[(50, .aE τ xs)] }
def Ei(τ:Ty)(post:List τ.den->Prop)(e:Exit)(s:aj):Prop :=
 match e with
 | .ret | .normal=>match s.ai 50 with
  | some (.aE aW ys)=>match TV.Z9 (.slice τ) ⟨.slice aW,ys⟩ with
   | some ys=>post ys
   | none=>False
  | _=>False
 | _=>False
theorem OK(hE:bp P E)(gI:P.follows .mixedOrders=true){f:FuncId}{fn:Func}{O:Code}(hf:P.funcs[f]?=some fn)(hb:fn.body=some O)(Λ:Nat->aP){args:List Arg}{τ:Ty}{xs ys:List τ.den}(hr:fn.results.size=0)(xv:∀ k,Arg.box k∉args)
  (Kt:args.length+1<=fn.ntmps) (h:ql E O Λ 0 (Ei τ λ zs=>zs=ys) (ng fn args τ xs)):DS P f args τ xs ys:=by
 intro w S bO v fp hS ha hO dh lZ;refine b4P hf hb ?_;have hlen:=ha.length;have h0:bh ⟨P,E,w,λ b=>b∈fp,S,λ _=>none,λ _=>False,λ _=>none⟩ ⟨S,λ _=>undef,λ _=>[]⟩ (λ _ => .any) (ng fn args τ xs).aC.length (λ _=>none) { tmps:=(bO++[v]).toArray++Array.replicate (fn.ntmps - (bO++[v]).toArray.size) undef,defers:=[] } w:={
  defers:=rfl
  size:=by simp[ng,hlen];omega
  aM:=bK.refl _ _
  iQ:=⟨λ b hb=>(lZ b hb).1,λ g hg=>⟨(hS.2 g hg).1,λ q=>(lZ g q).2 (hS.2 g hg).1,hS.1 g (hS.2 g hg).1,(hS.2 g hg).2⟩⟩
  eh:=λ b _ _=>b2F
  sX:=λ b h=>h
  dE:=hS.1
  aC:=λ _=>trivial
  aJ:=λ id o h=>by cases h
  place:=λ id o b h=>by cases h
  apart:=λ id dt o o' b h=>by cases h
  aR:=⟨(λ id τ xs h=>by cases h),(λ id τ xs h=>by cases h),(λ id τ xs b h=>by cases h),(λ id dt τ aW xs cK b h=>by cases h)⟩
  root:=λ id v h=>by cases h
  fP:=λ id v h=>by cases h
  dq:=λ id v h=>by cases h
  eG:=λ id v h=>by cases h }
 obtain⟨G1,sV,l1,i1,e1,t1,_⟩:=h0.Nr (id:=50) (v:=⟨.slice τ,xs⟩) hO dh (λ b hb=>⟨.inr hb,(lZ b hb).2,(lZ b hb).1,λ i o h=>(by cases h),λ j τ xs h=>by cases h⟩) (λ _ _=>rfl) ov (λ _ _=>rfl);have O4:(ng fn args τ xs).ai=sV:=by
  funext i;rw[l1 i];show ai [(50, .aE τ xs)] i=fT (bP 50 (TV.cells ⟨.slice τ,xs⟩)) (λ _=>none) i;unfold fT;show _=match ai [(50,aB.aE τ xs)] i with
   | some o=>some o
   | none=>none
  cases ai [(50,aB.aE τ xs)] i<;>rfl
 have hC1:C1 ⟨P,E,w,λ b=>b∈fp,S,λ _=>none,λ _=>False,λ _=>none⟩ G1 sV w (.aE 50) v:=t1;obtain⟨Z7,l,hl,xx⟩:=hC1;have b0C:sV 50=some (.aE τ xs):=by rw[<-O4];rfl
 let R:Nat->Option Value:=λ id=>if id=50 then some v else none
 have ZT:G1.S=S:=e1.S;have hinv:Inv ⟨P,E,w,λ b=>b∈fp,S,R,λ _=>False,λ _=>none⟩ G1 (ng fn args τ xs) { tmps:=(bO++[v]).toArray++Array.replicate (fn.ntmps - (bO++[v]).toArray.size) undef,defers:=[] } w:=by
  unfold Inv;rw[O4];exact {
   defers:=i1.defers,size:=i1.size,aM:=i1.aM,iQ:=i1.iQ,eh:=i1.eh,sX:=i1.sX,dE:=i1.dE
   aC:=λ i=>by
    have G9:∀ u z,u∈args->Lp P w S (λ b=>b∈fp) (λ _=>0) u z->VR ⟨P,E,w,λ b=>b∈fp,S,R,λ _=>False,λ _=>none⟩ G1 sV w (xe u) z:=by
     intro u z hm hz;cases u with
     | val u=>exact dI.mono (G:=⟨S,G1.η,G1.φ⟩) (G':=G1) hz (λ b hb=>by rw[ZT];exact hb) (λ _ _=>rfl)
     | ref u =>
      obtain⟨b,o,cs,h1,h2,h3,h4,h5⟩:=hz;exact⟨b,o,cs,h1, .inr ⟨h2,h3,λ z=>z⟩,h4,Rd.aM (λ b hb=>by rw[ZT];exact hb) (λ _ _=>rfl) _ h5⟩
     | fn f=>exact hz
     | cP u =>
      obtain⟨f,ej,l,h1,h2,h3⟩:=hz;refine⟨f,ej,l,h1,h2,h3.imp λ u z _ hz=>?_⟩;cases u with
      | val u=>exact dI.mono (G:=⟨S,G1.η,G1.φ⟩) (G':=G1) hz (λ b hb=>by rw[ZT];exact hb) (λ _ _=>rfl)
      | ref u =>
       obtain⟨b,o,cs,h1,h2,h3,h4,h5⟩:=hz;exact⟨b,o,cs,h1, .inr ⟨h2,h3,λ z=>z⟩,h4,Rd.aM (λ b hb=>by rw[ZT];exact hb) (λ _ _=>rfl) _ h5⟩
      | fn f=>exact hz
      | _=>exact hz.elim
     | own u=>exact hz.elim
     | box k=>exact absurd hm (xv k)
    have h1:aN (λ u z=>VR ⟨P,E,w,λ b=>b∈fp,S,R,λ _=>False,λ _=>none⟩ G1 sV w u z) (args.map xe) bO:=aN.dG _ (ha.imp λ u z hm hz=>G9 u z hm hz);have h2:aN (λ u z=>VR ⟨P,E,w,λ b=>b∈fp,S,R,λ _=>False,λ _=>none⟩ G1 sV w u z) (args.map xe++[.aE 50]) (bO++[v]):=h1.append ⟨⟨Z7,l,hl,xx⟩,ag⟩;have h3:=aN.getD (d:=AV.any) (e:=undef) (show VR ⟨P,E,w,λ b=>b∈fp,S,R,λ _=>False,λ _=>none⟩ G1 sV w .any undef from trivial) (h2.nJ (a:=AV.any) (b:=undef) (show VR ⟨P,E,w,λ b=>b∈fp,S,R,λ _=>False,λ _=>none⟩ G1 sV w .any undef from trivial) (fn.ntmps - (args.length+1))) i;have e1:(ng fn args τ xs).sl i=(args.map xe++[AV.aE 50]++List.replicate (fn.ntmps - (args.length+1)) AV.any).getD i AV.any:=by
     rw[b1o];rfl
    have e2:((bO++[v]).toArray++Array.replicate (fn.ntmps - (bO++[v]).toArray.size) undef).getD i undef=(bO++[v]++List.replicate (fn.ntmps - (args.length+1)) undef).getD i undef:=by
     rw[b1t,b0S,<-b3T];simp[hlen]
    rw[e1];show VR _ _ _ _ _ (((bO++[v]).toArray++Array.replicate (fn.ntmps - (bO++[v]).toArray.size) undef).getD i undef);rw[e2];exact h3
   aJ:=i1.aJ,place:=i1.place,apart:=i1.apart
   aR:=⟨i1.aR.tr,i1.aR.nd,i1.aR.pl,i1.aR.ap⟩
   root:=λ id v' hr ht=>by
    simp only[R] at hr;split at hr
    .rename_i e;simp only[b0J] at hr;subst e hr;exact⟨l,hl⟩
    .cases hr
   dq:=λ id b hr=>by cases hr
   eG:=λ id b hr=>by cases hr
   fP:=λ id v' hr=>by
    simp only[R] at hr;split at hr
    .omega
    .cases hr }
 refine b4j (fG (c:=⟨P,E,w,λ b=>b∈fp,S,R,λ _=>False,λ _=>none⟩) hE gI O Λ 0 _ _ _ _ w hinv h) ?_;have fin:∀ (e:Exit) (a:Act) (w':World),(e = .normal\/e = .ret)->(∃ G s,Inv ⟨P,E,w,λ b=>b∈fp,S,R,λ _=>False,λ _=>none⟩ G s a w'/\Ei τ (λ zs=>zs=ys) e s) ->
   a.defers=[]/\∃ u,(results fn a.tmps).run P w' = .ok u w'/\∃ r,Ending.returned u = .returned r/\bK (λ b=>b∈fp) w w'/\∃ Cz,xd w' ⟨.slice τ,ys⟩ v Cz/\Cz.Nodup/\∀ b∈Cz,b∈fp\/(w.heap.size<=b/\b<w'.heap.size):=by
  rintro e a w' he ⟨G,s,hI,hp⟩;have IS:s.ai 50=some (.aE τ ys):=by
   rcases he with rfl|rfl <;>
   .simp only[Ei] at hp;split at hp
    .rename_i aW zs hz;split at hp
     .rename_i zs' Kx;have:=TV.aT Kx;simp only[TV.mk.injEq,Ty.slice.injEq] at this;obtain⟨rfl,h2⟩:=this;have h2:=b3G h2;subst h2;rw[hz,hp]
     .exact hp.elim
    .exact hp.elim
  have RV:(results fn a.tmps).run P w' = .ok (.tuple #[]) w':=by
   have:fn.results = #[]:=b2M hr;rw[nC,this,b2A];simp
  obtain⟨l',mW⟩:=hI.root 50 v (by simp[R]) (by rw[IS];rfl);have rz:=Ow.XC (hI.aR.tr 50 τ ys IS) mW;refine⟨hI.defers,_,RV,_,rfl,hI.aM,G.φ 50,rz,hI.aR.nd 50 τ ys IS,λ b hb=>?_⟩;obtain⟨p1,_,p3,_⟩:=hI.aR.pl 50 τ ys b IS hb;exact p1.elim (λ q => .inr ⟨q,p3⟩) .inl
 intro e a w' hq;cases e with
 | normal=>exact fin .normal a w' (.inl rfl) hq
 | ret=>exact fin .ret a w' (.inr rfl) hq
 | exit i=>obtain⟨_,_,_,hp⟩:=hq;exact hp.elim
 | goto l=>obtain⟨_,_,_,hp⟩:=hq;exact hp.elim
 | panic ch=>obtain⟨_,_,_,hp⟩:=hq;exact hp.elim
 | outgrown=>obtain⟨_,_,_,hp⟩:=hq;exact hp.elim
end
def AF:List (Nat×Ty×Nat×Nat) :=
 [(2,(.int .i64),0,0),
  (3,(.int .i64),0,0),
  (4, .bool,0,0),
  (5,(.int .u8),0,0),
  (9, .str,0,0),
  (12,(.int .u64),0,0),
  (22,(.slice (.int .u8)),1,5),
  (25,(.st .sig),0,0),
  (26,(.slice (.st .expr)),40,28),
  (28,(.st .expr),0,0),
  (38,(.slice (.slice .bool)),24,50),
  (39,(.slice (.slice (.slice (.int .i64)))),24,55),
  (41,(.st .automaton),0,0),
  (50,(.slice .bool),1,4),
  (54,(.slice (.int .i64)),8,2),
  (55,(.slice (.slice (.int .i64))),24,54),
  (57, .ptr,0,0),
  (80,(.slice .str),16,9),
  (97,(.int .u64),0,0),
  (99,(.st .l00Src),0,0),
  (103,(.st .l01Gen),0,0),
  (115,(.st .word),0,0),
  (134,(.int .u64),0,0),
  (146,(.slice (.st .reached)),40,150),
  (148,(.st .arr2),0,0),
  (150,(.st .reached),0,0)]
def NI:List (Nat×Ty) :=
 [(57,(.st .l00Src)),(64,(.st .expr)),(79,(.st .automaton)),(101,(.st .l01Gen)),(158,(.int .u8)),(161,(.slice (.st .expr))),(212,(.int .i64))]
def Jb:List (Nat×Ty×Ty):=[(122, .str,(.int .i64)),(164, .str, .bool),(170,(.st .arr2), .bool)]
def Nx:List Nat:=[25]
abbrev nH:Nat:=2
abbrev HN:Nat:=4
abbrev zu:Nat:=22
abbrev ff:Nat:=28
abbrev Ro:Nat:=50
abbrev N1:Nat:=54
abbrev HO:Nat:=55
abbrev mu:Nat:=150
noncomputable abbrev prog:Program:=Tryz.prog
def tu(E:Env):((AF.all λ r=>oE prog { E with ty:=AF,TW:=NI,Ja:=Jb,cmp:=Nx } r.1 r.2.1 r.2.2.1 r.2.2.2)&&Jb.all λ r=>PG prog { E with ty:=AF,TW:=NI,Ja:=Jb,cmp:=Nx } r.1 r.2.1 r.2.2)=true:=by kernel_rfl
def nz:prog.follows .mixedOrders=true:=Checked.mixed Tryz.checked
def bm(f:Func):Code:=match f.body with
 | some c=>c
 | none => .skip
abbrev kA:Nat:=3
noncomputable abbrev ki:Func:=Tryz.f3
def oL:prog.funcs[kA]?=some ki:=Tryz.func3
def yb:ki.body=some (bm ki):=by kernel_rfl
abbrev Dn:Nat:=5
noncomputable abbrev tU:Func:=Tryz.f5
def AK:prog.funcs[Dn]?=some tU:=Tryz.func5
def H4:tU.body=some (bm tU):=by kernel_rfl
abbrev Bl:Nat:=6
noncomputable abbrev qT:Func:=Tryz.f6
def xW:prog.funcs[Bl]?=some qT:=Tryz.func6
def F9:qT.body=some (bm qT):=by kernel_rfl
abbrev uR:Nat:=7
noncomputable abbrev mS:Func:=Tryz.f7
def sj:prog.funcs[uR]?=some mS:=Tryz.func7
def BE:mS.body=some (bm mS):=by kernel_rfl
abbrev uM:Nat:=8
noncomputable abbrev mO:Func:=Tryz.f8
def sd:prog.funcs[uM]?=some mO:=Tryz.func8
def BA:mO.body=some (bm mO):=by kernel_rfl
abbrev Bk:Nat:=9
noncomputable abbrev qS:Func:=Tryz.f9
def xV:prog.funcs[Bk]?=some qS:=Tryz.func9
def F8:qS.body=some (bm qS):=by kernel_rfl
abbrev mE:Nat:=23
noncomputable abbrev Mz:Func:=Tryz.f23
def JX:prog.funcs[mE]?=some Mz:=Tryz.func23
abbrev sJ:Nat:=24
noncomputable abbrev lS:Func:=Tryz.f24
def qj:prog.funcs[sJ]?=some lS:=Tryz.func24
def zG:lS.body=some (bm lS):=by kernel_rfl
abbrev yV:Nat:=25
noncomputable abbrev pf:Func:=Tryz.f25
def vS:prog.funcs[yV]?=some pf:=Tryz.func25
def EA:pf.body=some (bm pf):=by kernel_rfl
abbrev uS:Nat:=26
noncomputable abbrev mT:Func:=Tryz.f26
def sn:prog.funcs[uS]?=some mT:=Tryz.func26
def BF:mT.body=some (bm mT):=by kernel_rfl
abbrev mH:Nat:=27
noncomputable abbrev rj:Func:=Tryz.f27
def kZ:prog.funcs[mH]?=some rj:=Tryz.func27
def tK:rj.body=some (bm rj):=by kernel_rfl
abbrev ot:Nat:=28
noncomputable abbrev tW:Func:=Tryz.f28
def my:prog.funcs[ot]?=some tW:=Tryz.func28
def H6:tW.body=some (bm tW):=by kernel_rfl
abbrev FF:Nat:=29
noncomputable abbrev xn:Func:=Tryz.f29
def Cc:prog.funcs[FF]?=some xn:=Tryz.func29
def J6:xn.body=some (bm xn):=by kernel_rfl
abbrev rY:Nat:=30
noncomputable abbrev rp:Func:=Tryz.f30
def x7:prog.funcs[rY]?=some rp:=Tryz.func30
def Gp:rp.body=some (bm rp):=by kernel_rfl
abbrev yT:Nat:=31
noncomputable abbrev pc:Func:=Tryz.f31
def vQ:prog.funcs[yT]?=some pc:=Tryz.func31
def Ex:pc.body=some (bm pc):=by kernel_rfl
abbrev uQ:Nat:=32
noncomputable abbrev mR:Func:=Tryz.f32
def si:prog.funcs[uQ]?=some mR:=Tryz.func32
def BD:mR.body=some (bm mR):=by kernel_rfl
abbrev uP:Nat:=33
noncomputable abbrev mQ:Func:=Tryz.f33
def sg:prog.funcs[uP]?=some mQ:=Tryz.func33
def BC:mQ.body=some (bm mQ):=by kernel_rfl
abbrev yQ:Nat:=34
noncomputable abbrev oZ:Func:=Tryz.f34
def vN:prog.funcs[yQ]?=some oZ:=Tryz.func34
def Et:oZ.body=some (bm oZ):=by kernel_rfl
abbrev Jd:Nat:=35
noncomputable abbrev zQ:Func:=Tryz.f35
def E4:prog.funcs[Jd]?=some zQ:=Tryz.func35
def Mu:zQ.body=some (bm zQ):=by kernel_rfl
abbrev FD:Nat:=36
noncomputable abbrev xk:Func:=Tryz.f36
def Ca:prog.funcs[FD]?=some xk:=Tryz.func36
def J3:xk.body=some (bm xk):=by kernel_rfl
abbrev Di:Nat:=37
noncomputable abbrev tP:Func:=Tryz.f37
def AG:prog.funcs[Di]?=some tP:=Tryz.func37
def HY:tP.body=some (bm tP):=by kernel_rfl
abbrev uL:Nat:=38
noncomputable abbrev mN:Func:=Tryz.f38
def sb:prog.funcs[uL]?=some mN:=Tryz.func38
def Bz:mN.body=some (bm mN):=by kernel_rfl
abbrev wS:Nat:=40
noncomputable abbrev nR:Func:=Tryz.f40
def tG:prog.funcs[wS]?=some nR:=Tryz.func40
def Cf:nR.body=some (bm nR):=by kernel_rfl
abbrev yR:Nat:=42
noncomputable abbrev o8:Func:=Tryz.f42
def vO:prog.funcs[yR]?=some o8:=Tryz.func42
def Ev:o8.body=some (bm o8):=by kernel_rfl
abbrev sH:Nat:=44
noncomputable abbrev lQ:Func:=Tryz.f44
def qh:prog.funcs[sH]?=some lQ:=Tryz.func44
def zD:lQ.body=some (bm lQ):=by kernel_rfl
abbrev rQ:Nat:=55
noncomputable abbrev qP:Func:=Tryz.f55
def kM:prog.funcs[rQ]?=some qP:=Tryz.func55
def F5:qP.body=some (bm qP):=by kernel_rfl
abbrev Dm:Nat:=56
noncomputable abbrev tT:Func:=Tryz.f56
def AJ:prog.funcs[Dm]?=some tT:=Tryz.func56
def H3:tT.body=some (bm tT):=by kernel_rfl
abbrev rP:Nat:=57
noncomputable abbrev qO:Func:=Tryz.f57
def kL:prog.funcs[rP]?=some qO:=Tryz.func57
def F4:qO.body=some (bm qO):=by kernel_rfl
abbrev pF:Nat:=58
noncomputable abbrev o7:Func:=Tryz.f58
def jS:prog.funcs[pF]?=some o7:=Tryz.func58
def Eu:o7.body=some (bm o7):=by kernel_rfl
abbrev mF:Nat:=59
noncomputable abbrev qW:Func:=Tryz.f59
def kU:prog.funcs[mF]?=some qW:=Tryz.func59
def Gc:qW.body=some (bm qW):=by kernel_rfl
abbrev sI:Nat:=60
noncomputable abbrev lR:Func:=Tryz.f60
def qi:prog.funcs[sI]?=some lR:=Tryz.func60
def zF:lR.body=some (bm lR):=by kernel_rfl
abbrev mc:Nat:=61
noncomputable abbrev lT:Func:=Tryz.f61
def gP:prog.funcs[mc]?=some lT:=Tryz.func61
def zH:lT.body=some (bm lT):=by kernel_rfl
abbrev Dq:Nat:=62
noncomputable abbrev tX:Func:=Tryz.f62
def AM:prog.funcs[Dq]?=some tX:=Tryz.func62
def H7:tX.body=some (bm tX):=by kernel_rfl
abbrev rS:Nat:=63
noncomputable abbrev qV:Func:=Tryz.f63
def kQ:prog.funcs[rS]?=some qV:=Tryz.func63
def Gb:qV.body=some (bm qV):=by kernel_rfl
abbrev pG:Nat:=64
noncomputable abbrev pe:Func:=Tryz.f64
def jT:prog.funcs[pG]?=some pe:=Tryz.func64
def Ez:pe.body=some (bm pe):=by kernel_rfl
abbrev rU:Nat:=65
noncomputable abbrev qZ:Func:=Tryz.f65
def kX:prog.funcs[rU]?=some qZ:=Tryz.func65
def Gf:qZ.body=some (bm qZ):=by kernel_rfl
abbrev rX:Nat:=66
noncomputable abbrev rn:Func:=Tryz.f66
def la:prog.funcs[rX]?=some rn:=Tryz.func66
def Gm:rn.body=some (bm rn):=by kernel_rfl
abbrev Br:Nat:=67
noncomputable abbrev rq:Func:=Tryz.f67
def x8:prog.funcs[Br]?=some rq:=Tryz.func67
def Gq:rq.body=some (bm rq):=by kernel_rfl
abbrev wT:Nat:=68
noncomputable abbrev nS:Func:=Tryz.f68
def tH:prog.funcs[wT]?=some nS:=Tryz.func68
def Cg:nS.body=some (bm nS):=by kernel_rfl
abbrev yP:Nat:=69
noncomputable abbrev oY:Func:=Tryz.f69
def vM:prog.funcs[yP]?=some oY:=Tryz.func69
def Es:oY.body=some (bm oY):=by kernel_rfl
abbrev Jc:Nat:=70
noncomputable abbrev zO:Func:=Tryz.f70
def E3:prog.funcs[Jc]?=some zO:=Tryz.func70
def Ms:zO.body=some (bm zO):=by kernel_rfl
abbrev Ap:Nat:=71
noncomputable abbrev zP:Func:=Tryz.f71
def pR:prog.funcs[Ap]?=some zP:=Tryz.func71
def Mt:zP.body=some (bm zP):=by kernel_rfl
abbrev uO:Nat:=72
noncomputable abbrev tS:Func:=Tryz.f72
def mw:prog.funcs[uO]?=some tS:=Tryz.func72
def H2:tS.body=some (bm tS):=by kernel_rfl
abbrev qx:Nat:=73
noncomputable abbrev kh:Func:=Tryz.f73
def oK:prog.funcs[qx]?=some kh:=Tryz.func73
def ya:kh.body=some (bm kh):=by kernel_rfl
abbrev uN:Nat:=74
noncomputable abbrev mP:Func:=Tryz.f74
def sf:prog.funcs[uN]?=some mP:=Tryz.func74
def BB:mP.body=some (bm mP):=by kernel_rfl
abbrev yU:Nat:=75
noncomputable abbrev pd:Func:=Tryz.f75
def vR:prog.funcs[yU]?=some pd:=Tryz.func75
def Ey:pd.body=some (bm pd):=by kernel_rfl
abbrev rW:Nat:=76
noncomputable abbrev rm:Func:=Tryz.f76
def k9:prog.funcs[rW]?=some rm:=Tryz.func76
def Gl:rm.body=some (bm rm):=by kernel_rfl
abbrev Bo:Nat:=77
noncomputable abbrev rh:Func:=Tryz.f77
def xY:prog.funcs[Bo]?=some rh:=Tryz.func77
def Gi:rh.body=some (bm rh):=by kernel_rfl
abbrev Dl:Nat:=78
noncomputable abbrev OE:Func:=Tryz.f78
def Mp:prog.funcs[Dl]?=some OE:=Tryz.func78
abbrev Bh:Nat:=79
noncomputable abbrev qN:Func:=Tryz.f79
def xT:prog.funcs[Bh]?=some qN:=Tryz.func79
def F3:qN.body=some (bm qN):=by kernel_rfl
abbrev FE:Nat:=80
noncomputable abbrev xm:Func:=Tryz.f80
def Cb:prog.funcs[FE]?=some xm:=Tryz.func80
def J5:xm.body=some (bm xm):=by kernel_rfl
abbrev xG:Nat:=85
noncomputable abbrev xl:Func:=Tryz.f85
def nL:prog.funcs[xG]?=some xl:=Tryz.func85
def J4:xl.body=some (bm xl):=by kernel_rfl
abbrev Bi:Nat:=86
noncomputable abbrev qQ:Func:=Tryz.f86
def xU:prog.funcs[Bi]?=some qQ:=Tryz.func86
def F6:qQ.body=some (bm qQ):=by kernel_rfl
abbrev sK:Nat:=87
noncomputable abbrev lU:Func:=Tryz.f87
def qk:prog.funcs[sK]?=some lU:=Tryz.func87
def zI:lU.body=some (bm lU):=by kernel_rfl
abbrev Dp:Nat:=88
noncomputable abbrev tV:Func:=Tryz.f88
def AL:prog.funcs[Dp]?=some tV:=Tryz.func88
def H5:tV.body=some (bm tV):=by kernel_rfl
abbrev Bn:Nat:=89
noncomputable abbrev qU:Func:=Tryz.f89
def xX:prog.funcs[Bn]?=some qU:=Tryz.func89
def Ga:qU.body=some (bm qU):=by kernel_rfl
abbrev kB:Nat:=90
noncomputable abbrev kj:Func:=Tryz.f90
def gD:prog.funcs[kB]?=some kj:=Tryz.func90
def yc:kj.body=some (bm kj):=by kernel_rfl
abbrev uU:Nat:=91
noncomputable abbrev OF:Func:=Tryz.f91
def Mq:prog.funcs[uU]?=some OF:=Tryz.func91
abbrev uT:Nat:=92
noncomputable abbrev tY:Func:=Tryz.f92
def mz:prog.funcs[uT]?=some tY:=Tryz.func92
def H8:tY.body=some (bm tY):=by kernel_rfl
abbrev Bq:Nat:=93
noncomputable abbrev rl:Func:=Tryz.f93
def x6:prog.funcs[Bq]?=some rl:=Tryz.func93
def Gk:rl.body=some (bm rl):=by kernel_rfl
abbrev Bp:Nat:=94
noncomputable abbrev ri:Func:=Tryz.f94
def xZ:prog.funcs[Bp]?=some ri:=Tryz.func94
def Gj:ri.body=some (bm ri):=by kernel_rfl
abbrev yW:Nat:=95
noncomputable abbrev ph:Func:=Tryz.f95
def vT:prog.funcs[yW]?=some ph:=Tryz.func95
def EC:ph.body=some (bm ph):=by kernel_rfl
abbrev Dr:Nat:=96
noncomputable abbrev tZ:Func:=Tryz.f96
def AN:prog.funcs[Dr]?=some tZ:=Tryz.func96
def H9:tZ.body=some (bm tZ):=by kernel_rfl
abbrev Bj:Nat:=97
noncomputable abbrev Mx:Func:=Tryz.f97
def JV:prog.funcs[Bj]?=some Mx:=Tryz.func97
abbrev rR:Nat:=98
noncomputable abbrev qR:Func:=Tryz.f98
def kP:prog.funcs[rR]?=some qR:=Tryz.func98
def F7:qR.body=some (bm qR):=by kernel_rfl
abbrev yS:Nat:=99
noncomputable abbrev pb:Func:=Tryz.f99
def vP:prog.funcs[yS]?=some pb:=Tryz.func99
def Ew:pb.body=some (bm pb):=by kernel_rfl
abbrev Dj:Nat:=100
noncomputable abbrev tQ:Func:=Tryz.f100
def AH:prog.funcs[Dj]?=some tQ:=Tryz.func100
def HZ:tQ.body=some (bm tQ):=by kernel_rfl
abbrev ma:Nat:=101
noncomputable abbrev lP:Func:=Tryz.f101
def gO:prog.funcs[ma]?=some lP:=Tryz.func101
def zC:lP.body=some (bm lP):=by kernel_rfl
abbrev FC:Nat:=102
noncomputable abbrev xj:Func:=Tryz.f102
def B9:prog.funcs[FC]?=some xj:=Tryz.func102
def J2:xj.body=some (bm xj):=by kernel_rfl
abbrev Bg:Nat:=103
noncomputable abbrev qM:Func:=Tryz.f103
def xS:prog.funcs[Bg]?=some qM:=Tryz.func103
def F2:qM.body=some (bm qM):=by kernel_rfl
abbrev oq:Nat:=104
noncomputable abbrev nQ:Func:=Tryz.f104
def jb:prog.funcs[oq]?=some nQ:=Tryz.func104
def Ce:nQ.body=some (bm nQ):=by kernel_rfl
abbrev Ds:Nat:=105
noncomputable abbrev ua:Func:=Tryz.f105
def AO:prog.funcs[Ds]?=some ua:=Tryz.func105
def Ia:ua.body=some (bm ua):=by kernel_rfl
abbrev pH:Nat:=106
noncomputable abbrev pg:Func:=Tryz.f106
def jU:prog.funcs[pH]?=some pg:=Tryz.func106
def EB:pg.body=some (bm pg):=by kernel_rfl
abbrev rT:Nat:=107
noncomputable abbrev qX:Func:=Tryz.f107
def kV:prog.funcs[rT]?=some qX:=Tryz.func107
def Gd:qX.body=some (bm qX):=by kernel_rfl
abbrev pE:Nat:=114
noncomputable abbrev oX:Func:=Tryz.f114
def jR:prog.funcs[pE]?=some oX:=Tryz.func114
def Er:oX.body=some (bm oX):=by kernel_rfl
abbrev FG:Nat:=117
noncomputable abbrev xo:Func:=Tryz.f117
def Cd:prog.funcs[FG]?=some xo:=Tryz.func117
def J7:xo.body=some (bm xo):=by kernel_rfl
abbrev Dk:Nat:=122
noncomputable abbrev tR:Func:=Tryz.f122
def AI:prog.funcs[Dk]?=some tR:=Tryz.func122
def H0:tR.body=some (bm tR):=by kernel_rfl
abbrev rV:Nat:=123
noncomputable abbrev rf:Func:=Tryz.f123
def kY:prog.funcs[rV]?=some rf:=Tryz.func123
def Gg:rf.body=some (bm rf):=by kernel_rfl
abbrev mG:Nat:=130
noncomputable abbrev qY:Func:=Tryz.f130
def kW:prog.funcs[mG]?=some qY:=Tryz.func130
def Ge:qY.body=some (bm qY):=by kernel_rfl
abbrev Bm:Nat:=143
noncomputable abbrev My:Func:=Tryz.f143
def JW:prog.funcs[Bm]?=some My:=Tryz.func143
open Go.RowKit Go.Proofs
set_option maxRecDepth 100000 in
def WX(a:Option Addr)(n m:Nat)(w:World) :
  Calls prog mE #[.slice a n m] w λ e w'=>e = .returned (.pointer (some ⟨w.heap.size,0,none⟩))/\w'=w.alloc (.cells #[.slice a n m, .int .i64 0, .int .u64 0] 99):=by
 go_enter Tryz.func23,Tryz.ntmps23;go_wp2;go_ret;exact⟨rfl,rfl⟩
def NH:Nat->List Arg->Option (Vc×Ye):=λ f zs=>match Nat.beq f mE with
 | true=>match zs with
  | [.val ⟨.slice (.int .u8),O⟩]=>some (.none, .box [⟨.slice (.int .u8),O⟩,⟨.int .i64,(0:Int)⟩,⟨.int .u64,(0:Int)⟩])
  | _=>none
 | false=>none
def ZN(O:List Int):Wp prog mE [.val ⟨.slice (.int .u8),O⟩] (.box [⟨.slice (.int .u8),O⟩,⟨.int .i64,(0:Int)⟩,⟨.int .u64,(0:Int)⟩]):=by
 intro w S T bO hS _ ha;match bO,ha with
 | [v],ha =>
  have h1:Rd w S (TV.aK ⟨.slice (.int .u8),O⟩) [v]:=ha.1;obtain⟨a,c,e,_⟩:=id h1;simp only[List.cons.injEq,and_true] at e;rw[show (List.map (Ty.int IntKind.u8).aK O).length=O.length from List.length_map _] at e;subst e;refine (WX a _ c w).mono ?_;rintro e w' ⟨rfl,rfl⟩;have hk:=fg w (.cells #[.slice a O.length c, .int .i64 0, .int .u64 0] 99);refine⟨_,S,rfl,hk,λ _ _=>Iff.rfl,λ k eX=>Nat.lt_of_lt_of_le (hS.1 k eX) hk.size,λ b hb=>?_,w.heap.size,[_, .int .i64 0, .int .u64 0],99,rfl,by simpa using heap_alloc_new w _,?_⟩
  .simp only[dw,b0J] at hb;subst hb;exact⟨b1d _,by simp,λ q=>b3k _ (hS.1 _ q)⟩
  refine⟨⟨rfl,Rd.aM (λ _ h=>h) (λ b hb=>hk.block b (hS.1 b hb) λ h=>h) _ h1⟩,⟨rfl,?_⟩,⟨rfl,?_⟩,ag⟩
  .exact⟨rfl,by decide,by decide⟩
  .exact⟨rfl,by decide,by decide⟩
def PR:∀ f args pre cells,NH f args=some (pre,cells)->pre.ok->jt prog f/\Wp prog f args cells:=by
 intro f args pre cells h _;unfold NH at h;split at h
 .rename_i hf;have hf:=b0L hf;subst hf;split at h
  .simp only[b0J,b0M] at h;obtain⟨rfl,rfl⟩:=h;exact⟨⟨_,JX,rfl,by decide⟩,ZN _⟩
  .cases h
 .cases h
end Go.Proofs.YtofnjfpeimhifaaGreatDoor

namespace Go.Proofs.YtofnjfpeimhifaaGreatDoor
abbrev bG{α:Type}[SizeOf α](x:α):Nat:=SizeOf.sizeOf x
def cF{α:Type}[SizeOf α](d:α):∀ (xs:List α) (i:Nat),i<xs.length->bG (xs.getD i d)<bG xs
 | [],i,h=>by simp at h
 | x::xs,0,h=>by simp[bG];omega
 | x::xs,i+1,h=>by
  have:=cF d xs i (by simpa using h);simp[bG] at this ⊢;omega
def gf(e:J):bG e.U<bG e:=by
 cases e;simp[bG];omega
inductive PK where
 | v (τ:Ty)
 | r (τ:Ty)
 | f
 | c (ps:List Ty) (r:Ty)
 | o (τ:Ty)
 | b (k:Nat)
@[reducible] def KT:List PK->Type 1
 | []=>ULift (Vc×List TV)
 | .v τ::l=>τ.den->KT l
 | .r τ::l=>τ.den->KT l
 | .f::l=>FuncId->KT l
 | .c ps r::l=>FN ps r->KT l
 | .o τ::l=>τ.den->KT l
 | .b _::l=>KT l
def cX:(l:List PK)->KT l->List Arg->Option (Vc×List TV)
 | [],x,[]=>some x.down
 | .v τ::l,g, .val a::zs=>match a.Z9 τ with
  | some x=>cX l (g x) zs
  | none=>none
 | .r τ::l,g, .ref a::zs=>match a.Z9 τ with
  | some x=>cX l (g x) zs
  | none=>none
 | .f::l,g, .fn a::zs=>cX l (g a) zs
 | .c ps r::l,g, .cP a::zs=>match a.Z9 ps r with
  | some x=>cX l (g x) zs
  | none=>none
 | .o τ::l,g, .own a::zs=>match a.Z9 τ with
  | some x=>cX l (g x) zs
  | none=>none
 | _,_,_=>none
def Up(P:Program)(f:FuncId):(l:List PK)->KT l->List Arg->Prop
 | [],x,acc=>x.down.1.ok->gC P f acc (·=x.down.2)
 | .v τ::l,g,acc=>∀ x,Up P f l (g x) (acc++[.val ⟨τ,x⟩])
 | .r τ::l,g,acc=>∀ x,Up P f l (g x) (acc++[.ref ⟨τ,x⟩])
 | .f::l,g,acc=>∀ x,Up P f l (g x) (acc++[.fn x])
 | .c ps r::l,g,acc=>∀ x,Up P f l (g x) (acc++[.cP ⟨ps,r,x⟩])
 | .o τ::l,g,acc=>∀ x,Up P f l (g x) (acc++[.own ⟨τ,x⟩])
 | .b _::_,_,_=>True
def pJ{P:Program}{f:FuncId}:∀ (l:List PK) (g:KT l) (acc zs:List Arg) (pre:Vc) (res:List TV),Up P f l g acc->cX l g zs=some (pre,res)->pre.ok->gC P f (acc++zs) (·=res)
 | [],g,acc,zs,pre,res,h,e,hp=>by
  cases zs with
  | nil =>
   simp only[cX,b0J] at e;have h':g.down.1.ok->gC P f acc (·=g.down.2):=h;rw[e] at h';rw[b1E];exact h' hp
  | cons a zs=>simp[cX] at e
 | .v τ::l,g,acc,zs,pre,res,h,e,hp=>by
  cases zs with
  | nil=>simp[cX] at e
  | cons a zs =>
   cases a with
   | val a =>
    rw[cX] at e;split at e
    .rename_i x hx;have:=pJ l (g x) (acc++[.val ⟨τ,x⟩]) zs pre res (h x) e hp;rw[TV.aT hx];simpa using this
    .cases e
   | ref a=>simp[cX] at e
   | cP a=>simp[cX] at e
   | own a=>simp[cX] at e
   | fn a=>simp[cX] at e
   | box a=>simp[cX] at e
 | .r τ::l,g,acc,zs,pre,res,h,e,hp=>by
  cases zs with
  | nil=>simp[cX] at e
  | cons a zs =>
   cases a with
   | ref a =>
    rw[cX] at e;split at e
    .rename_i x hx;have:=pJ l (g x) (acc++[.ref ⟨τ,x⟩]) zs pre res (h x) e hp;rw[TV.aT hx];simpa using this
    .cases e
   | val a=>simp[cX] at e
   | cP a=>simp[cX] at e
   | own a=>simp[cX] at e
   | fn a=>simp[cX] at e
   | box a=>simp[cX] at e
 | .f::l,g,acc,zs,pre,res,h,e,hp=>by
  cases zs with
  | nil=>simp[cX] at e
  | cons a zs =>
   cases a with
   | fn a =>
    rw[cX] at e;have:=pJ l (g a) (acc++[.fn a]) zs pre res (h a) e hp;simpa using this
   | val a=>simp[cX] at e
   | cP a=>simp[cX] at e
   | own a=>simp[cX] at e
   | ref a=>simp[cX] at e
   | box a=>simp[cX] at e
 | .c ps r::l,g,acc,zs,pre,res,h,e,hp=>by
  cases zs with
  | nil=>simp[cX] at e
  | cons a zs =>
   cases a with
   | cP a =>
    rw[cX] at e;split at e
    .rename_i x hx;have:=pJ l (g x) (acc++[.cP ⟨ps,r,x⟩]) zs pre res (h x) e hp;rw[FV.aT hx];simpa using this
    .cases e
   | val a=>simp[cX] at e
   | ref a=>simp[cX] at e
   | fn a=>simp[cX] at e
   | own a=>simp[cX] at e
   | box a=>simp[cX] at e
 | .o τ::l,g,acc,zs,pre,res,h,e,hp=>by
  cases zs with
  | nil=>simp[cX] at e
  | cons a zs =>
   cases a with
   | own a =>
    rw[cX] at e;split at e
    .rename_i x hx;have:=pJ l (g x) (acc++[.own ⟨τ,x⟩]) zs pre res (h x) e hp;rw[TV.aT hx];simpa using this
    .cases e
   | val a=>simp[cX] at e
   | ref a=>simp[cX] at e
   | fn a=>simp[cX] at e
   | cP a=>simp[cX] at e
   | box a=>simp[cX] at e
 | .b k::l,g,acc,zs,pre,res,h,e,hp=>by
  cases zs<;>simp[cX] at e
structure bc where
 n:Nat
 l:List PK
 g:KT l
def bc.Good(c:bc):Prop:=jt prog c.n/\Up prog c.n c.l c.g []
def Cm:List bc->Nat->List Arg->Option (Vc×List TV)
 | [],_,_=>none
 | c::r,f,zs=>match Nat.beq c.n f with
  | true=>cX c.l c.g zs
  | false=>Cm r f zs
def PK.own:PK->Bool
 | .o _=>true
 | _=>false
def a5J:List bc->Nat->List Bool
 | [],_=>[]
 | c::r,f=>match Nat.beq c.n f with
  | true=>match c.l.any PK.own with
   | true=>c.l.map PK.own
   | false=>[]
  | false=>a5J r f
def Ct(l:List bc)(wr:List Nat:=[])(cl:List (Nat×qc):=[])(ro:List Nat:=[]):Env:=Env.mk AF NI (Cm l) wr [] (λ _ _=>none) (λ _=>none) (ai cl) ro (λ _=>[]) (λ _=>none) (λ _ _ _=>none) Jb NH Nx
 (λ _ _ _ _=>none)
def bu:List bc->Prop
 | []=>True
 | c::r=>c.Good/\bu r
def Kb:∀ (l:List bc),bu l->∀ f args pre res,Cm l f args=some (pre,res)->pre.ok->jt prog f/\gC prog f args (·=res)
 | [],_,f,args,pre,res,e,_=>by cases e
 | c::r,h,f,args,pre,res,e,hp=>by
  rw[Cm] at e;split at e
  .rename_i hb;have hb:=b0L hb;subst hb;exact⟨h.1.1,pJ c.l c.g [] args pre res h.1.2 e hp⟩
  .exact Kb r h.2 f args pre res e hp
def uJ{α:Type}:∀ (l:List (Nat×α)) (n:Nat) (v:α),ai l n=some v->(n,v)∈l
 | [],n,v,h=>by cases h
 | (k,u)::r,n,v,h=>by
  rw[ai] at h;split at h
  .rename_i hb;cases h;rw[b0L hb];exact b2X ..
  .exact b1O _ (uJ r n v h)
def DV{l:List bc}{wr:List Nat}{cl:List (Nat×qc)}{ro:List Nat}(h:bu l):bp prog (Ct l wr cl ro) where
 ty T τ b e ht:=by
  have h1:=b1u.mp (b2P.1 (tu (Ct l wr cl ro))).1 _ (uJ _ _ _ ht);exact h1
 Ja T κ ε ht:=by
  have h1:=b1u.mp (b2P.1 (tu (Ct l wr cl ro))).2 _ (uJ _ _ _ ht);exact h1
 TW _ _ _:=trivial
 Ka:=Kb l h
 Jg _ _ _ _ h:=by cases h
 mark _ _ h:=by cases h
 PQ:=PR
 Mm _ _ _ _ _ _ h:=by cases h
 R9 _ _ _ _ _ _ _ h:=by cases h
def aH {f:FuncId} {fn:Func} (h:prog.funcs[f]?=some fn) (hb:fn.body.isNone=false:=by rfl) (hn:(fn.name == "runtime.NumGoroutine")=false:=by decide):jt prog f:=⟨fn,h,hb,hn⟩
def kI:∀ {l m:List TV},qI l m->l=m
 | [],[],_=>rfl
 | [v],[u],h=>by rw[jq h]
 | v::v'::vs,[u],h=>by
  have:=kI (l:=v'::vs) (m:=[]) h.2;cases this
 | [v],u::u'::us,h=>by
  have:=kI (l:=[]) (m:=u'::us) h.2;cases this
 | v::v'::vs,u::u'::us,h=>by rw[jq h.1,kI (l:=v'::vs) (m:=u'::us) h.2]
 | [],u::us,h=>by cases h
 | v::vs,[],h=>by
  cases vs<;>cases h
def gC.mono{P:Program}{f:FuncId}{args:List Arg}{p q:List TV->Prop}(h:gC P f args p)(Z4:∀ r,p r->q r):gC P f args q:=by
 intro w S bO hS ha;refine (h w S bO hS ha).mono λ e w'=>?_;rintro⟨x,S',res,h1,h2,h3⟩;exact⟨x,S',res,h1,Z4 _ h2,h3⟩
def XD{f:FuncId}{fn:Func}{O:Code}{l:List bc}{wr:List Nat}{cl:List (Nat×qc)}{ro:List Nat}(hl:bu l)(hf:prog.funcs[f]?=some fn)(hb:fn.body=some O)(Λ:Nat->aP){args:List Arg}{res:List TV}
  (h:ql (Ct l wr cl ro) O Λ 0 (ub (Ct l wr cl ro) fn λ r=>qI r res) (dK fn args)):gC prog f args (·=res) :=
 (RJ (DV hl) nz hf hb Λ h).mono λ _=>kI
def tC(P:Program)(f:FuncId):(l:List PK)->KT l->List Arg->Prop
 | [],x,acc=>x.down.1.ok->tD P f acc x.down.2
 | .v τ::l,g,acc=>∀ x,tC P f l (g x) (acc++[.val ⟨τ,x⟩])
 | .r τ::l,g,acc=>∀ x,tC P f l (g x) (acc++[.ref ⟨τ,x⟩])
 | .f::l,g,acc=>∀ x,tC P f l (g x) (acc++[.fn x])
 | .c ps r::l,g,acc=>∀ x,tC P f l (g x) (acc++[.cP ⟨ps,r,x⟩])
 | .o τ::l,g,acc=>∀ x,tC P f l (g x) (acc++[.own ⟨τ,x⟩])
 | .b _::_,_,_=>True
def nv{P:Program}{f:FuncId}:∀ (l:List PK) (g:KT l) (acc zs:List Arg) (pre:Vc) (res:List TV),tC P f l g acc->cX l g zs=some (pre,res)->pre.ok->tD P f (acc++zs) res
 | [],g,acc,zs,pre,res,h,e,hp=>by
  cases zs with
  | nil =>
   simp only[cX,b0J] at e;have h':g.down.1.ok->tD P f acc g.down.2:=h;rw[e] at h';rw[b1E];exact h' hp
  | cons a zs=>simp[cX] at e
 | .v τ::l,g,acc,zs,pre,res,h,e,hp=>by
  cases zs with
  | nil=>simp[cX] at e
  | cons a zs =>
   cases a with
   | val a =>
    rw[cX] at e;split at e
    .rename_i x hx;have:=nv l (g x) (acc++[.val ⟨τ,x⟩]) zs pre res (h x) e hp;rw[TV.aT hx];simpa using this
    .cases e
   | ref a=>simp[cX] at e
   | cP a=>simp[cX] at e
   | own a=>simp[cX] at e
   | fn a=>simp[cX] at e
   | box a=>simp[cX] at e
 | .r τ::l,g,acc,zs,pre,res,h,e,hp=>by
  cases zs with
  | nil=>simp[cX] at e
  | cons a zs =>
   cases a with
   | ref a =>
    rw[cX] at e;split at e
    .rename_i x hx;have:=nv l (g x) (acc++[.ref ⟨τ,x⟩]) zs pre res (h x) e hp;rw[TV.aT hx];simpa using this
    .cases e
   | val a=>simp[cX] at e
   | cP a=>simp[cX] at e
   | own a=>simp[cX] at e
   | fn a=>simp[cX] at e
   | box a=>simp[cX] at e
 | .f::l,g,acc,zs,pre,res,h,e,hp=>by
  cases zs with
  | nil=>simp[cX] at e
  | cons a zs =>
   cases a with
   | fn a =>
    rw[cX] at e;have:=nv l (g a) (acc++[.fn a]) zs pre res (h a) e hp;simpa using this
   | val a=>simp[cX] at e
   | cP a=>simp[cX] at e
   | own a=>simp[cX] at e
   | ref a=>simp[cX] at e
   | box a=>simp[cX] at e
 | .c ps r::l,g,acc,zs,pre,res,h,e,hp=>by
  cases zs with
  | nil=>simp[cX] at e
  | cons a zs =>
   cases a with
   | cP a =>
    rw[cX] at e;split at e
    .rename_i x hx;have:=nv l (g x) (acc++[.cP ⟨ps,r,x⟩]) zs pre res (h x) e hp;rw[FV.aT hx];simpa using this
    .cases e
   | val a=>simp[cX] at e
   | ref a=>simp[cX] at e
   | fn a=>simp[cX] at e
   | own a=>simp[cX] at e
   | box a=>simp[cX] at e
 | .o τ::l,g,acc,zs,pre,res,h,e,hp=>by
  cases zs with
  | nil=>simp[cX] at e
  | cons a zs =>
   cases a with
   | own a =>
    rw[cX] at e;split at e
    .rename_i x hx;have:=nv l (g x) (acc++[.own ⟨τ,x⟩]) zs pre res (h x) e hp;rw[TV.aT hx];simpa using this
    .cases e
   | val a=>simp[cX] at e
   | ref a=>simp[cX] at e
   | fn a=>simp[cX] at e
   | cP a=>simp[cX] at e
   | box a=>simp[cX] at e
 | .b k::l,g,acc,zs,pre,res,h,e,hp=>by
  cases zs<;>simp[cX] at e
def bc.zq(c:bc):Prop:=jt prog c.n/\tC prog c.n c.l c.g []
def xd.rdV{w:World}{S:Nat->Prop}{v:TV}{x:Value}{fp:List Nat}(h:xd w v x fp)(hb:∀ b∈fp,S b):dI w S v x:=by
 obtain⟨τ,y⟩:=v;cases τ with
 | st s =>
  obtain⟨cs,h1,h2⟩:=h;exact⟨cs,h1,h2.rd _ hb⟩
 | _=>exact Ow.rd _ h hb
def HL.rdV{w:World}{S:Nat->Prop}:∀ {vs:List TV} {xs:List Value} {fp:List Nat},HL w vs xs fp->(∀ b∈fp,S b)->aN (dI w S) vs xs
 | [],[],_,_,_=>trivial
 | v::vs,x::xs,fp,h,hb=>by
  obtain⟨f1,f2,rfl,h1,h2⟩:=h;exact⟨h1.rdV λ b cv=>hb b (b2v _ cv),HL.rdV h2 λ b cv=>hb b (List.mem_append_right _ cv)⟩
 | [],_::_,_,h,_=>h.elim
 | _::_,[],_,h,_=>h.elim
def tD.plain{P:Program}{f:FuncId}{args:List Arg}{res:List TV}(h:tD P f args res):gC P f args (·=res):=by
 intro w S bO hS ha;refine (h w S bO [] hS (qG.PX ha) (.inl rfl) b1V (λ b hb=>by cases hb)).mono ?_;rintro e w' ⟨x,fp,rfl,hk,hr,_,lZ⟩;have hn:∀ b∈fp,w.heap.size<=b/\b<w'.heap.size:=λ b hb=>(lZ b hb).elim (λ q=>by cases q) id;refine⟨x,λ b=>S b\/b∈fp,res,rfl,rfl,⟨hk.os,hk.tape,hk.output,hk.size,λ b hb _=>hk.block b hb λ q=>by cases q⟩,λ b hb=>⟨λ q=>q.elim id λ q=>absurd (hn b q).1 (by omega), .inl⟩,λ b q=>q.elim (λ q=>b0V (hS.1 b q) hk.size) λ q=>(hn b q).2,?_⟩;match res,hr with
 | [v],hr=>exact xd.rdV (v:=v) hr λ b hb => .inr hb
 | [],hr =>
  obtain⟨l,h1,h2⟩:=hr;exact⟨l,h1,h2.rdV λ b hb => .inr hb⟩
 | v::u::vs,hr =>
  obtain⟨l,h1,h2⟩:=hr;exact⟨l,h1,h2.rdV λ b hb => .inr hb⟩
def tC.plain{P:Program}{f:FuncId}:∀ (l:List PK) (g:KT l) (acc:List Arg),tC P f l g acc->Up P f l g acc
 | [],_,_,h=>λ hp=>(h hp).plain
 | .v _::l,g,_,h=>λ x=>tC.plain l (g x) _ (h x)
 | .r _::l,g,_,h=>λ x=>tC.plain l (g x) _ (h x)
 | .f::l,g,_,h=>λ x=>tC.plain l (g x) _ (h x)
 | .c _ _::l,g,_,h=>λ x=>tC.plain l (g x) _ (h x)
 | .o _::l,g,_,h=>λ x=>tC.plain l (g x) _ (h x)
 | .b _::_,_,_,_=>trivial
def bc.zq.plain{k:bc}(h:k.zq):k.Good:=⟨h.1,tC.plain k.l k.g [] h.2⟩
def qa:List bc->Prop
 | []=>True
 | c::r=>c.zq/\qa r
def PW:∀ (l:List bc),qa l->∀ f args pre res,Cm l f args=some (pre,res)->pre.ok->jt prog f/\tD prog f args res
 | [],_,f,args,pre,res,e,_=>by cases e
 | c::r,h,f,args,pre,res,e,hp=>by
  rw[Cm] at e;split at e
  .rename_i hb;have hb:=b0L hb;subst hb;exact⟨h.1.1,nv c.l c.g [] args pre res h.1.2 e hp⟩
  .exact PW r h.2 f args pre res e hp
structure MK where
 n:Nat
 m:Uq
def MK.Good(c:MK):Prop:=jt prog c.n/\Sq prog c.n c.m
def tv:List MK->Prop
 | []=>True
 | c::r=>c.Good/\tv r
def NF:List MK->Nat->Option Uq
 | [],_=>none
 | c::r,f=>match Nat.beq c.n f with
  | true=>some c.m
  | false=>NF r f
def PH:∀ (l:List MK),tv l->∀ f m,NF l f=some m->jt prog f/\Sq prog f m
 | [],_,f,m,e=>by cases e
 | c::r,h,f,m,e=>by
  rw[NF] at e;split at e
  .rename_i hb;have hb:=b0L hb;subst hb;cases e;exact h.1
  .exact PH r h.2 f m e
@[reducible] def KTC:List Ty->Type 1->Type 1
 | [],R=>R
 | t::ts,R=>t.den->KTC ts R
@[reducible] def Wm:List (List Ty)->Type 1
 | []=>ULift (Vc×List TV×List (List TV))
 | ts::D=>KTC ts (Wm D)
@[reducible] def QJ:List PK->List (List Ty)->Type 1
 | [],D=>Wm D
 | .v τ::l,D=>τ.den->QJ l D
 | .r τ::l,D=>τ.den->QJ l D
 | .f::l,D=>FuncId->QJ l D
 | .b _::l,D=>QJ l D
 | .c ps r::l,D=>FN ps r->QJ l D
 | .o _::l,D=>QJ l D
def kC:(ts:List Ty)->(R:Type 1)->KTC ts R->List TV->Option R
 | [],_,r,[]=>some r
 | t::ts,R,g,v::vs=>match v.Z9 t with
  | some x=>kC ts R (g x) vs
  | none=>none
 | _,_,_,_=>none
def kD:(D:List (List Ty))->Wm D->List (List TV)->Option (Vc×List TV×List (List TV))
 | [],r,[]=>some r.down
 | ts::D,g,vs::bB=>match kC ts (Wm D) g vs with
  | some h=>kD D h bB
  | none=>none
 | _,_,_=>none
def kS:(l:List PK)->(D:List (List Ty))->QJ l D->List Arg->List (List TV)->Option (Vc×List TV×List (List TV))
 | [],D,g,[],bB=>kD D g bB
 | .v τ::l,D,g, .val a::zs,bB=>match a.Z9 τ with
  | some x=>kS l D (g x) zs bB
  | none=>none
 | .r τ::l,D,g, .ref a::zs,bB=>match a.Z9 τ with
  | some x=>kS l D (g x) zs bB
  | none=>none
 | .f::l,D,g, .fn a::zs,bB=>kS l D (g a) zs bB
 | .c ps r::l,D,g, .cP a::zs,bB=>match a.Z9 ps r with
  | some F=>kS l D (g F) zs bB
  | none=>none
 | .b k::l,D,g, .box j::zs,bB=>match Nat.beq k j with
  | true=>kS l D g zs bB
  | false=>none
 | _,_,_,_,_=>none
def a0w:(ts:List Ty)->(R:Type 1)->(R->List TV->Prop)->KTC ts R->List TV->Prop
 | [],_,p,r,acc=>p r acc
 | t::ts,R,p,g,acc=>∀ x,a0w ts R p (g x) (acc++[⟨t,x⟩])
def a0x(q:List (List TV)->Vc×List TV×List (List TV)->Prop):(D:List (List Ty))->Wm D->List (List TV)->Prop
 | [],r,acc=>q acc r.down
 | ts::D,g,acc=>a0w ts (Wm D) (λ h vs=>a0x q D h (acc++[vs])) g []
def NY(P:Program)(f:FuncId)(sh:List (List CK)):(l:List PK)->(D:List (List Ty))->QJ l D->List Arg->Prop
 | [],D,g,acc=>a0x (λ bB r=>r.1.ok->HK P f sh acc bB r.2.1 r.2.2) D g []
 | .v τ::l,D,g,acc=>∀ x,NY P f sh l D (g x) (acc++[.val ⟨τ,x⟩])
 | .r τ::l,D,g,acc=>∀ x,NY P f sh l D (g x) (acc++[.ref ⟨τ,x⟩])
 | .f::l,D,g,acc=>∀ x,NY P f sh l D (g x) (acc++[.fn x])
 | .b k::l,D,g,acc=>NY P f sh l D g (acc++[.box k])
 | .c ps r::l,D,g,acc=>∀ x,NY P f sh l D (g x) (acc++[.cP ⟨ps,r,x⟩])
 | .o _::_,_,_,_=>True
def a1Y:∀ (ts:List Ty) (R:Type 1) (p:R->List TV->Prop) (g:KTC ts R) (acc vs:List TV) (r:R),a0w ts R p g acc->kC ts R g vs=some r->p r (acc++vs)
 | [],R,p,g,acc,vs,r,h,e=>by
  cases vs with
  | nil =>
   simp only[kC,b0J] at e;subst e;rw[b1E];exact h
  | cons v vs=>simp[kC] at e
 | t::ts,R,p,g,acc,vs,r,h,e=>by
  cases vs with
  | nil=>simp[kC] at e
  | cons v vs =>
   rw[kC] at e;split at e
   .rename_i x hx;have:=a1Y ts R p (g x) (acc++[⟨t,x⟩]) vs r (h x) e;rw[TV.aT hx];simpa using this
   .cases e
def a1Z(q:List (List TV)->Vc×List TV×List (List TV)->Prop):∀ (D:List (List Ty)) (g:Wm D) (acc bB:List (List TV)) (r:Vc×List TV×List (List TV)),a0x q D g acc->kD D g bB=some r->q (acc++bB) r
 | [],g,acc,bB,r,h,e=>by
  cases bB with
  | nil =>
   simp only[kD,b0J] at e;subst e;rw[b1E];exact h
  | cons v vs=>simp[kD] at e
 | ts::D,g,acc,bB,r,h,e=>by
  cases bB with
  | nil=>simp[kD] at e
  | cons vs bB =>
   rw[kD] at e;split at e
   .rename_i k hk;have h1:=a1Y ts _ _ g [] vs k h hk;have:=a1Z q D k (acc++[vs]) bB r (by simpa using h1) e;simpa using this
   .cases e
def KF{P:Program}{f:FuncId}{sh:List (List CK)}:∀ (l:List PK) (D:List (List Ty)) (g:QJ l D) (acc zs:List Arg) (bB:List (List TV)) (pre:Vc) (res:List TV) (dF:List (List TV)),NY P f sh l D g acc->kS l D g zs bB=some (pre,res,dF)->pre.ok->HK P f sh (acc++zs) bB res dF
 | [],D,g,acc,zs,bB,pre,res,dF,h,e,hp=>by
  cases zs with
  | nil =>
   have:=a1Z _ D g [] bB _ h e;simpa using this hp
  | cons z zs=>simp[kS] at e
 | .v τ::l,D,g,acc,zs,bB,pre,res,dF,h,e,hp=>by
  cases zs with
  | nil=>simp[kS] at e
  | cons a zs =>
   cases a with
   | val a =>
    rw[kS] at e;split at e
    .rename_i x hx;have:=KF l D (g x) (acc++[.val ⟨τ,x⟩]) zs bB pre res dF (h x) e hp;rw[TV.aT hx];simpa using this
    .cases e
   | _=>simp[kS] at e
 | .r τ::l,D,g,acc,zs,bB,pre,res,dF,h,e,hp=>by
  cases zs with
  | nil=>simp[kS] at e
  | cons a zs =>
   cases a with
   | ref a =>
    rw[kS] at e;split at e
    .rename_i x hx;have:=KF l D (g x) (acc++[.ref ⟨τ,x⟩]) zs bB pre res dF (h x) e hp;rw[TV.aT hx];simpa using this
    .cases e
   | _=>simp[kS] at e
 | .f::l,D,g,acc,zs,bB,pre,res,dF,h,e,hp=>by
  cases zs with
  | nil=>simp[kS] at e
  | cons a zs =>
   cases a with
   | fn a =>
    rw[kS] at e;have:=KF l D (g a) (acc++[.fn a]) zs bB pre res dF (h a) e hp;simpa using this
   | _=>simp[kS] at e
 | .b k::l,D,g,acc,zs,bB,pre,res,dF,h,e,hp=>by
  cases zs with
  | nil=>simp[kS] at e
  | cons a zs =>
   cases a with
   | box j =>
    rw[kS] at e;split at e
    .rename_i hb;have hb:=Nat.eq_of_beq_eq_true hb;subst hb;have:=KF l D g (acc++[.box k]) zs bB pre res dF h e hp;simpa using this
    .cases e
   | _=>simp[kS] at e
 | .c ps r::l,D,g,acc,zs,bB,pre,res,dF,h,e,hp=>by
  cases zs with
  | nil=>simp[kS] at e
  | cons a zs =>
   cases a with
   | cP a =>
    rw[kS] at e;split at e
    .rename_i F hF;have:=KF l D (g F) (acc++[.cP ⟨ps,r,F⟩]) zs bB pre res dF (h F) e hp;rw[FV.aT hF];simpa using this
    .cases e
   | _=>simp[kS] at e
 | .o _::l,D,g,acc,zs,bB,pre,res,dF,h,e,hp=>by cases zs<;>simp[kS] at e
structure mg where
 n:Nat
 sh:List (List CK)
 l:List PK
 D:List (List Ty)
 g:QJ l D
def mg.Good(c:mg):Prop:=jt prog c.n/\NY prog c.n c.sh c.l c.D c.g []
def sa:List mg->Prop
 | []=>True
 | c::r=>c.Good/\sa r
def a2E:List PK->List (Option Nat)
 | []=>[]
 | .b k::l=>some k::a2E l
 | _::l=>none::a2E l
def Zc:List mg->Nat->Option SK
 | [],_=>none
 | c::r,f=>match Nat.beq c.n f with
  | true=>some ⟨a2E c.l,c.sh⟩
  | false=>Zc r f
def NL:List mg->Nat->List Arg->List (List TV)->Option (Vc×List TV×List (List TV))
 | [],_,_,_=>none
 | c::r,f,zs,bB=>match Nat.beq c.n f with
  | true=>kS c.l c.D c.g zs bB
  | false=>NL r f zs bB
def Qh:∀ (l:List mg),sa l->∀ f sk args bB pre res dF,Zc l f=some sk->NL l f args bB=some (pre,res,dF)->pre.ok->jt prog f/\HK prog f sk.sh args bB res dF
 | [],_,f,sk,args,bB,pre,res,dF,h,_,_=>by cases h
 | c::r,h,f,sk,args,bB,pre,res,dF,hs,e,hp=>by
  rw[Zc] at hs;rw[NL] at e;split at e
  .rename_i hb;rw[hb] at hs;have hb:=Nat.eq_of_beq_eq_true hb;subst hb;simp only[Option.some.injEq] at hs;subst hs;exact⟨h.1.1,by simpa using KF c.l c.D c.g [] args bB pre res dF h.1.2 e hp⟩
  .rename_i hb;rw[hb] at hs;exact Qh r h.2 f sk args bB pre res dF hs e hp
def so(l:List bc)(ol:List bc)(ml:List MK)(own wr:List Nat)(cl:List (Nat×qc):=[])(ro:List Nat:=[])(sl:List mg:=[]):Env:=Env.mk AF NI (Cm l) wr own (Cm ol) (NF ml) (ai cl) ro (a5J ol) (Zc sl) (NL sl) Jb NH Nx
 (λ _ _ _ _=>none)
def Ij{l ol:List bc}{ml:List MK}{own wr:List Nat}{cl:List (Nat×qc)}{ro:List Nat}{sl:List mg}(h:bu l)(ho:qa ol)(hm:tv ml)(hs:sa sl):bp prog (so l ol ml own wr cl ro sl) where
 ty T τ b e ht:=by
  have h1:=b1u.mp (b2P.1 (tu (so l ol ml own wr cl ro sl))).1 _ (uJ _ _ _ ht);exact h1
 Ja T κ ε ht:=by
  have h1:=b1u.mp (b2P.1 (tu (so l ol ml own wr cl ro sl))).2 _ (uJ _ _ _ ht);exact h1
 TW _ _ _:=trivial
 Ka:=Kb l h
 Jg:=PW ol ho
 mark:=PH ml hm
 PQ:=PR
 Mm _ _ _ _ _ _ h:=by cases h
 R9:=Qh sl hs
def VF{f:FuncId}{fn:Func}{O:Code}{l ol:List bc}{ml:List MK}{own wr:List Nat}{cl:List (Nat×qc)}{ro:List Nat}{sl:List mg}(hl:bu l)(ho:qa ol)(hm:tv ml)(hs:sa sl)(hf:prog.funcs[f]?=some fn)(hb:fn.body=some O)(Λ:Nat->aP){args:List Arg}{res:List TV}
  (h:ql (so l ol ml own wr cl ro sl) O Λ 0 (ub (so l ol ml own wr cl ro sl) fn λ r=>qI r res) (dK fn args)):gC prog f args (·=res) :=
 (RJ (Ij hl ho hm hs) nz hf hb Λ h).mono λ _=>kI
def VH{f:FuncId}{fn:Func}{O:Code}{l ol:List bc}{ml:List MK}{own wr:List Nat}{cl:List (Nat×qc)}{ro:List Nat}{sl:List mg}(hl:bu l)(ho:qa ol)(hm:tv ml)(hs:sa sl)(hf:prog.funcs[f]?=some fn)(hb:fn.body=some O)(Λ:Nat->aP){args:List Arg}{res:List TV}
  (h:ql (so l ol ml own wr cl ro sl) O Λ 0 (yY (so l ol ml own wr cl ro sl) fn λ r=>qI r res) (Jz fn args)):tD prog f args res :=
 Fl (Ij hl ho hm hs) nz hf hb Λ (λ _=>kI) h
def Ns:List (List TV)->List (List TV)->Prop
 | [],[]=>True
 | a::r,b::q=>qI a b/\Ns r q
 | _,_=>False
def N5:∀ {a b:List (List TV)},Ns a b->a=b
 | [],[],_=>rfl
 | _::_,_::_,h=>by rw[kI h.1,N5 h.2]
 | [],_::_,h=>h.elim
 | _::_,[],h=>h.elim
def Ch(args:List Arg)(n:Nat):Bool:=args.all λ a=>match a with
 | .box k=>Nat.blt k n
 | _=>true
def E6{args:List Arg}{n:Nat}(h:Ch args n=true):∀ k,Arg.box k∈args->k<n:=λ k hk=>by
 unfold Ch at h;rw[List.all_eq_true] at h;exact Nat.le_of_ble_eq_true (h _ hk)
def X3{f:FuncId}{fn:Func}{O:Code}{l ol:List bc}{ml:List MK}{own wr:List Nat}{cl:List (Nat×qc)}{ro:List Nat}{sl:List mg}(hl:bu l)(ho:qa ol)(hm:tv ml)(hs:sa sl)(hf:prog.funcs[f]?=some fn)(hb:fn.body=some O)(Λ:Nat->aP){args:List Arg}{sh:List (List CK)}{bB:List (List TV)}{res:List TV}{dF:List (List TV)}
  (BR:Qk sh=true) (xv:Ch args sh.length=true) (h:ql (so l ol ml own wr cl ro sl) O Λ 0 (Ed (so l ol ml own wr cl ro sl) fn sh λ r ds=>qI r res/\Ns ds dF) (dQ fn args sh bB)):HK prog f sh args bB res dF :=
 S7 (Ij hl ho hm hs) nz hf hb Λ (λ _ _ q=>⟨kI q.1,N5 q.2⟩) BR (E6 xv) h
def bf{f:FuncId}{fn:Func}{O:Code}(l:List bc)(wr:List Nat)(cl:List (Nat×qc))(ro:List Nat)(hl:bu l)(hf:prog.funcs[f]?=some fn)(hb:fn.body=some O)(Λ:Nat->aP){args:List Arg}{res:List TV}(V:Prop)(h:V)
  (e:ql (Ct l wr cl ro) O Λ 0 (ub (Ct l wr cl ro) fn λ r=>qI r res) (dK fn args)=V:=by kernel_rfl):gC prog f args (·=res) :=
 XD hl hf hb Λ (Eq.mpr e h)
def Hr{f:FuncId}{fn:Func}{O:Code}(l ol:List bc)(ml:List MK)(sl:List mg)(own wr:List Nat)(cl:List (Nat×qc))(ro:List Nat)(hl:bu l)(ho:qa ol)(hm:tv ml)(hs:sa sl)(hf:prog.funcs[f]?=some fn)(hb:fn.body=some O)(Λ:Nat->aP){args:List Arg}{res:List TV}(V:Prop)(h:V)
  (e:ql (so l ol ml own wr cl ro sl) O Λ 0 (ub (so l ol ml own wr cl ro sl) fn λ r=>qI r res) (dK fn args)=V:=by kernel_rfl):gC prog f args (·=res) :=
 VF hl ho hm hs hf hb Λ (Eq.mpr e h)
def Hu{f:FuncId}{fn:Func}{O:Code}(l ol:List bc)(ml:List MK)(sl:List mg)(own wr:List Nat)(cl:List (Nat×qc))(ro:List Nat)(hl:bu l)(ho:qa ol)(hm:tv ml)(hs:sa sl)(hf:prog.funcs[f]?=some fn)(hb:fn.body=some O)(Λ:Nat->aP){args:List Arg}{res:List TV}(V:Prop)(h:V)
  (e:ql (so l ol ml own wr cl ro sl) O Λ 0 (yY (so l ol ml own wr cl ro sl) fn λ r=>qI r res) (Jz fn args)=V:=by kernel_rfl):tD prog f args res :=
 VH hl ho hm hs hf hb Λ (Eq.mpr e h)
def tm{f:FuncId}{fn:Func}{O:Code}(l ol:List bc)(ml:List MK)(sl:List mg)(own wr:List Nat)(cl:List (Nat×qc))(ro:List Nat)(hl:bu l)(ho:qa ol)(hm:tv ml)(hs:sa sl)(hf:prog.funcs[f]?=some fn)(hb:fn.body=some O)(Λ:Nat->aP){args:List Arg}{sh:List (List CK)}{bB:List (List TV)}{res:List TV}{dF:List (List TV)}
  (BR:Qk sh=true) (xv:Ch args sh.length=true) (V:Prop) (h:V) (e:ql (so l ol ml own wr cl ro sl) O Λ 0 (Ed (so l ol ml own wr cl ro sl) fn sh λ r ds=>qI r res/\Ns ds dF) (dQ fn args sh bB)=V:=by kernel_rfl):HK prog f sh args bB res dF :=
 X3 hl ho hm hs hf hb Λ BR xv (Eq.mpr e h)
@[reducible] def Wn:List PK->Ty->Type 1
 | [],τ=>List τ.den->ULift (Vc×List τ.den)
 | .v t::l,τ=>t.den->Wn l τ
 | .r t::l,τ=>t.den->Wn l τ
 | _::l,τ=>Wn l τ
def kR:(l:List PK)->(τ:Ty)->Wn l τ->List Arg->List τ.den->Option (Vc×List τ.den)
 | [],_,g,[],xs=>some (g xs).down
 | .v t::l,τ,g, .val a::zs,xs=>match a.Z9 t with
  | some x=>kR l τ (g x) zs xs
  | none=>none
 | .r t::l,τ,g, .ref a::zs,xs=>match a.Z9 t with
  | some x=>kR l τ (g x) zs xs
  | none=>none
 | _,_,_,_,_=>none
def Yd(P:Program)(f:FuncId):(l:List PK)->(τ:Ty)->Wn l τ->List Arg->Prop
 | [],τ,g,acc=>∀ xs:List τ.den,(g xs).down.1.ok->DS P f acc τ xs (g xs).down.2
 | .v t::l,τ,g,acc=>∀ x,Yd P f l τ (g x) (acc++[.val ⟨t,x⟩])
 | .r t::l,τ,g,acc=>∀ x,Yd P f l τ (g x) (acc++[.ref ⟨t,x⟩])
 | _::l,τ,g,acc=>False
def Xr{P:Program}{f:FuncId}:∀ (l:List PK) (τ:Ty) (g:Wn l τ) (acc zs:List Arg) (xs ys:List τ.den) (pre:Vc),Yd P f l τ g acc->kR l τ g zs xs=some (pre,ys)->pre.ok->DS P f (acc++zs) τ xs ys
 | [],τ,g,acc,zs,xs,ys,pre,h,e,hp=>by
  cases zs with
  | nil =>
   simp only[kR,b0J] at e;have h2:=h xs;rw[e] at h2;rw[b1E];exact h2 hp
  | cons z zs=>simp[kR] at e
 | .v t::l,τ,g,acc,zs,xs,ys,pre,h,e,hp=>by
  cases zs with
  | nil=>simp[kR] at e
  | cons a zs =>
   cases a with
   | val a =>
    rw[kR] at e;split at e
    .rename_i x hx;have:=Xr l τ (g x) (acc++[.val ⟨t,x⟩]) zs xs ys pre (h x) e hp;rw[TV.aT hx];simpa using this
    .cases e
   | _=>simp[kR] at e
 | .r t::l,τ,g,acc,zs,xs,ys,pre,h,e,hp=>by
  cases zs with
  | nil=>simp[kR] at e
  | cons a zs =>
   cases a with
   | ref a =>
    rw[kR] at e;split at e
    .rename_i x hx;have:=Xr l τ (g x) (acc++[.ref ⟨t,x⟩]) zs xs ys pre (h x) e hp;rw[TV.aT hx];simpa using this
    .cases e
   | _=>simp[kR] at e
 | .f::l,τ,g,acc,zs,xs,ys,pre,h,e,hp=>h.elim
 | .c _ _::l,τ,g,acc,zs,xs,ys,pre,h,e,hp=>h.elim
 | .o _::l,τ,g,acc,zs,xs,ys,pre,h,e,hp=>h.elim
 | .b _::l,τ,g,acc,zs,xs,ys,pre,h,e,hp=>h.elim
structure JT where
 n:Nat
 l:List PK
 τ:Ty
 g:Wn l τ
def JT.Good(c:JT):Prop:=jt prog c.n/\Yd prog c.n c.l c.τ c.g []
def NT:List JT->Prop
 | []=>True
 | c::r=>c.Good/\NT r
def NQ:List JT->Nat->List Arg->(τ:Ty)->List τ.den->Option (Vc×List τ.den)
 | [],_,_,_,_=>none
 | c::r,f,zs,τ,xs=>match Nat.beq c.n f with
  | true=>match TV.Z9 (.slice c.τ) ⟨.slice τ,xs⟩ with
   | some cK=>match kR c.l c.τ c.g zs cK with
    | some (pre,ys)=>match TV.Z9 (.slice τ) ⟨.slice c.τ,ys⟩ with
     | some ys'=>some (pre,ys')
     | none=>none
    | none=>none
   | none=>none
  | false=>NQ r f zs τ xs
def Qx:∀ (l:List JT),NT l->∀ f az τ xs pre ys,NQ l f az τ xs=some (pre,ys)->pre.ok->jt prog f/\DS prog f az τ xs ys
 | [],_,f,az,τ,xs,pre,ys,e,_=>by cases e
 | c::r,h,f,az,τ,xs,pre,ys,e,hp=>by
  rw[NQ] at e;split at e
  .rename_i hb;have hb:=b0L hb;subst hb;split at e
   .rename_i cK hx;split at e
    .rename_i a9i ys1 hk;split at e
     .rename_i ys' hy;simp only[Option.some.injEq,Prod.mk.injEq] at e;obtain⟨rfl,rfl⟩:=e;have e1:=TV.aT hx;simp only[TV.mk.injEq,Ty.slice.injEq] at e1;obtain⟨rfl,e1⟩:=e1;have e1:=eq_of_heq e1;subst e1;have e2:=TV.aT hy;simp only[TV.mk.injEq,true_and] at e2;have e2:=eq_of_heq e2;subst e2;exact⟨h.1.1,by simpa using Xr c.l c.τ c.g [] az xs ys1 a9i h.1.2 hk hp⟩
     .cases e
    .cases e
   .cases e
  .exact Qx r h.2 f az τ xs pre ys e hp
def RE(l:List bc)(ol:List bc)(ml:List MK)(own wr:List Nat)(cl:List (Nat×qc))(ro:List Nat)(sl:List mg)(tl:List JT):Env:={ so l ol ml own wr cl ro sl with Mm:=NQ tl }
def UJ{l ol:List bc}{ml:List MK}{own wr:List Nat}{cl:List (Nat×qc)}{ro:List Nat}{sl:List mg}{tl:List JT}(h:bu l)(ho:qa ol)(hm:tv ml)(hs:sa sl)(ht:NT tl):bp prog (RE l ol ml own wr cl ro sl tl) :=
 have h:=Ij (wr:=wr) (own:=own) (cl:=cl) (ro:=ro) h ho hm hs
 { h with
  ty:=by
   intro T τ b e ht;have h1:=b1u.mp (b2P.1 (tu (RE l ol ml own wr cl ro sl tl))).1 _ (uJ _ _ _ ht);exact h1
  Ja:=by
   intro T κ ε ht;have h1:=b1u.mp (b2P.1 (tu (RE l ol ml own wr cl ro sl tl))).2 _ (uJ _ _ _ ht);exact h1
  Mm:=Qx tl ht }
def VI{f:FuncId}{fn:Func}{O:Code}(l ol:List bc)(ml:List MK)(sl:List mg)(tl:List JT)(own wr:List Nat)(cl:List (Nat×qc))(ro:List Nat)(hl:bu l)(ho:qa ol)(hm:tv ml)(hs:sa sl)(ht:NT tl)(hf:prog.funcs[f]?=some fn)(hb:fn.body=some O)(Λ:Nat->aP){args:List Arg}{res:List TV}(V:Prop)(h:V)
  (e:ql (RE l ol ml own wr cl ro sl tl) O Λ 0 (yY (RE l ol ml own wr cl ro sl tl) fn λ r=>qI r res) (Jz fn args)=V:=by kernel_rfl):tD prog f args res :=
 Fl (UJ hl ho hm hs ht) nz hf hb Λ (λ _=>kI) (Eq.mpr e h)
def Wg{f:FuncId}{fn:Func}{O:Code}(l ol:List bc)(ml:List MK)(sl:List mg)(tl:List JT)(own wr:List Nat)(cl:List (Nat×qc))(ro:List Nat)(hl:bu l)(ho:qa ol)(hm:tv ml)(hs:sa sl)(ht:NT tl)(hf:prog.funcs[f]?=some fn)(hb:fn.body=some O)(Λ:Nat->aP){args:List Arg}{τ:Ty}{xs ys:List τ.den}(V:Prop)(h:V)
  (e:ql (RE l ol ml own wr cl ro sl tl) O Λ 0 (Ei τ λ zs=>zs=ys) (ng fn args τ xs)=V:=by kernel_rfl) (hr:fn.results.size=0:=by rfl) (xv:Ch args 0=true:=by rfl) (hn:Nat.ble (args.length+1) fn.ntmps=true:=by rfl):DS prog f args τ xs ys :=
 OK (UJ hl ho hm hs ht) nz hf hb Λ hr (λ k hk=>absurd (E6 xv k hk) (b1x _)) (b1N hn) (Eq.mpr e h)
open Go.ChangeShapes Go.WideShapes Go.ChangeAt Go.RowKit
theorem cQ.append{w:World}{S:Nat->Prop}:∀ (ds es:List D) {l m:List Value},cQ w S ds l->cQ w S es m->cQ w S (ds++es) (l++m)
 | [],_,_,_,h,k=>by rw[show _=[] from h];simpa using k
 | d::ds,es,_,m,h,k=>by
  obtain⟨c,r,rfl,h2,h3⟩:=h;exact⟨c,r++m,by simp,h2,cQ.append ds es h3 k⟩
theorem a0i{w:World}{S:Nat->Prop}(t:Ty)(y:t.den){cs:List Value}(h:Rd w S (t.aK y) cs):cQ w S ((TV.cells ⟨t,y⟩).map TV.aK) cs:=by
 have one:∀ d:D,d.leaf=true->Rd w S d cs->cQ w S [d] cs:=by
  intro d hd h;obtain⟨v,rfl,_⟩:=Rd.rN hd h;exact⟨v,[],rfl,h,rfl⟩
 cases t with
 | st s =>
  have h':Rd w S (s.aK y) cs:=h;rw[aL.bX] at h';exact h'
 | int k=>exact one _ rfl h
 | bool=>exact one _ rfl h
 | str=>exact one _ rfl h
 | slice t=>exact one _ rfl h
 | mv t=>exact one _ (KX _ _ _) h
 | ptr=>exact one _ rfl h
theorem Gv{w:World}{S:Nat->Prop}:∀ (ts:List Ty) (cs:List Value),cs.length=(ts.map Ty.size).sum ->
  (∀ i t,ts[i]?=some t->∃ y:t.den,Rd w S (t.aK y) ((cs.drop ((ts.take i).map Ty.size).sum).take t.size)) ->
  ∃ fl:List TV,fl.map TV.τ=ts/\cQ w S ((fl.flatMap TV.cells).map TV.aK) cs
 | [],cs,h,_=>⟨[],rfl,by
   have:cs=[]:=by simpa using h
   subst this;exact rfl⟩
 | t::ts,cs,h,k=>by
  obtain⟨y,hy⟩:=k 0 t rfl;simp only[b2T,b2k,List.sum_nil,b4g] at hy;simp only[b1p,b5a] at h;obtain⟨fl,h1,h2⟩:=Gv ts (cs.drop t.size) (by simp;omega) (λ i u hu=>by
   obtain⟨z,hz⟩:=k (i+1) u hu;simp only[b4d,b1p,b5a] at hz;rw[<-b4f] at hz;exact⟨z,hz⟩)
  refine⟨⟨t,y⟩::fl,by simp[h1],?_⟩;simp only[b2y,b2b];have:=cQ.append _ _ (a0i t y hy) h2;rwa [b2q] at this
theorem Y7{w:World}{S:Nat->Prop}(t:Ty)(b:Nat):∀ (n o:Nat),(∀ i,i<n->∃ (x:t.den) (cs:List Value),cs.length=t.size/\Rd w S (t.aK x) cs/\bo w b (o+i * t.size) cs) ->
  ∃ xs:List t.den,xs.length=n/\df w S (xs.map t.aK) b o
 | 0,o,_=>⟨[],rfl,ag⟩
 | n+1,o,h=>by
  obtain⟨x,cs,h1,h2,h3⟩:=h 0 (by omega);obtain⟨xs,h4,h5⟩:=Y7 t b n (o+t.size) (λ i hi=>by
   obtain⟨y,c,g1,g2,g3⟩:=h (i+1) (by omega);exact⟨y,c,g1,g2,by rw[show o+t.size+i * t.size=o+(i+1) * t.size by rw[b1Q];omega];exact g3⟩)
  refine⟨x::xs,by simp[h4],⟨cs,by rw[Ty.cz];exact h1,h2,by simpa using h3⟩,?_⟩;rw[Ty.cz];exact h5
section
variable {H:Type} {enc:TypeId×Value->H} {w:World} {spare:Nat->Bool} {held:Bool}
theorem TO(d:DataW H):1<=Rows.uptoBulk d:=by
 cases d with
 | lit l=>cases l<;>simp[Rows.uptoBulk]
 | nil=>simp[Rows.uptoBulk]
 | ptr d=>simp[Rows.uptoBulk]
 | slice elems spare=>simp[Rows.uptoBulk]
 | agg parts=>simp[Rows.uptoBulk]
 | iface t d=>simp[Rows.uptoBulk]
 | map entries=>simp[Rows.uptoBulk]
 | held h=>simp[Rows.uptoBulk]
theorem Jn{d:DataW H}{l:List (DataW H)}(h:d∈l):Rows.uptoBulk d<=Rows.uptoBulkAll l:=by
 induction l with
 | nil=>cases h
 | cons x r ih =>
  simp only[Rows.uptoBulkAll];cases b0X.1 h with
  | inl e=>subst e;omega
  | inr e=>have:=ih e;omega
theorem Nd(l:List (DataW H)):l.length<=Rows.uptoBulkAll l:=by
 induction l with
 | nil=>simp[Rows.uptoBulkAll]
 | cons x r ih=>have:=TO x;simp only[Rows.uptoBulkAll,b0W];omega
theorem jP:bp prog (Ct []):=DV trivial
theorem nO{T b e:Nat}{τ:Ty}(h:ai AF T=some (τ,b,e)):prog.cellsOf T=τ.size:=by
 obtain⟨i,z,h1,h2,_⟩:=(jP.info (T:=T) (τ:=τ) (b:=b) (e:=e) h).ex;simp[Program.cellsOf,h1,h2]
theorem VP:∀ (fuel:Nat) (τ:Ty) (T b e:Nat) (cs:List Value) (x:DataW H×List MemPlace),ai AF T=some (τ,b,e)->DataW.trod enc prog w 0 spare held fuel T cs=some x ->
  Rows.uptoBulk x.1<=1048576->∃ y:τ.den,Rd w (·<w.heap.size) (τ.aK y) cs:=by
 intro fuel;induction fuel with
 | zero =>
  intro τ T b e cs x ht h hk;have h':(none:Option (DataW H×List MemPlace))=some x:=h;cases h'
 | succ fuel ih =>
 intro τ T b e cs x ht h hk;cases τ with
 | int k =>
  obtain⟨n,rfl,rfl,hw⟩:=DataW.trod_int (jP.int ht) h;refine⟨n,rfl,?_⟩;simpa [Lit.wf] using hw
 | bool =>
  obtain⟨n,rfl,rfl⟩:=DataW.trod_bool (jP.bool ht) h;exact⟨n,rfl⟩
 | str =>
  obtain⟨n,rfl,rfl,hw⟩:=DataW.trod_string (jP.str ht) h;refine⟨n.data.toList,n,rfl,rfl,?_⟩;simp[Rows.uptoBulk] at hk;have:n.size=n.data.size:=rfl;omega
 | mv t=>exact (jP.a2x ht).elim
 | ptr =>
  obtain⟨t,hu⟩:=jP.ptr ht;rcases DataW.trod_pointer hu h with ⟨rfl,_⟩|⟨a,_,_,_,_,rfl,_⟩
  .exact⟨(),_,rfl⟩
  .exact⟨(),_,rfl⟩
 | slice t =>
  obtain⟨hu,⟨b',e',he⟩,_⟩:=jP.slice ht;have hc:=nO he;rcases DataW.trod_slice hu h with ⟨rfl,rfl⟩|⟨a,len,cap,elems,rest,n,hn,rfl,rfl,hb,hl,hm,hlen,QS,_⟩
  .exact⟨[],none,0,rfl,b1d _,b1G _,b1G _, .inl rfl⟩
  .obtain rfl:n=fuel:=by omega
   rw[hc] at QS;have W8:∀ (i:Nat) (z:DataW H×List MemPlace),elems[i]?=some z->Rows.uptoBulk z.1<=1048576:=by
    intro i z hz;have h1:=Jn (d:=z.1) (l:=elems.map (·.1)) (b0P.2 ⟨z,b1y hz,rfl⟩);simp only[Rows.uptoBulk] at hk;omega
   have uo:∀ i,i<len->∃ (y:t.den) (c:List Value),c.length=t.size/\Rd w (·<w.heap.size) (t.aK y) c/\(∀ j v,c[j]?=some v->w.cell? ((a.add (i * t.size)).add j)=some v):=by
    intro i hi;have hz:elems[i]?=some (elems[i]'(by omega)):=b1a (by omega);have:=QS i hi;rw[hz,b1X] at this;obtain⟨c,Kp,hc2⟩:=this;obtain⟨y,hy⟩:=ih t e b' e' c _ he hc2 (W8 i _ hz);obtain⟨_,h5,h6⟩:=World.cells?_some Kp;refine⟨y,c,h5,hy,λ j v hj=>?_⟩;rw[h6 j (by rw[<-h5];exact (b1h.1 hj).1),hj]
   have hlb:len<=1048576:=by
    have h1:=Nd (elems.map (·.1));simp only[Rows.uptoBulk,b1F] at hk h1;omega
   rcases Nat.eq_zero_or_pos len with h0|h0
   .subst h0;exact⟨[],some a,cap,rfl,b1G _,hm,b1G _, .inl rfl⟩
   .have hp:=Ty.size_pos t;have Tu:a.spot=none:=by
     obtain⟨y,c,g1,g2,g3⟩:=uo 0 h0;have hj:c[0]?=some (c[0]'(by omega)):=List.getElem?_eq_getElem (by omega);have:=World.cell?_spot (g3 0 _ hj);simpa [Addr.add] using this
    obtain⟨ab,ao,asp⟩:=a;simp only at Tu;subst Tu;have a5a:∀ i j,((⟨ab,ao,none⟩:Addr).add i).add j=⟨ab,ao+i+j,none⟩:=by
     intro i j;unfold Addr.add;split<;>split<;>simp_all<;>omega
    obtain⟨xs,h1,h2⟩:=Y7 (w:=w) (S:=(·<w.heap.size)) t ab len ao (λ i hi=>by
     obtain⟨y,c,g1,g2,g3⟩:=uo i hi;exact⟨y,c,g1,g2,λ j v hj=>by rw[<-a5a];exact g3 j v hj⟩)
    have bz:ab<w.heap.size:=by
     obtain⟨y,c,g1,g2,g3⟩:=uo 0 h0;have hj:c[0]?=some (c[0]'(by omega)):=List.getElem?_eq_getElem (by omega);have:=g3 0 _ hj;rw[a5a] at this;unfold World.cell? at this;split at this
     .rename_i hh;exact (b2j.1 hh).1
     .cases this
    have Tp:(xs.map t.aK).length=len:=by simp[h1]
    refine⟨xs,some ⟨ab,ao,none⟩,cap,by rw[Tp],by rw[Tp];exact hl,hm,by rw[Tp];omega, .inr ⟨ab,ao,rfl,bz,h2⟩⟩
 | st s =>
  obtain⟨fl,h1,h2⟩:∃ fl:List TV,fl.map TV.τ=s.dv/\cQ w (·<w.heap.size) ((fl.flatMap TV.cells).map TV.aK) cs:=by
   cases ha:s.arr with
   | true =>
    obtain⟨e1,hu,_⟩:=jP.arr ht ha;obtain⟨xs,n,hn,rfl,vE,rE,hx⟩:=DataW.trod_array hu h;obtain rfl:n=fuel:=by omega
    have iP:cs.length=(s.dv.map Ty.size).sum:=by
     rw[vE,nO ht];cases s<;>rfl
    exact Gv (w:=w) (S:=(·<w.heap.size)) s.dv cs iP (λ i t hi=>by
     have bz:=(b1h.1 hi).1;obtain⟨e2,k1,⟨b',e',k2⟩,k3⟩:=jP.SA ht ha hi;rw[hu] at k1;simp only[b0J,b4V,b2o] at k1;subst k1;have hy:=hx i bz;have hz:xs[i]?=some (xs[i]'(by omega)):=b1a (by omega);rw[hz,nO k2,<-k3] at hy;refine ih t _ b' e' _ _ k2 hy ?_;have h3:=Jn (d:=(xs[i]'(by omega)).1) (l:=xs.map (·.1)) (b0P.2 ⟨_,b2B _,rfl⟩);simp only[Rows.uptoBulk] at hk;omega)
   | false =>
    obtain⟨fs,hu,cj,hf⟩:=jP.st ht ha;obtain⟨xs,n,hn,rfl,vE,rE,hx⟩:=DataW.trod_struct hu h;obtain rfl:n=fuel:=by omega
    have iP:cs.length=(s.dv.map Ty.size).sum:=by
     rw[vE,nO ht];cases s<;>rfl
    exact Gv (w:=w) (S:=(·<w.heap.size)) s.dv cs iP (λ i t hi=>by
     have bz:i<fs.size:=by rw[cj];exact (b1h.1 hi).1
     obtain⟨t',b',e',g1,g2,g3⟩:=hf i (fs[i]'bz) (b1L bz);rw[hi] at g1;cases g1;have hy:=hx i (fs[i]'bz) (b1L bz);have hz:xs[i]?=some (xs[i]'(by omega)):=b1a (by omega);rw[hz,nO g2,g3] at hy;refine ih t _ b' e' _ _ g2 hy ?_;have h3:=Jn (d:=(xs[i]'(by omega)).1) (l:=xs.map (·.1)) (b0P.2 ⟨_,b2B _,rfl⟩);simp only[Rows.uptoBulk] at hk;omega)
  obtain⟨y,hy⟩:=aL.WS s fl h1;refine⟨y,?_⟩;show Rd w _ (s.aK y) cs;rw[aL.bX,aL.E9,hy];exact h2
end
end Go.Proofs.YtofnjfpeimhifaaGreatDoor

namespace Go.Proofs.YtofnjfpeimhifaaGreatDoor
open Go.ChangeShapes Go.WideShapes Go.ChangeAt Go.RowKit
theorem XL:laidOutB prog=true:=by kernel_rfl
theorem a0h:ownKnob prog.godebug=none:=by kernel_rfl
section
variable {H:Type} {enc:TypeId×Value->H}
theorem FQ{W W':World}{sp:Nat->Bool}(hb:Below W.heap.size W W'):∀ (ts:List TypeId) {vs:List Value} {ds:List (DataW H)} {ps:List MemPlace},(∀ t∈ts,prog.readableRec t=true/\t<prog.types.size) ->
  DataW.TrodAll enc prog W 0 (λ _=>true) true ts vs ds ps->(∀ p∈ps,p.block<W.heap.size)->(∀ p∈ps,sp p.block=true)->DataW.TrodAll enc prog W' 0 sp true ts vs ds ps
 | [],[],[],ps,_,h,_,_=>h
 | t::ts,v::vs,d::ds,ps,ht,h,bz,Tu=>by
  obtain⟨p,q,h1,h2,rfl⟩:=h;refine⟨p,q,?_,?_,rfl⟩
  .exact WideElems.Trod_stays XL (ht t (by simp)).1 (ht t (by simp)).2 h1 (λ x hx=>hb.same (bz x (by simp[hx]))) (λ x hx=>Tu x (by simp[hx]))
  .exact FQ hb ts (λ t h=>ht t (by simp[h])) h2 (λ x hx=>bz x (by simp[hx])) (λ x hx=>Tu x (by simp[hx]))
 | [],_::_,_,_,_,h,_,_=>h.elim
 | [],[],_::_,_,_,h,_,_=>h.elim
 | _::_,[],_,_,_,h,_,_=>h.elim
 | _::_,_::_,[],_,_,h,_,_=>h.elim
theorem VM{f:Func}{s:ChangeSpec}{apart fresh handsOn again:Bool}{W W':World}{args:Array Value}{v:Value}{ds gs:List (DataW H)}{before pa pv:List MemPlace}
  (hW:DataW.Whole enc prog f.params.toList s.vars apart W args.toList ds gs before)
  (RV:∀ (b:Nat) (sp:Nat->Bool) (hd:Bool),DataW.TrodAll enc prog W' b sp hd f.resultTypes.toList (v.resultList f.resultTypes.size) (s.fn H (ds++gs)).results [])
  (dP:∀ sp:Nat->Bool,(∀ p∈before,sp p.block=true)->DataW.TrodAll enc prog W' 0 sp true f.params.toList args.toList (s.fn H (ds++gs)).args pa)
  (Pc:∀ sp:Nat->Bool,(∀ p∈before,sp p.block=true)->DataW.TrodVars enc prog W' sp s.vars (s.fn H (ds++gs)).vars pv)
  (hps:before=pa++pv) (hb:Below W.heap.size W W')
  (hok:∀ (j:Nat) (t:TypeId) (r:Value),f.resultTypes[j]?=some t->(v.resultList f.resultTypes.size)[j]?=some r->Value.okWide prog W' .any 0 t r) :
  s.post enc prog f apart fresh handsOn again W args v W':=by
 have bz:∀ p∈before,p.block<W.heap.size:=λ p hp=>hW.lt p hp;have hold:∀ p∈before,(λ b=>decide (b<W.heap.size)) p.block=true:=λ p hp=>by simpa using bz p hp
 refine⟨ds,gs,before,[],pa,pv,hW,RV _ _ _,dP _ hold,Pc _ hold,World.keptBut_mono (λ p hp=>⟨hp,?_⟩) (hb.frame (·∈before)),λ _=>?_⟩
 .rw[hps,b0K] at hp;exact Or.inr hp
 .obtain⟨_,_,_,_,_,hz,hn⟩:=hW;refine⟨hok,_,_,([]++pa)++pv,⟨[]++pa,pv,trodAll_append (dP _ (λ _ _=>rfl)) (RV _ _ _),Pc _ (λ _ _=>rfl),rfl,?_,?_⟩,?_⟩
  .intro b off hp;have fu:MemPlace.cell b off∈before:=by rw[hps];simpa using hp
   rw[hb.frozen (bz _ fu)];exact hz b off fu
  .intro ha;have:=hn ha;rw[hps] at this;simpa using this
  .intro p hp _;rw[hps];simpa using hp
def V0(τ:Ty)(v:Value):Prop:=match τ with
 | .st _=>∃ cs,v = .agg cs
 | _=>v.cells = #[v]
theorem a4n{w:World}{S:Nat->Prop}(τ:Ty)(y:τ.den){v:Value}(hv:V0 τ v)(h:Rd w S (τ.aK y) v.cells.toList):dI w S ⟨τ,y⟩ v:=by
 cases τ with
 | st s =>
  obtain⟨cs,rfl⟩:=hv;exact⟨cs.toList,by simp,h⟩
 | int k=>simp only[show v.cells = #[v] from hv] at h;exact h
 | bool=>simp only[show v.cells = #[v] from hv] at h;exact h
 | str=>simp only[show v.cells = #[v] from hv] at h;exact h
 | slice t=>simp only[show v.cells = #[v] from hv] at h;exact h
 | mv t=>simp only[show v.cells = #[v] from hv] at h;exact h
 | ptr=>simp only[show v.cells = #[v] from hv] at h;exact h
theorem Uv{w:World}:∀ (ts:List TypeId) (τs:List Ty) {vs:List Value} {ds:List (DataW H)} {ps:List MemPlace},aN (λ T τ=>∃ b e,ai AF T=some (τ,b,e)) ts τs ->
  DataW.TrodAll enc prog w 0 (λ _=>true) true ts vs ds ps->(∀ d∈ds,Rows.uptoBulk d<=1048576)->(∀ (j:Nat) t v,ts[j]?=some t->vs[j]?=some v->Value.okWide prog w .any 0 t v\/∃ b,Value.okWide prog w .any b t v) ->
  ∃ JK:List TV,JK.map TV.τ=τs/\ds.length=τs.length/\aN (tw prog w (·<w.heap.size)) (JK.map .val) vs
 | [],[],[],[],_,_,_,_,_=>⟨[],rfl,rfl,ag⟩
 | T::ts,τ::τs,v::vs,d::ds,ps,ht,h,hk,hv=>by
  obtain⟨p,q,⟨n,h1⟩,h2,rfl⟩:=h;obtain⟨⟨b,e,hT⟩,Kv⟩:=ht;obtain⟨y,hy⟩:=VP n τ T b e _ _ hT h1 (hk d (by simp));obtain⟨JK,g1,g2,g3⟩:=Uv ts τs Kv h2 (λ d hd=>hk d (by simp[hd])) (λ j t v hj CN=>hv (j+1) t v hj CN);refine⟨⟨τ,y⟩::JK,by simp[g1],by simp[g2],⟨?_,g3⟩⟩;refine a4n τ y ?_ hy;have IU:=hv 0 T v rfl rfl;have key:∀ b,Value.okWide prog w .any b T v->V0 τ v:=by
   intro b' hb;cases τ with
   | st s =>
    cases ha:s.arr with
    | true =>
     obtain⟨e',hu,_⟩:=jP.arr hT ha;simp only[Value.okWide,hu] at hb;obtain⟨cs,rfl,_⟩:=hb;exact⟨cs,rfl⟩
    | false =>
    obtain⟨fs,hu,_⟩:=jP.st hT ha;simp only[Value.okWide,hu] at hb;obtain⟨cs,rfl,_⟩:=hb;exact⟨cs,rfl⟩
   | int k =>
    have hu:=jP.int hT;simp only[Value.okWide,hu,Cell.okWide,Cell.ok] at hb;cases v<;>first|rfl|cases hb
   | bool =>
    have hu:=jP.bool hT;simp only[Value.okWide,hu,Cell.okWide,Cell.ok] at hb;cases v<;>first|rfl|cases hb
   | str =>
    have hu:=jP.str hT;simp only[Value.okWide,hu,Cell.okWide,Cell.ok] at hb;cases v<;>first|rfl|cases hb
   | mv t=>exact (jP.a2x hT).elim
   | ptr =>
    obtain⟨t,hu⟩:=jP.ptr hT;simp only[Value.okWide,hu,Cell.okWide,Cell.ok] at hb;cases v<;>first|rfl|cases hb
   | slice t =>
    have hu:=(jP.slice hT).1;simp only[Value.okWide,hu,Cell.okWide,Cell.ok] at hb;cases v<;>first|rfl|cases hb
  rcases IU with h|⟨b',h⟩
  .exact key _ h
  .exact key _ h
 | [],_::_,_,_,_,h,_,_,_=>h.elim
 | _::_,[],_,_,_,h,_,_,_=>h.elim
 | [],[],_::_,_,_,_,h,_,_=>h.elim
 | [],[],[],_::_,_,_,h,_,_=>h.elim
 | _::_,_::_,[],_,_,_,h,_,_=>h.elim
 | _::_,_::_,_::_,[],_,_,h,_,_=>h.elim
noncomputable def a4U(g:Nat):Bool:=g<prog.globals.size&&match ((begin prog (λ _ _=>0) default).world.heap[g]?).bind Obj.row? with
 | some (zero,t)=>zero.size == 1&&prog.buildable t&&(match prog.cellTypes prog.depth t with|some [u]=>u == t|_=>false)&&(match prog.underlying t with|some (.int .i64)=>true|_=>false)
 | none=>false
theorem ZQ:WZ.all a4U=true:=by kernel_rfl
theorem OO{W:World}(h:W.ShapedOpen prog):iZ W (·<W.heap.size):=⟨λ _ h=>h,λ g hg=>by
 have hk:=List.all_eq_true.1 ZQ g hg;unfold a4U at hk;rw[Bool.and_eq_true] at hk;obtain⟨h1,h2⟩:=hk;split at h2
 .rename_i zero t h0;simp only[b0U] at h2;obtain⟨⟨⟨k1,k2⟩,k3⟩,k4⟩:=h2;have k3':prog.cellTypes prog.depth t=some [t]:=by
   split at k3
   .rename_i u hu;rw[hu,eq_of_beq k3]
   .cases k3
  have k4':prog.underlying t=some (.int .i64):=by
   split at k4
   .rename_i hu;exact hu
   .cases k4
  obtain⟨m,hm⟩:=cell_of_shapedOpen_int h (of_decide_eq_true h1) h0 (eq_of_beq k1) k2 k3' k4';refine⟨?_,m,hm⟩;unfold World.cell? at hm;rcases Nat.lt_or_ge g W.heap.size with q|q
  .exact q
  .rw[show W.heap[g]?=none from b2f q] at hm;cases hm
 .cases h2⟩
theorem a2c{n:FuncId}{fn:Func}{s:ChangeSpec}{τs:List Ty}{handsOn again:Bool}(Z8:aN (λ T τ=>∃ b e,ai AF T=some (τ,b,e)) fn.params.toList τs)
  (Tt:∀ t∈fn.params.toList,prog.readableRec t=true/\t<prog.types.size) (hr:fn.resultTypes = #[HN]) (Pc:s.vars=[])
  (hs:∀ ds:List (DataW H),ds.length=τs.length->s.fn H ds={ results:=[.lit (.bool true)],args:=ds })
  (a8R:∀ JK:List TV,JK.map TV.τ=τs->gC prog n (JK.map .val) (·=[⟨.bool,true⟩]))
  {W:World} {base:Nat} {args:Array Value} {ds gs:List (DataW H)} {before:List MemPlace}
  (Vg:∀ (j:Nat) t v,fn.params[j]?=some t->args[j]?=some v->Value.okWide prog W .any base t v)
  (hW:DataW.Whole enc prog fn.params.toList s.vars false W args.toList ds gs before) (hk:Rows.uptoSmall H (ds++gs)=true) (BR:iZ W (·<W.heap.size)) :
  Calls prog n args W λ e W'=>∃ v,e = .returned v/\s.post enc prog fn false true handsOn again W args v W':=by
 have hW':=hW;obtain⟨p,q,hA,hV,Z4,hfz,dh⟩:=hW;rw[Pc] at hV;obtain⟨rfl,rfl⟩:=trodVars_none hV;have W8:∀ d∈ds,Rows.uptoBulk d<=1048576:=by
  intro d hd;have h1:=Jn hd;simp only[Rows.uptoSmall,b1E,b0R] at hk;omega
 obtain⟨JK,h1,h2,h3⟩:=Uv fn.params.toList τs Z8 hA W8 (λ j t v hj CN => .inr ⟨base,Vg j t v (by simpa using hj) (by simpa using CN)⟩);have jL:=a8R JK h1 W (·<W.heap.size) args.toList BR h3;rw[show args.toList.toArray=args by simp] at jL;refine jL.mono λ e W'=>?_;rintro⟨x,S',res,rfl,rfl,hJ,OT,ZU,RV⟩;have hx:x = .bool true:=by
  have hx:dI W' S' ⟨.bool,true⟩ x:=RV;have hx:[x]=[Value.bool true]:=hx;simpa using hx
 subst hx;have hb:Below W.heap.size W W':=⟨hJ.os,hJ.tape,hJ.output,hJ.size,λ k hk=>hJ.block k hk (λ h=>h)⟩;refine⟨_,rfl,VM (pa:=p) (pv:=[]) hW' ?_ ?_ ?_ Z4 hb ?_⟩
 .intro b sp hd;rw[hs _ (by simpa using h2),hr];exact trodAll_mk1 ⟨1,by
   have hu:prog.underlying HN=some .bool:=by kernel_rfl
   simp only[DataW.trod,Value.cells];rw[hu]⟩
 .intro sp Tu;rw[hs _ (by simpa using h2),List.append_nil];have bz:∀ x∈before,x.block<W.heap.size:=λ x hx=>hW'.lt x hx;rw[Z4] at bz Tu;exact FQ hb _ Tt hA (λ x hx=>bz x (by simp[hx])) (λ x hx=>Tu x (by simp[hx]))
 .intro sp Tu;rw[hs _ (by simpa using h2),Pc];rfl
 .refine ok_one hr rfl ?_;have hu:prog.underlying HN=some .bool:=by kernel_rfl
  simp[Value.okWide,hu,Cell.okWide,Cell.ok]
end
end Go.Proofs.YtofnjfpeimhifaaGreatDoor

namespace Go.Proofs.YtofnjfpeimhifaaGreatDoor
def cV{α:Type}(f:α->Nat):List α->Nat
 | []=>0
 | x::xs=>f x+cV f xs
section
variable {α:Type} (f:α->Nat)
theorem nD(d:α):∀ (xs:List α) (k:Nat),k<xs.length->cV f (xs.take (k+1))=cV f (xs.take k)+f (xs.getD k d)
 | [],k,h=>by simp at h
 | x::xs,0,h=>by simp[cV]
 | x::xs,k+1,h=>by
  have:=nD d xs k (by simpa using h);simp[cV] at this ⊢;omega
theorem eH:∀ (xs:List α) (k:Nat),cV f (xs.take k)<=cV f xs
 | [],k=>by simp
 | x::xs,0=>by simp[cV]
 | x::xs,k+1=>by
  have:=eH xs k;simp[cV];omega
theorem u6(xs:List α)(k:Nat):xs.length<=k->cV f (xs.take k)=cV f xs:=λ h=>by rw[b1I h]
theorem Eg(xs:List α):cV f (xs.take 0)=0:=by simp[cV]
theorem Lj(d:α):∀ (xs:List α) (k:Nat),k<xs.length->f (xs.getD k d)<=cV f xs
 | [],k,h=>by simp at h
 | x::xs,0,h=>by simp[cV]
 | x::xs,k+1,h=>by
  have:=Lj d xs k (by simpa using h);simp[cV] at this ⊢;omega
end
def EZ(t:Nat)(left:Int):Int:=if (t:Int)<=left then left - t else -1
theorem Eh(t:Nat)(left:Int):((t:Int)<=left/\EZ t left=left - t)\/(left<(t:Int)/\EZ t left = -1):=by
 unfold EZ;split
 .exact .inl ⟨by assumption,rfl⟩
 .exact .inr ⟨by omega,rfl⟩
noncomputable def iM{α:Type}(a b:α):Bool := @decide (a=b) (Classical.propDecidable _)
@[simp] theorem Cu{α:Type}{a b:α}:iM a b=true↔a=b:=by simp[iM]
@[simp] theorem RF{α:Type}{a b:α}:iM a b=false↔a≠b:=by simp[iM]
@[simp] theorem a7s{α:Type}{a:α}:iM a a=true:=by simp[iM]
section
variable {α:Type}
theorem nf(d:α):∀ (xs:List α) (k:Nat),k<xs.length->xs.take (k+1)=xs.take k++[xs.getD k d]
 | [],k,h=>by simp at h
 | x::xs,0,h=>by simp
 | x::xs,k+1,h=>by
  have:=nf d xs k (by simpa using h);simp at this ⊢;exact this
theorem AE(d:α)(xs ys:List α)(k:Nat)(h1:k<xs.length)(h2:k<ys.length)(h:xs.take k=ys.take k)(e:xs.getD k d=ys.getD k d):xs.take (k+1)=ys.take (k+1):=by
 rw[nf d xs k h1,nf d ys k h2,h,e]
theorem oD(xs ys:List α)(k:Nat)(h1:xs.length<=k)(h2:ys.length<=k)(h:xs.take k=ys.take k):xs=ys:=by
 rwa [b1I h1,b1I h2] at h
def fill(xs:List α)(k:Nat)(z:α):List α:=xs.take k++List.replicate (xs.length - k) z
end
def iK{α:Type}(f:α->Nat):List α->Nat
 | []=>0
 | x::xs=>max (f x) (iK f xs)
section
variable {α:Type} (f:α->Nat)
theorem pC(d:α):∀ (xs:List α) (k:Nat),k<xs.length->iK f (xs.take (k+1))=max (iK f (xs.take k)) (f (xs.getD k d))
 | [],k,h=>by simp at h
 | x::xs,0,h=>by simp[iK]
 | x::xs,k+1,h=>by
  have:=pC d xs k (by simpa using h);simp[iK] at this ⊢;omega
theorem ia:∀ (xs:List α) (k:Nat),iK f (xs.take k)<=iK f xs
 | [],k=>by simp
 | x::xs,0=>by simp[iK]
 | x::xs,k+1=>by
  have:=ia xs k;simp[iK];omega
theorem yM(xs:List α)(k:Nat):xs.length<=k->iK f (xs.take k)=iK f xs:=λ h=>by rw[b1I h]
theorem PJ(xs:List α):iK f (xs.take 0)=0:=by simp[iK]
theorem PI(d:α):∀ (xs:List α) (k:Nat),k<xs.length->f (xs.getD k d)<=iK f xs
 | [],k,h=>by simp at h
 | x::xs,0,h=>by simp[iK];omega
 | x::xs,k+1,h=>by
  have:=PI d xs k (by simpa using h);simp[iK] at this ⊢;omega
end
def cM{α:Type}(f:α->Bool):List α->Bool
 | []=>true
 | x::xs=>f x&&cM f xs
section
variable {α:Type} (f:α->Bool)
theorem HR:∀ (xs ys:List α),cM f (xs++ys)=(cM f xs&&cM f ys)
 | [],ys=>by simp[cM]
 | x::xs,ys=>by simp[cM,HR xs ys,Bool.and_assoc]
theorem ez(d:α)(xs:List α)(k:Nat)(h:k<xs.length):cM f (xs.take (k+1))=(cM f (xs.take k)&&f (xs.getD k d)):=by
 rw[nf d xs k h,HR];simp[cM]
theorem eQ(d:α):∀ (xs:List α) (k:Nat),k<xs.length->f (xs.getD k d)=false->cM f xs=false
 | [],k,h,_=>by simp at h
 | x::xs,0,h,e=>by simp at e;simp[cM,e]
 | x::xs,k+1,h,e=>by
  have:=eQ d xs k (by simpa using h) (by simpa using e);simp[cM,this]
theorem eJ(xs:List α)(k:Nat):xs.length<=k->cM f (xs.take k)=cM f xs:=λ h=>by rw[b1I h]
theorem all_zero(xs:List α):cM f (xs.take 0)=true:=by simp[cM]
theorem xP(d:α):∀ (xs:List α) (k:Nat),k<xs.length->cM f xs=true->f (xs.getD k d)=true
 | [],k,h,_=>by simp at h
 | x::xs,0,h,e=>by simp[cM] at e;simp[e.1]
 | x::xs,k+1,h,e=>by
  simp only[cM,Bool.and_eq_true] at e;have:=xP d xs k (by simpa using h) e.2;simpa using this
end
end Go.Proofs.YtofnjfpeimhifaaGreatDoor

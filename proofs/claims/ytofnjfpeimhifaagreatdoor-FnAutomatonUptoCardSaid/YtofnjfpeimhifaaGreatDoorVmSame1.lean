/- VmDraw3, VmFrz, VmMix, VmDraw4, VmGuard, VmCode, VmFun, VmOwnFun, VmStFun, VmTab, VmNew, VmUse, VmOpen, VmRow, VmLib, VmSame1. -/
import Derived.Test.YtofnjfpeimhifaaGreatDoorVmDraw2
import Derived.Deep.LoopGhost
import Derived.Test.YtofnjfpeimhifaaGreatDoorChecked
import Derived.WalkKit
import Derived.Test.YtofnjfpeimhifaaGreatDoorRows
import Derived.ProofKit
import Derived.OpenShut
import Derived.JoinedCond
import Derived.Carry
import Derived.ChangeSame
import Derived.Shelf.Vars
set_option linter.all false
set_option maxHeartbeats 4000000
set_option maxRecDepth 100000
namespace Go.Proofs.YtofnjfpeimhifaaGreatDoor
def b1Q:=@List.any_eq_false
def b0s:=@Array.getElem?_eq_some_iff
def b3u:=@Ne.symm
def b1z:=@List.eq_nil_iff_forall_not_mem
def b0q:=@Array.size_setIfInBounds
def b1A:=@of_decide_eq_false
def b1H:=@Nat.testBit_two_pow_sub_one
def b2U:=@Classical.not_forall
def b2u:=@Classical.not_imp
def b0W:=@List.mem_append_left
def b3i:=@List.map_congr_left
def b1I:=@List.not_mem_nil
def b2V:=@or_false
def b2B:=@forall_eq_or_imp
def b0o:=@Array.getElem?_eq_none
def a8Z:=@decide_eq_false_iff_not
def b0T:=@List.mem_filterMap
def b2k:=@List.foldl_nil
def b2w:=@Nat.blt_eq
def b1Z:=@ne_eq
def b2C:=@List.filter_cons
def b0l:=@List.mem_filter
def b0A:=@List.mem_of_mem_erase
def b2W:=@List.perm_cons_erase
def b1J:=@List.Sublist.map
def b2m:=@List.erase_sublist
def b1k:=@List.mem_erase_of_ne
def b2D:=@List.any_eq_true
def b2E:=@Option.isSome_iff_exists
def b2F:=@List.perm_middle
def a9J:=@Bool.not_false
def b3j:=@List.filter_sublist
def b2X:=@Bool.or_eq_false_iff
def b2a:=@List.map_map
def b3e:=@Bool.false_or
def b2x:=@Go.wp_mono
def b2R:=@Array.getElem?_toList
def b3x:=@Go.calls_of_wp
def b0U:=@Array.mapM_eq_mapM_toList
def b2l:=@Go.Sem.run_map
def b1K:=@Bool.and_eq_true_iff
def a9K:=@Nat.not_lt_zero
def a9o:=@Nat.lt_succ_self
theorem Cn{l:List Oper}{D:Nat->Prop}(hD:∀ (k:Nat),D k->∀ (o:Oper),l[k]?=some o->∀ e∈o.after.toList,Region.binds .any e=true->D e.on):∀ (i:Nat) (o:Oper),l[i]?=some o->(∀ e∈o.after.toList,Region.binds .any e=true->D e.on) ->
  ∀ k,Nat.testBit ((bG l []).getD i 0) k=true->D k:=by
 obtain⟨r,h1,h2,h3⟩:=wb l [];rw[h1];simp only[List.nil_append,List.length_nil,Nat.zero_add] at h3 ⊢;intro i;induction i using Nat.strongRecOn with
 | _ i ih =>
  intro o ho a6U k hk;obtain⟨e,he,hb,h⟩:=h3 i o ho k hk;have hde:=a6U e he hb;rcases h with rfl|⟨bj,h⟩
  .exact hde
  .have Y9:i<l.length:=(a9p.1 ho).1;have hp:l[e.on]?=some (l[e.on]'(by omega)):=a9j (by omega);exact ih e.on bj _ hp (λ e' yJ cm=>hD e.on hde _ hp e' yJ cm) k h
theorem bK{l:List Oper}(h:backward l=true):∀ (i:Nat) (o:Oper),l[i]?=some o->∀ e∈o.after.toList,Region.binds .any e=true->e.on<i:=by
 intro i o ho e he hb;unfold backward at h;rw[List.all_eq_true] at h;have hi:i<l.length:=(List.getElem?_eq_some_iff.1 ho).1;have:=h i (by simpa using hi);rw[ho] at this;simp only[List.all_eq_true] at this;have:=this e he;rw[hb] at this;simpa [Nat.blt_eq] using this
theorem CF:∀ {ds:List (Option Nat)},distinct ds=true->(∀ d∈ds,∃ t,d=some t)/\∀ (j k t:Nat),ds[j]?=some (some t)->ds[k]?=some (some t)->j=k
 | [],_=>⟨by simp,by simp⟩
 | none::_,h=>by cases h
 | some d::r,h=>by
  simp only[distinct] at h;split at h
  .cases h
  .rename_i UR;obtain⟨h1,h2⟩:=CF h;have iv:∀ x∈r,x≠some d:=by
    intro x hx e;subst e;rw[b1Q] at UR;have:=UR _ hx;simp at this
   refine⟨λ x hx=>?_,λ j k t hj hk=>?_⟩
   .rcases a9k.1 hx with rfl|hx
    .exact⟨d,rfl⟩
    .exact h1 x hx
   .cases j with
    | zero =>
     simp at hj;subst hj;cases k with
     | zero=>rfl
     | succ k=>exact absurd rfl (iv _ (List.mem_of_getElem? (by simpa using hk)))
    | succ j =>
     cases k with
     | zero =>
      simp at hk;subst hk;exact absurd rfl (iv _ (List.mem_of_getElem? (by simpa using hj)))
     | succ k=>rw[h2 j k t (by simpa using hj) (by simpa using hk)]
theorem mem_ready{ops:Array Oper}{listed:Array Bool}{i:Nat}(hs:listed.size=ops.size):i∈Region.ready .any ops listed↔∃ o,ops[i]?=some o/\listed.getD i false=false/\∀ e∈o.after.toList,Region.binds .any e=true->listed.getD e.on false=true:=by
 unfold Region.ready;simp only[List.mem_filter,List.mem_range,Bool.and_eq_true,Bool.not_eq_true'];constructor
 .rintro⟨hi,h1,h2⟩;have ho:ops[i]?=some ops[i]:=a9S hi;rw[ho] at h2;simp only[b1v,b1b] at h2;refine⟨_,ho,?_,λ e he hb=>?_⟩
  .have:i<listed.size:=by omega
   simpa [Array.getD_eq_getD_getElem?,this] using h1
  .rw[Array.all_eq_true_iff_forall_mem] at h2;have:=h2 e (by simpa using he);simpa [hb] using this
 .rintro⟨o,ho,h1,h2⟩;have hi:i<ops.size:=(b0s.1 ho).1;refine⟨hi,?_,?_⟩
  .have:i<listed.size:=by omega
   simpa [Array.getD_eq_getD_getElem?,this] using h1
  .rw[ho];simp only[b1v,b1b];rw[Array.all_eq_true_iff_forall_mem];intro e he;cases hb:Region.binds .any e with
   | false=>simp
   | true=>simp[h2 e (by simpa using he) hb]
theorem qL{listed:Array Bool}{i k:Nat}(hi:i<listed.size):(listed.setIfInBounds i true).getD k false=true↔listed.getD k false=true\/k=i:=by
 rw[a9G,a9G,b2j];by_cases h:i=k
 .subst h;simp[hi]
 .simp[h,b3u h]
section
variable {c:Ctx} {G:Gh} {s:ag} {a:Act} {w w':World}
theorem H9(hE:bn c.P c.E){ops:Array Oper}{m:Nat}(dy:backward ops.toList=true)(oe:∀ j o,m<=j->ops.toList[j]?=some o->∀ k,k<j->Nat.testBit ((bG ops.toList []).getD j 0) k=true)
  {Q:ag->Prop} {Q':Exit->Act->World->Prop} (hQ:∀ G s a w,Inv c G s a w->Q s->Q' .normal a w) :
  ∀ (fuel j:Nat) (kn:List (Nat×Bool)) (G:Gh) (s:ag) (a:Act) (w:World) (listed:Array Bool),m<=j->ops.size<=j+fuel->listed.size=ops.size->(∀ k,k<ops.size->(listed.getD k false=true↔k<j)) ->
   Inv c G s a w->eD c.E ops (ops.toList.drop j) kn Q s->wpAny c.P .any ops Q' fuel listed a w:=by
 intro fuel;induction fuel with
 | zero =>
  intro j kn G s a w listed hmj hf bZ hl hI hr;have iK:ops.toList.drop j=[]:=b1c (by simp;omega);rw[iK] at hr;refine⟨?_,hQ _ _ _ _ hI hr⟩;apply b1z.2;intro i hi;obtain⟨o,ho,h1,_⟩:=(mem_ready bZ).1 hi;have bj:=(b0s.1 ho).1;have:=(hl i bj).2 (by omega);rw[h1] at this;cases this
 | succ fuel ih =>
  intro j kn G s a w listed hmj hf bZ hl hI hr;by_cases hj:j<ops.size
  .have ho:ops[j]?=some ops[j]:=a9S hj;have a5l:ops.toList.drop j=ops[j]::ops.toList.drop (j+1):=by
    rw[List.drop_eq_getElem_cons (by simpa using hj)];simp
   rw[a5l] at hr;constructor
   .intro iK;have:j∈Region.ready .any ops listed:=(mem_ready bZ).2 ⟨_,ho,by
     cases hb:listed.getD j false with
     | false=>rfl
     | true=>have:=(hl j hj).1 hb;omega,λ e he hb=>by
     have:=bK dy j ops[j] (by simp) e he hb;exact (hl e.on (by omega)).2 this⟩
    rw[iK] at this;cases this
   .intro i hi;obtain⟨o,cg,h1,h2⟩:=(mem_ready bZ).1 hi;have Fq:=(b0s.1 cg).1;have Tf:j<=i:=by
     rcases a9O i j with h|h
     .have:=(hl i Fq).2 h;rw[h1] at this;cases this
     .exact h
    have uK:i=j:=by
     rcases a9O j i with h|h
     .have fe:=Cn (l:=ops.toList) (D:=λ k=>k<j) (λ k hk o' cE e he hb=>by
       have:=bK dy k o' cE e he hb;omega) i o (by simpa using cg) (λ e he hb=>by
        have bj:=bK dy i o (by simpa using cg) e he hb;exact (hl e.on (by omega)).1 (h2 e he hb)) j (oe i o (by omega) (by simpa using cg) j h)
      omega
     .omega
    subst uK;have hoe:o=ops[i]:=by rw[ho] at cg;exact (b0g cg).symm
    have Bi:∀ k,k<ops.size->((listed.setIfInBounds i true).getD k false=true↔k<i+1):=λ k hk=>by
     rw[qL (by omega),hl k hk];omega
    unfold wpOp;simp only[ho];have uO:=zK hE hI hr;split at uO
    .rename_i hw;rw[a9l hw];exact .inl (b0v (λ a' w' ⟨G',s',nc,h1,h2⟩=>ih (i+1) nc G' s' a' w' _ (by omega) (by omega) (by rw[b0q];exact bZ) Bi h1 h2) (uO Q'))
    .rename_i hw;rw[a9c hw];obtain⟨G',s',nc,h1,h2⟩:=uO;exact ih (i+1) nc G' s' _ w _ (by omega) (by omega) (by rw[b0q];exact bZ) Bi h1 h2
  .have iK:ops.toList.drop j=[]:=b1c (by simp;omega);rw[iK] at hr;have ff:Region.ready .any ops listed=[]:=by
    apply b1z.2;intro i hi;obtain⟨o,ho,h1,_⟩:=(mem_ready bZ).1 hi;have bj:=(b0s.1 ho).1;have:=(hl i bj).2 (by omega);rw[h1] at this;cases this
   exact⟨λ _=>hQ _ _ _ _ hI hr,λ i hi=>by rw[ff] at hi;cases hi⟩
theorem Fp{l:List Oper}{ops:Array Oper}(hl:ops.toList=l){bits:Nat}{o:Oper}{E7:Bool}(h:Inv c G s a w)(hg:fC l bits s o E7):Region.wanted o (yielded ops a.tmps)=E7:=by
 unfold fC at hg;split at hg
 .rename_i hn;simp[Region.wanted,hn,hg]
 .rename_i g want hn;obtain⟨t,v,h1,_,h3,h4⟩:=hg;have hx:=aW h (.tmp t);rw[h3] at hx;have hs:uE ops g=some t:=by
   unfold uE;rw[<-h1];unfold cf;rw[<-hl];simp
  unfold GV at h4;split at h4
  .have hy:=GN (s:=s) hs hx;simp[Region.wanted,hn,hy,h4]
  .have hy:=CW (s:=s) hs hx;simp[Region.wanted,hn,hy,h4]
  .exact h4.elim
theorem Wi(hE:bn c.P c.E){ops:Array Oper}{m:Nat}{es:List JY}{s0:ag}(dy:backward ops.toList=true)(hm:m<=ops.size)
  (oe:∀ j o,m<=j->ops.toList[j]?=some o->∀ k,k<j->Nat.testBit ((bG ops.toList []).getD j 0) k=true)
  (og:∀ j k t,j<m->k<m->cf ops.toList j=some t->cf ops.toList k=some t->j=k)
  (a0R:∀ i o,i<m->ops.toList[i]?=some o->NV c.E ops.toList m ((bG ops.toList []).getD i 0) (dE ops.toList es s0 (List.range i)) o (es.getD i ⟨false, .any,none⟩))
  (GO:∀ i o,i<m->ops.toList[i]?=some o->rf o.dst=true) (pJ:∀ i o t,i<m->ops.toList[i]?=some o->ub o.op=true->o.dst=some t->s0.af t=none)
  {Q:ag->Prop} {Q':Exit->Act->World->Prop} (hQ:∀ G s a w,Inv c G s a w->Q s->Q' .normal a w) {kn:List (Nat×Bool)} (O4:∀ G a w,Inv c G (dE ops.toList es s0 (List.range m)) a w->eD c.E ops (ops.toList.drop m) kn Q (dE ops.toList es s0 (List.range m))) :
  ∀ (fuel:Nat) (π:List Nat) (G:Gh) (a:Act) (w:World) (listed:Array Bool),ops.size=π.length+fuel->π.Nodup->(∀ k∈π,k<m)->listed.size=ops.size->(∀ k,k<ops.size->(listed.getD k false=true↔k∈π)) ->
   (∀ k∈π,∀ o,ops.toList[k]?=some o->∀ e∈o.after.toList,Region.binds .any e=true->e.on∈π)->Inv c G (dE ops.toList es s0 π) a w->wpAny c.P .any ops Q' fuel listed a w:=by
 intro fuel;induction fuel with
 | zero =>
  intro π G a w listed hf hn bj bZ hl uJ hI;have hlen:=tz m π hn bj;have iu:∀ k,k<m->k∈π:=λ k hk=>by
   cases hb:decide (k∈π) with
   | true=>exact a9y hb
   | false =>
    have:=tz m (k::π) (a9z.2 ⟨b1A hb,hn⟩) (λ j hj=>by
     rcases a9k.1 hj with rfl|hj
     .exact hk
     .exact bj j hj)
    simp at this;omega
  suffices vT:Inv c G (dE ops.toList es s0 (List.range m)) a w from H9 hE dy oe hQ 0 m kn G (dE ops.toList es s0 (List.range m)) a w listed (a9n _) (by omega) bZ (λ k hk=>by rw[hl k hk];exact⟨bj k,iu k⟩) vT (O4 G a w vT)
  have heq:∀ t,(dE ops.toList es s0 π).sl t=(dE ops.toList es s0 (List.range m)).sl t/\(dE ops.toList es s0 π).af t=(dE ops.toList es s0 (List.range m)).af t:=λ t =>
   Qk (bits:=2 ^ m - 1) og bj (by simp) hn List.nodup_range (λ k hk _=>⟨iu k hk,by simpa using hk⟩) t (by
    unfold hidden;rw[List.any_eq_false];intro k hk;simp only[List.mem_range] at hk;split
    .split
     .simp[b1H,hk]
     .simp
    .simp)
  unfold Inv at hI ⊢;rw[Ja] at hI ⊢;rw[<-funext λ t=>(heq t).1,<-funext λ t=>(heq t).2];exact hI
 | succ fuel ih =>
  intro π G a w listed hf hn bj bZ hl uJ hI;by_cases iu:∀ k,k<m->k∈π
  .suffices vT:Inv c G (dE ops.toList es s0 (List.range m)) a w from H9 hE dy oe hQ (fuel+1) m kn G (dE ops.toList es s0 (List.range m)) a w listed (a9n _) (by have:=tz m π hn bj;omega) bZ (λ k hk=>by rw[hl k hk];exact⟨bj k,iu k⟩) vT (O4 G a w vT)
   have heq:∀ t,(dE ops.toList es s0 π).sl t=(dE ops.toList es s0 (List.range m)).sl t/\(dE ops.toList es s0 π).af t=(dE ops.toList es s0 (List.range m)).af t:=λ t =>
    Qk (bits:=2 ^ m - 1) og bj (by simp) hn List.nodup_range (λ k hk _=>⟨iu k hk,by simpa using hk⟩) t (by
     unfold hidden;rw[List.any_eq_false];intro k hk;simp only[List.mem_range] at hk;split
     .split
      .simp[b1H,hk]
      .simp
     .simp)
   unfold Inv at hI ⊢;rw[Ja] at hI ⊢;rw[<-funext λ t=>(heq t).1,<-funext λ t=>(heq t).2];exact hI
  ·
   have hex:∃ k,k<m/\k∉π/\∀ j,j<k->j∈π:=by
    have:∀ n,(∃ k,k<n/\k<m/\k∉π)->∃ k,k<m/\k∉π/\∀ j,j<k->j∈π:=by
     intro n;induction n with
     | zero=>rintro⟨k,hk,_⟩;omega
     | succ n Xc =>
      rintro⟨k,hk,hkm,jU⟩;by_cases hs:∃ k,k<n/\k<m/\k∉π
      .exact Xc hs
      .refine⟨k,hkm,jU,λ j hj=>?_⟩;cases hb:decide (j∈π) with
       | true=>exact a9y hb
       | false=>exact absurd ⟨j,by omega,by omega,b1A hb⟩ hs
    refine this m ?_;have h1:∃ k,¬ (k<m->k∈π):=b2U.1 iu;obtain⟨k,hk⟩:=h1;have h2:=b2u.1 hk;exact⟨k,h2.1,h2.1,h2.2⟩
   obtain⟨k0,Ye,kd,U2⟩:=hex;have UX:ops[k0]?=some (ops[k0]'(by omega)):=a9S (by omega);constructor
   .intro iK;have:k0∈Region.ready .any ops listed:=(mem_ready bZ).2 ⟨_,UX,by
     cases hb:listed.getD k0 false with
     | false=>rfl
     | true=>exact absurd ((hl k0 (by omega)).1 hb) kd,λ e he hb=>by
     have L8:=bK dy k0 ops[k0] (by simp) e he hb;exact (hl e.on (by omega)).2 (U2 e.on L8)⟩
    rw[iK] at this;cases this
   .intro i hi;obtain⟨o,cg,h1,h2⟩:=(mem_ready bZ).1 hi;have Fq:=(Array.getElem?_eq_some_iff.1 cg).1;have dW:ops.toList[i]?=some o:=by simpa using cg
    have te:i∉π:=λ hh=>by
     have:=(hl i Fq).2 hh;rw[h1] at this;cases this
    have O3:∀ e∈o.after.toList,Region.binds .any e=true->e.on∈π:=λ e he hb=>by
     have L8:=bK dy i o dW e he hb;exact (hl e.on (by omega)).1 (h2 e he hb)
    have Bg:=Cn (l:=ops.toList) (D:=λ k=>k∈π) (λ k hk o' cE e he hb=>uJ k hk o' cE e he hb) i o dW O3;have qE:i<m:=by
     rcases a9O i m with h|h
     .exact h
     .exact absurd (Bg k0 (oe i o h dW k0 (by omega))) kd
    have IL:=Cn (l:=ops.toList) (D:=λ k=>k<i) (λ k hk o' cE e he hb=>by
     have:=bK dy k o' cE e he hb;omega) i o dW (λ e he hb=>bK dy i o dW e he hb)
    have GX:=λ t hh=>Qk (l:=ops.toList) (es:=es) (s0:=s0) (m:=m) (bits:=(bG ops.toList []).getD i 0) (π:=π) (π':=List.range i) og bj (by intro k hk;simp at hk;omega) hn b1U
     (λ k hk hb=>⟨Bg k hb,by simpa using IL k hb⟩) t hh
    obtain⟨hg,cz,W5⟩:=a0R i o qE dW;have cD:QN ops.toList m ((bG ops.toList []).getD i 0) (dE ops.toList es s0 (List.range i))=QN ops.toList m ((bG ops.toList []).getD i 0) (dE ops.toList es s0 π):=by
     funext x;cases x with
     | tmp t =>
      simp only[QN];split
      .rfl
      .rename_i hh;exact ((GX t hh).1).symm
     | _=>rfl
    have bS:Nn ops.toList m ((bG ops.toList []).getD i 0) (dE ops.toList es s0 (List.range i))=Nn ops.toList m ((bG ops.toList []).getD i 0) (dE ops.toList es s0 π):=by
     funext t;simp only[Nn];split
     .rfl
     .rename_i hh;exact ((GX t hh).2).symm
    have hg':fC ops.toList ((bG ops.toList []).getD i 0) (dE ops.toList es s0 π) o (es.getD i ⟨false, .any,none⟩).E7:=by
     unfold fC at hg ⊢;split
     .rename_i tf;simpa [tf] using hg
     .rename_i g want tf;simp only[tf] at hg;obtain⟨t,b,q1,q2,q3,q4⟩:=hg;refine⟨t,b,q1,q2,?_,q4⟩;have hgm:g<m:=Nat.lt_trans (IL g q2) qE;have hh:hidden ops.toList m ((bG ops.toList []).getD i 0) t=false:=by
       unfold hidden;rw[List.any_eq_false];intro k hk;simp only[List.mem_range] at hk;split
       .rename_i d hd;split
        .rename_i C4;have C4:=a8W C4;subst C4;have:=og k g d hk hgm hd q1;subst this;rw[q2];simp
        .simp
       .simp
      exact ((GX t hh).1).trans q3
    have hw:=Fp (ops:=ops) rfl hI hg';have uL:∀ (G':Gh) (a':Act) (w':World),Inv c G' (dE ops.toList es s0 (π++[i])) a' w'->wpAny c.P .any ops Q' fuel (listed.setIfInBounds i true) a' w':=by
     intro G' a' w' vT;refine ih (π++[i]) G' a' w' _ (by simp;omega) ?_ ?_ (by rw[b0q];exact bZ) ?_ ?_ vT
     .rw[a9s];exact⟨hn,by simp,λ x hx y hy=>by simp at hy;subst hy;exact λ e=>te (e ▸ hx)⟩
     .intro k hk;rcases a8X.1 hk with hk|hk
      .exact bj k hk
      .simp at hk;omega
     .intro k hk;rw[qL (by omega),hl k hk];simp
     .intro k hk o' cE e he hb;rcases a8X.1 hk with hk|hk
      .exact b0W _ (uJ k hk o' cE e he hb)
      .simp at hk;subst hk;rw[dW] at cE;simp only[a8V] at cE;subst cE;exact b0W _ (O3 e he hb)
    have Ky:cf ops.toList i=o.dst:=by simp[cf,dW]
    unfold wpOp;simp only[cg];cases IU:(es.getD i ⟨false, .any,none⟩).E7 with
    | true =>
     rw[IU] at hw;rw[a9l hw];obtain⟨vc,hq,dY⟩:=cz IU;rw[cD,bS] at hq;refine .inl (b0v ?_ (Hj hE hI (lk':=Nn ops.toList m ((bG ops.toList []).getD i 0) (dE ops.toList es s0 π)) ?_ ?_ hq dY))
     .intro a' w' hd;obtain⟨G',oj⟩:=Mc hI (GO i o qE dW) (λ t ob C4 MU=>by
       rw[MU] at hq;have Kx:=Jt hq;have h0:=pJ i o t qE dW Kx C4;have yL:=(fI ops.toList es t π s0 (λ k hk hkd=>by
        have:=og k i t (bj k hk) qE hkd (by rw[Ky];exact C4);subst this;exact te hk)).2
       rw[yL,h0]) hd
      refine uL G' a' w' ?_;rw[tA,Ky];exact oj
     .intro id ob aS;unfold Nn at aS;split at aS
      .cases aS
      .exact aS
     .intro x;cases x with
      | tmp t =>
       simp only[QN];split
       .trivial
       .exact aW hI (.tmp t)
      | const v=>exact aW hI (.const v)
      | global g=>exact aW hI (.global g)
      | func f=>exact aW hI (.func f)
    | false =>
     rw[IU] at hw;rw[hw];obtain⟨hv,MU⟩:=W5 IU;refine uL G _ w ?_;rw[tA,Ky,hv,MU,KY];exact Inv.put (v := .dR) hI rfl
theorem Pp{l:List Oper}{K:Prop}(h:Inv c G s a w):tw l s K->K:=by
 induction l with
 | nil=>exact λ h=>h
 | cons o r ih =>
  intro hk;simp only[tw] at hk;split at hk
  .exact ih (Ec (h.aw _) hk)
  .exact ih hk
theorem Oh(hE:bn c.P c.E)(gV:c.P.follows .mixedOrders=true){id:Nat}{ops:Array Oper}{Q:ag->Prop}{Q':Exit->Act->World->Prop}(hQ:∀ G s a w,Inv c G s a w->Q s->Q' .normal a w)
  (h:Inv c G s a w) (hd:Og c.E ops Q s):(Code.region id ops true).wp c.P Q' a w:=by
 unfold Og at hd;simp only at hd;split at hd;case h_2=>exact hd.elim
 case h_1 hb =>
  simp only[Bool.and_eq_true] at hb;obtain⟨CY,rJ,dy⟩:=hb;obtain⟨r,ha1,ha2,_⟩:=wb ops.toList [];have O2:(bG ops.toList []).length=ops.size:=by rw[ha1];simpa using ha2
  obtain⟨hm1,_,hm3⟩:=x8 (bG ops.toList []) 0 0 (a9n _);simp only[b0t] at hm1 hm3;rw[O2] at hm1;generalize hmd:mC (bG ops.toList []) 0 0=m at *
  have oe:∀ j o,m<=j->ops.toList[j]?=some o->∀ k,k<j->Nat.testBit ((bG ops.toList []).getD j 0) k=true:=by
   intro j o hmj ho k hk;have hj:j<ops.size:=by have:=(List.getElem?_eq_some_iff.1 ho).1;simpa using this
   have hg:(bG ops.toList [])[j]?=some ((bG ops.toList [])[j]'(by omega)):=List.getElem?_eq_getElem (by omega);have:=hm3 j _ hg hmj;rw[List.getD_eq_getElem?_getD,hg,Option.getD_some,show (bG ops.toList [])[j]'(by omega)=2 ^ j - 1 by omega,Nat.testBit_two_pow_sub_one];simpa using hk
  obtain⟨_,Ky⟩:=CF rJ;have og:∀ j k t,j<m->k<m->cf ops.toList j=some t->cf ops.toList k=some t->j=k:=by
   have get:∀ j t,j<m->cf ops.toList j=some t->((ops.toList.take m).map (·.dst))[j]?=some (some t):=by
    intro j t hj IS;unfold cf at IS;simp only[Option.bind_eq_some_iff] at IS;obtain⟨o,ho,U3⟩:=IS;rw[List.getElem?_map,List.getElem?_take,if_pos hj,ho];simp[U3]
   intro j k t hj hk IS hkt;exact Ky j k t (get j t hj IS) (get k t hk hkt)
  obtain⟨es,nc,s',oP,hq⟩:=qh hd;have hlen:(ops.toList.take m).length=m:=by simp;omega
  have Pb:∀ j o,(ops.toList.take m)[j]?=some o->ops.toList[0+j]?=some o:=λ j o ho=>by
   rw[b0i] at ho;split at ho
   .simpa using ho
   .cases ho
  obtain⟨ht1,ht2⟩:=Sj (ops.toList.take m) 0 es [] _ s' oP Pb rfl rfl;simp only[a9L,b0t,hlen] at ht1 ht2;subst ht2;have QQ:Inv c G ((ops.toList.take m).foldl ag.fresh s) a w.drew:=Af _ (bd.drew h);refine wp_region_any gV ?_;refine Wi hE (m:=m) (es:=es) (s0:=(ops.toList.take m).foldl ag.fresh s) dy hm1 oe og ?_ (λ i o qE ho=>a9H.1 CY o (a9C (by rw[b0i,a9l qE];exact ho))) ?_ hQ (kn:=nc) (λ G a w hI=>Pp hI hq) ops.size [] G a _ _ (by simp) (by simp) (by simp) (by simp) ?_ (by simp) QQ
  .intro i o qE ho;exact ht1 i o (by rw[b0i,a9l qE];exact ho)
  .intro i o t qE ho hc C4;exact (xM (ops.toList.take m) s t).2 o (a9C (by rw[b0i,a9l qE];exact ho)) hc C4
  .intro k hk;simp[hk]
end
section
variable {w w':World}
theorem NU.ctx{c c':Ctx}{S:Nat->Prop}{v:Arg}{x:Value}(h:NU c S w v x)(cd:∀ b,St c S b->St c' S b):NU c' S w v x:=by
 cases v with
 | ref v=>obtain⟨b,o,cs,h1,h2,h3⟩:=h;exact⟨b,o,cs,h1,cd b h2,h3⟩
 | val v=>exact h
 | fn f=>exact h
 | cN v=>exact h
 | own v=>exact h
 | box k=>exact h
theorem C1.ctx{c c':Ctx}(hP:c'.P=c.P){G:Gh}{lk:Nat->Option av}{v:AV}{x:Value}(h:C1 c G lk w v x)(cd:∀ b,St c G.S b->St c' G.S b):C1 c' G lk w v x:=by
 cases v with
 | cS v=>obtain⟨b,o,cs,h1,h2,h3⟩:=h;exact⟨b,o,cs,h1,cd b h2,h3⟩
 | gv v=>obtain⟨f,ei,l,h1,h2,h3⟩:=h;exact⟨f,ei,l,h1,hP ▸ h2,h3.imp λ _ _ _ q=>q.ctx cd⟩
 | _=>exact h
theorem TR.ctx{c c':Ctx}(hP:c'.P=c.P){G:Gh}{lk:Nat->Option av}{v:AV}{x:Value}(h:TR c G lk w v x)(cd:∀ b,St c G.S b->St c' G.S b):TR c' G lk w v x:=by
 cases v with
 | aC id=>exact (show C1 c G lk w (.aC id) x from h).ctx hP cd
 | cS v=>exact (show C1 c G lk w (.cS v) x from h).ctx hP cd
 | agg cs=>obtain⟨l,h1,h2⟩:=h;exact⟨l,h1,h2.imp λ _ _ _ q=>q.ctx hP cd⟩
 | aN v=>exact h
 | any=>trivial
 | _=>exact h.elim
theorem CR.ctx{c c':Ctx}(hP:c'.P=c.P){G:Gh}{lk:Nat->Option av}{v:AV}{x:Value}(h:CR c G lk w v x)(cd:∀ b,St c G.S b->St c' G.S b):CR c' G lk w v x:=by
 cases v with
 | aN v=>exact h
 | agg cs=>obtain⟨l,h1,h2⟩:=h;exact⟨l,h1,h2.imp λ _ _ _ q=>q.ctx hP cd⟩
 | any=>exact (show C1 c G lk w (.any) x from h).ctx hP cd
 | dR=>exact (show C1 c G lk w (.dR) x from h).ctx hP cd
 | nil=>exact (show C1 c G lk w (.nil) x from h).ctx hP cd
 | cS v=>exact (show C1 c G lk w (.cS v) x from h).ctx hP cd
 | ptr i o=>exact (show C1 c G lk w (.ptr i o) x from h).ctx hP cd
 | row i=>exact (show C1 c G lk w (.row i) x from h).ctx hP cd
 | dX i j o=>exact (show C1 c G lk w (.dX i j o) x from h).ctx hP cd
 | gb vs=>exact (show C1 c G lk w (.gb vs) x from h).ctx hP cd
 | fn f=>exact (show C1 c G lk w (.fn f) x from h).ctx hP cd
 | aC i=>exact (show C1 c G lk w (.aC i) x from h).ctx hP cd
 | sub i j o z=>exact (show C1 c G lk w (.sub i j o z) x from h).ctx hP cd
 | eo i j o z=>exact (show C1 c G lk w (.eo i j o z) x from h).ctx hP cd
 | cN f cs=>exact (show C1 c G lk w (.cN f cs) x from h).ctx hP cd
 | gv v=>exact (show C1 c G lk w (.gv v) x from h).ctx hP cd
 | mp i=>exact (show C1 c G lk w (.mp i) x from h).ctx hP cd
theorem VR.ctx{c c':Ctx}(hP:c'.P=c.P){G:Gh}{lk:Nat->Option av}{v:AV}{x:Value}(h:VR c G lk w v x)(cd:∀ b,St c G.S b->St c' G.S b):VR c' G lk w v x:=by
 cases v with
 | aN v=>exact h
 | agg cs=>obtain⟨l,h1,h2⟩:=h;exact⟨l,h1,h2.imp λ _ _ _ q=>q.ctx hP cd⟩
 | gb vs=>obtain⟨l,h1,h2⟩:=h;exact⟨l,h1,h2.imp λ _ _ _ q=>q.ctx hP cd⟩
 | cN f cs=>obtain⟨l,h1,h2⟩:=h;exact⟨l,h1,h2.imp λ _ _ _ q=>q.ctx hP cd⟩
 | any=>exact (show C1 c G lk w (.any) x from h).ctx hP cd
 | dR=>exact (show C1 c G lk w (.dR) x from h).ctx hP cd
 | nil=>exact (show C1 c G lk w (.nil) x from h).ctx hP cd
 | cS v=>exact (show C1 c G lk w (.cS v) x from h).ctx hP cd
 | ptr i o=>exact (show C1 c G lk w (.ptr i o) x from h).ctx hP cd
 | row i=>exact (show C1 c G lk w (.row i) x from h).ctx hP cd
 | dX i j o=>exact (show C1 c G lk w (.dX i j o) x from h).ctx hP cd
 | fn f=>exact (show C1 c G lk w (.fn f) x from h).ctx hP cd
 | aC i=>exact (show C1 c G lk w (.aC i) x from h).ctx hP cd
 | sub i j o z=>exact (show C1 c G lk w (.sub i j o z) x from h).ctx hP cd
 | eo i j o z=>exact (show C1 c G lk w (.eo i j o z) x from h).ctx hP cd
 | gv v=>exact (show C1 c G lk w (.gv v) x from h).ctx hP cd
 | mp i=>exact (show C1 c G lk w (.mp i) x from h).ctx hP cd
theorem OR.ctx{c c':Ctx}(hP:c'.P=c.P){G:Gh}{lk:Nat->Option av}{id:Nat}{o:av}(h:OR c G lk w id o)(cd:∀ b,St c G.S b->St c' G.S b):OR c' G lk w id o:=by
 cases o with
 | box cs=>obtain⟨b,l,t,h1,h2,h3⟩:=h;exact⟨b,l,t,h1,h2,h3.imp λ _ _ _ q=>q.ctx hP cd⟩
 | row e τ xs=>exact h
 | aC τ xs=>exact h
 | map m=>exact h
def Ctx.fz(c:Ctx)(w:World)(S:Nat->Prop)(Z:Nat->Prop):Ctx :=
 { c with w0:=w,X:=λ b=>((c.w0.heap.size<=b/\b<w.heap.size)\/c.X b)/\¬ Z b,S0:=S,Z:=λ b=>Z b\/c.Z b }
theorem Inv.fz{c:Ctx}{G:Gh}{s:ag}{a:Act}(h:Inv c G s a w){Z:Nat->Prop}(hZ:∀ b,Z b->tF c G s.af w b):Inv (c.fz w G.S Z) G s a w:=by
 have cd:∀ b,St c G.S b->St (c.fz w G.S Z) G.S b:=λ b hb=>by
  rcases hb with hb|⟨h1,h2,h3⟩
  .exact .inl hb
  .refine .inr ⟨a9g h1 h.aL.size,λ q=>q.1.elim (λ q=>by omega) h2,λ q=>q.elim (λ z=>(hZ b z).1.elim (λ q=>by omega) h2) h3⟩
 exact {
  defers:=h.defers,size:=h.size
  aL:=bI.refl _ _
  jE:=⟨λ b hb=>hb.1.elim (λ q=>q.2) λ q=>a9g (h.jE.1 b q) h.aL.size,λ g hg=>by
   obtain⟨_,h2,h3,_⟩:=h.jE.2 g hg;obtain⟨g1,g2⟩:=h.ZC.2 g hg;exact⟨g1,λ q=>q.1.elim (λ q=>by omega) h2,h.dI g g1,g2⟩⟩
  ej:=λ b _ _=>b0X
  sX:=λ b hb=>hb
  dI:=h.dI
  aw:=λ i=>(h.aw i).ctx (c:=c) (c':=c.fz w G.S Z) rfl cd
  aH:=λ id o ho=>(h.aH id o ho).ctx (c:=c) (c':=c.fz w G.S Z) rfl cd
  place:=λ id o b ho hb=>by
   obtain⟨h1,h2,h3⟩:=h.place id o b ho hb;exact⟨.inr ⟨h1.imp (λ q=>⟨q,h3⟩) (λ q=>q),λ z=>(hZ b z).2.2.2.1 id o ho hb⟩,h2,h3⟩
  apart:=h.apart
  aO:={
   tr:=h.aO.tr,nd:=h.aO.nd,ap:=h.aO.ap
   pl:=λ id τ xs b ht hb=>by
    obtain⟨h1,h2,h3,h4⟩:=h.aO.pl id τ xs b ht hb;exact⟨.inr ⟨h1.imp (λ q=>⟨q,h3⟩) (λ q=>q),λ z=>(hZ b z).2.2.2.2 id τ xs ht hb⟩,h2,h3,h4⟩ }
  root:=h.root,gX:=h.gX,dq:=h.dq,eF:=h.eF }
theorem Inv.a7K{c:Ctx}{G:Gh}{s:ag}{a:Act}{G':Gh}{s':ag}{a':Act}(h:Inv c G s a w){Z:Nat->Prop}(hZ:∀ b,Z b->tF c G s.af w b)(h':Inv (c.fz w G.S Z) G' s' a' w') :
  Inv c G' s' a' w'/\∀ b,Z b->w'.heap[b]?=w.heap[b]?/\tF c G' s'.af w' b:=by
 have cd:∀ b,St (c.fz w G.S Z) G'.S b->St c G'.S b:=λ b hb=>by
  rcases hb with hb|⟨h1,h2,h3⟩
  .exact .inl hb
  .have hz:¬ Z b:=λ z=>h3 (.inl z);refine .inr ⟨?_,λ q=>h2 ⟨.inr q,hz⟩,λ q=>h3 (.inr q)⟩;rcases a9O b c.w0.heap.size with q|q
   .exact q
   .exact absurd ⟨.inl ⟨q,h1⟩,hz⟩ h2
 have back:∀ b,(w.heap.size<=b\/(c.fz w G.S Z).X b)->c.w0.heap.size<=b\/c.X b:=λ b hb=>by
  have:=h.aL.size;exact hb.elim (λ q => .inl (by omega)) λ q=>q.1.elim (λ q => .inl q.1) .inr
 refine⟨{
  defers:=h'.defers,size:=h'.size
  aL:=h.aL.trans h'.aL λ i hi hx=>hx.1.elim (λ q=>by omega) (λ q=>q)
  jE:=h.jE
  ej:=λ b hb hx=>(h'.ej b (a9g hb h.aL.size) (λ q=>q.1.elim (λ q=>by omega) hx)).trans (h.ej b hb hx)
  sX:=λ b hb=>h'.sX b (h.sX b hb)
  dI:=h'.dI
  aw:=λ i=>(h'.aw i).ctx (c:=c.fz w G.S Z) (c':=c) rfl cd
  aH:=λ id o ho=>(h'.aH id o ho).ctx (c:=c.fz w G.S Z) (c':=c) rfl cd
  place:=λ id o b ho hb=>by
   obtain⟨h1,h2,h3⟩:=h'.place id o b ho hb;exact⟨back b h1,h2,h3⟩
  apart:=h'.apart
  aO:={
   tr:=h'.aO.tr,nd:=h'.aO.nd,ap:=h'.aO.ap
   pl:=λ id τ xs b ht hb=>by
    obtain⟨h1,h2,h3,h4⟩:=h'.aO.pl id τ xs b ht hb;exact⟨back b h1,h2,h3,h4⟩ }
  root:=h'.root,gX:=h'.gX,dq:=h'.dq,eF:=h'.eF },λ b z=>?_⟩
 obtain⟨z1,z2,z3,z4,z5⟩:=hZ b z;have vU:¬ (c.fz w G.S Z).X b:=λ q=>q.2 z;have iv:¬ (w.heap.size<=b\/(c.fz w G.S Z).X b):=λ q=>q.elim (λ q=>by omega) vU;exact⟨h'.aL.block b z3 vU,z1,λ q=>z2 ((h'.ej b z3 vU).1 q),a9g z3 h'.aL.size,λ i o cg hb=>iv (h'.place i o b cg hb).1,λ j τ xs hj hb=>iv (h'.aO.pl j τ xs b hj hb).1⟩
end
theorem vy{α β:Type}{f g:α->β}{l:Array α}(h:∀ x∈l.toList,f x=g x):l.map f=l.map g:=by
 apply b2v;rw[b0S,b0S];exact b3i h
theorem execOp_congr{o:Oper}{ρ XO:Operand->Value}{l:List Operand}(h:TP o.op=some l)(he:∀ x∈l,ρ x=XO x):execOp ρ o=execOp XO o:=by
 have parts:∀ ps:Array (Nat×Operand),l=ps.toList.map (·.2)->(ps.map λ (i,x)=>(i,ρ x))=ps.map λ (i,x)=>(i,XO x):=λ ps hl=>vy λ x hx=>by
  obtain⟨i,x⟩:=x;simp only;rw[he x (by rw[hl];exact a9b.2 ⟨(i,x),hx,rfl⟩)]
 unfold TP at h;split at h;case h_21=>cases h
 case h_20 T x l hh m bf =>
  simp only[a8V] at h;subst h;have key:∀ q:Option Operand,(∀ y∈q.toList,ρ y=XO y)->q.map ρ=q.map XO:=λ q hq=>by
   cases q with
   | none=>rfl
   | some y=>rw[b1v,b1v,hq y (by simp)]
  simp only[execOp,bf,he x (by simp),key l (λ y hy=>he y (by simp at hy;simp[hy])),key hh (λ y hy=>he y (by simp at hy;simp[hy])),key m (λ y hy=>he y (by simp at hy;simp[hy]))]
 case h_18 c bf =>
  split at h;case h_3=>cases h
  case h_1 f hc =>
   simp only[a8V] at h;subst h;have ha:c.args.map ρ=c.args.map XO:=vy λ x hx=>he x (by simp[hx]);simp only[execOp,bf,resolve,hc,ha,he f (by simp)]
  case h_2 b hc =>
   simp only[a8V] at h;subst h;have ha:c.args.map ρ=c.args.map XO:=vy λ x hx=>he x hx;simp only[execOp,bf,resolve,hc,ha]
 all_goals
  rename_i bf
  simp only[a8V] at h
  first
   | (have:=parts _ h.symm;simp only[execOp,bf,this];done)
   | (subst h;simp only[execOp,bf];done)
   | (subst h;simp only[execOp,bf,b1X];done)
   | (subst h;simp only[a9k,b1I,b2V,b2B,forall_eq] at he;simp only[execOp,bf,he];done)
   | (subst h;simp only[a9k,b1I,b2V,b2B,forall_eq] at he;simp only[execOp,bf,he.1,he.2];done)
   | (subst h;simp only[a9k,b1I,b2V,b2B,forall_eq] at he;simp only[execOp,bf,he.1,he.2.1,he.2.2];done)
theorem V7{u v:TV}(h:vM u v):u=v:=by
 unfold vM at h;split at h
 .rename_i x hx;have:=TV.aQ hx;rw[this,h]
 .exact h.elim
theorem LL{v u:AV}(h:HQ v u):v=u:=by
 unfold HQ at h;split at h
 .rw[V7 h]
 .rw[V7 h]
 .rw[h]
 .rw[h]
 .rw[h.1,h.2]
 .rfl
 .rfl
 .exact h.elim
theorem Hl{c:Ctx}{G:Gh}{lk:Nat->Option av}{a:Act}{w:World}{o:Oper}{v:AV}{x:Value}(hr:(execOp a.eval o).run c.P w = .ok (.value x) w)(hv:VR c G lk w v x) :
  ∃ x,(execOp a.eval o).run c.P w = .ok (.value x) w/\VR c G lk w v x:=⟨x,hr,hv⟩
theorem Xv{c:Ctx}{G:Gh}{sl:Nat->AV}{n:Nat}{lk:Nat->Option av}{a:Act}{w:World}(hE:bn c.P c.E)(hI:bd c G sl n lk a w){lk':Nat->Option av}(bS:∀ id o,lk' id=some o->lk id=some o){ev:Operand->AV}(cD:∀ x,VR c G lk w (ev x) (a.eval x))
  {o:Oper} {vc:Vc} {v:AV} {ob:Option av} (hq:Hi c.E lk' ev o=some (vc,v,ob)) (dY:vc.ok) (Tm:reads o.op=true) :
  ∃ x,(execOp a.eval o).run c.P w = .ok (.value x) w/\VR c G lk w v x:=by
 unfold Hi at hq;split at hq;case h_1 x bf =>
  simp only[a8V,a8Y] at hq;obtain⟨rfl,rfl,rfl⟩:=hq;exact Hl (by simp[execOp,bf]) (cD x)
 case h_8 T ad bf =>
  split at hq
  .rename_i τ r hT;split at hq
   .rename_i u hu;simp only[a8V,a8Y] at hq;obtain⟨rfl,rfl,rfl⟩:=hq;obtain⟨b,o',cs,h1,h2,h3,h4⟩:=ow hI.aH bS hu (cD ad);refine Hl ?_ h4;simp only[execOp,bf,h1,a9r,gF hE hT h2 h3,a9m,a9u]
   .cases hq
  .cases hq
 case h_9 x bf =>
  have key:∀ u,ev x=u->(∃ b o,a.eval x = .pointer (some ⟨b,o,none⟩))->vc = .none->v=u->ob=none->∃ x,(execOp a.eval o).run c.P w = .ok (.value x) w/\VR c G lk w v x:=by
   rintro u hu ⟨b,o',hx⟩ _ rfl rfl;refine Hl (x:=a.eval x) ?_ (hu ▸ cD x);simp only[execOp,bf,hx,a9u]
  have hx:=cD x;split at hq
  .rename_i u hu;simp only[a8V,a8Y] at hq;rw[hu] at hx;obtain⟨b,o',cs,h1,_⟩:=hx;exact key _ hu ⟨b,o',h1⟩ hq.1.symm hq.2.1.symm hq.2.2.symm
  .rename_i id off hu;simp only[a8V,a8Y] at hq;rw[hu] at hx;obtain⟨b,_,h1,_⟩:=hx;exact key _ hu ⟨b,off,h1⟩ hq.1.symm hq.2.1.symm hq.2.2.symm
  .rename_i id i off hu;simp only[a8V,a8Y] at hq;rw[hu] at hx;obtain⟨b,_,_,_,_,_,_,_,_,h1⟩:=hx;exact key _ hu ⟨b,_,h1⟩ hq.1.symm hq.2.1.symm hq.2.2.symm
  .cases hq
 case h_10 T x i bf =>
  split at hq
  .rename_i s r hT;split at hq
   .cases hq
   .rename_i ha;split at hq
    .rename_i u hu;simp only[a8V,a8Y] at hq;obtain⟨rfl,rfl,rfl⟩:=hq;obtain⟨b,o',h1,bj,h2⟩:=qi hu (cD x);refine Hl (x := .pointer (some ⟨b,o'+s.dx i,none⟩)) ?_ h2;simp only[execOp,bf,h1,a9r,AR hE hT ha bj,a9m,a9u]
    .cases hq
  .cases hq
 case h_12 T x ix bf =>
  split at hq
  .rename_i τ r hT;split at hq
   .rename_i k i hi;have ga:=cD ix;rw[hi] at ga;obtain⟨ga,_⟩:=ga;simp only[a9a,a9q] at ga;have hx:=cD x;split at hq
    .rename_i u hu;rw[hu] at hx;split at hq
     .rename_i xs iU;have e:=TV.aQ iU;subst e;simp only[a8V,a8Y] at hq;obtain⟨rfl,rfl,rfl⟩:=hq;obtain⟨h0,h1⟩:=dY;obtain⟨ad,cap,h2,h3,h4,h5⟩:=iM hx;rcases h5 with h5|⟨b,o',h5,h6,h7⟩
      .subst h5;simp only[a9v] at h1;omega
      .subst h5;have bj:i.toNat<xs.length:=by omega
       obtain⟨cs,m1,m2,m3⟩:=cF.at_ (n:=τ.size) _ b o' h7 (by
        intro d hd;obtain⟨y,_,rfl⟩:=a9b.1 hd;exact Ty.cq τ y) i.toNat (τ.aE (xs.getD i.toNat τ.zero)) (by simp[List.getD,bj])
       refine Hl (x := .pointer (some ⟨b,o'+i.toNat * τ.size,none⟩)) ?_ ⟨b,_,cs,rfl, .inl h6,m3,m2⟩;simp only[execOp,bf,h2,ga,a9r,oG hE hT h0 h1,a9m,a9u]
     .cases hq
    .rename_i id hu;rw[hu] at hx;split at hq
     .rename_i e' aT xs hl;split at hq
      .rename_i ep;have ep:=a9y ep;subst ep;simp only[a8V,a8Y] at hq;obtain⟨rfl,rfl,rfl⟩:=hq;obtain⟨h0,h1⟩:=dY;obtain⟨h2,_,_⟩:=hx;have oj:=bS _ _ hl;obtain⟨l,m1,_,_⟩:=hI.aH _ _ oj;have bj:i.toNat<xs.length:=by omega
       rcases m1.2 with ⟨_,hn⟩|⟨g,cap,cur,hv,_⟩
       .omega
       .refine Hl (x := .pointer (some ⟨g,0+i.toNat * aT.size,none⟩)) ?_ ⟨g,_,cap,e',aT,xs,hv,oj,bj,by simp⟩;simp only[execOp,bf,h2,hv,ga,a9r,oG hE hT h0 h1,a9m,a9u]
      .cases hq
     .cases hq
    .cases hq
   .cases hq
  .rename_i n r hT;split at hq
   .rename_i k i ha hi;have ga:=cD ix;rw[hi] at ga;obtain⟨ga,_⟩:=ga;simp only[a9a,a9q] at ga;split at hq
    .rename_i u hu;simp only[a8V,a8Y] at hq;obtain⟨rfl,rfl,rfl⟩:=hq;obtain⟨b,o',h1,bj,h2⟩:=qi hu (cD x);refine Hl (x := .pointer (some ⟨b,o'+n.dx i,none⟩)) ?_ h2;simp only[execOp,bf,h1,ga,a9r,Qf hE hT ha bj,a9m,a9u]
    .cases hq
   .cases hq
  .cases hq
 case h_24=>cases hq
 all_goals
  rename_i bf
  rw[bf] at Tm
  cases Tm
theorem Qa{c:Ctx}{G:Gh}{s:ag}{a:Act}{w:World}(hE:bn c.P c.E)(h:Inv c G s a w){o:Oper}{vc:Vc}{v:AV}(hq:Zy c.E s o=some (vc,v))(dY:vc.ok) :
  ∃ x,(execOp a.eval o).run c.P w = .ok (.value x) w/\VR c G s.af w v x:=by
 unfold Zy at hq;split at hq
 .rename_i hr;split at hq
  .rename_i vc' v' U4;simp only[a8V,a8Y] at hq;obtain⟨rfl,rfl⟩:=hq;exact Xv hE h (λ _ _ h=>h) (aW h) U4 dY hr
  .cases hq
 .cases hq
theorem LM:∀ {v u:List AV},Od v u->v=u
 | [],[],_=>rfl
 | a::Z9,b::bs,h=>by rw[LL h.1,LM h.2]
 | [],_::_,h=>h.elim
 | _::_,[],h=>h.elim
theorem Wl{v u:AV}(h:SD v u):v=u:=by
 unfold SD at h;split at h
 .rw[LM h]
 .exact LL h
structure lI(D:List Nat)(a b:Act):Prop where
 size:a.tmps.size=b.tmps.size
 da:a.defers=[]
 db:b.defers=[]
 at':∀ t,t∉D->a.tmps.getD t undef=b.tmps.getD t undef
theorem lI.put{D D':List Nat}{a b:Act}(h:lI D a b){d:Option Nat}{x:Value}(hD:∀ t,t∈D->t∉D'->d=some t):lI D' (a.put d x) (b.put d x) where
 size:=by cases d<;>simp[Act.put,h.size]
 da:=by cases d<;>exact h.da
 db:=by cases d<;>exact h.db
 at' t ht:=by
  rw[dT,dT,h.size];by_cases hd:d=some t
  .by_cases hl:t<b.tmps.size
   .rw[a9l ⟨hd,hl⟩,a9l ⟨hd,hl⟩]
   .rw[a9c (λ q=>hl q.2),a9c (λ q=>hl q.2)];have h1:a.tmps.getD t undef=undef:=by rw[a9G,b0o (by rw[h.size];omega)];rfl
    have h2:b.tmps.getD t undef=undef:=by rw[a9G,b0o (by omega)];rfl
    rw[h1,h2]
  .rw[a9c (λ q=>hd q.1),a9c (λ q=>hd q.1)];refine h.at' t λ hm=>hd (hD t hm ht)
theorem lI.exec{D:List Nat}{a b:Act}(h:lI D a b){o:Oper}(hu:fu D o=true):execOp a.eval o=execOp b.eval o:=by
 unfold fu at hu;split at hu
 .rename_i l hl;rw[a9H] at hu;refine execOp_congr hl λ x hx=>?_;have:=hu x hx;cases x with
  | tmp t=>exact h.at' t (by simpa using this)
  | _=>rfl
 .cases hu
theorem lE{D D':List Nat}{o:Oper}(h:fu D o=true)(hs:∀ t∈D',t∈D):fu D' o=true:=by
 unfold fu at h ⊢;split at h
 .rename_i l hl;rw[a9H] at h ⊢;intro x hx;have:=h x hx;cases x with
  | tmp t =>
   simp only[a9t,List.contains_eq_mem,a8Z] at this ⊢;exact λ q=>this (hs t q)
  | _=>rfl
 .cases h
section
variable {c:Ctx} {G:Gh} {s:ag} {a:Act} {w w':World}
theorem ZR{P:Program}{o:Oper}{b:Act}{N N':Act->World->Prop}{Q:Exit->Act->World->Prop}(he:execOp a.eval o=execOp b.eval o)(hN:∀ x w',N (b.put o.dst x) w'->N' (a.put o.dst x) w')
  (hd:∀ b' w',N b' w'->b'.defers=[]) (h:o.wp P b w N (λ _ _ _=>False)):o.wp P a w N' Q:=by
 unfold Oper.wp at *
 rw[he];generalize (execOp b.eval o).run P w=r at *
 cases r with
 | ok n w' =>
  cases n<;>simp only[Oper.upon] at h ⊢;case value v=>exact hN _ _ h
  case skip=>exact hN _ _ h
  case defer d =>
   have:=hd _ _ h;cases hh:o.dst<;>simp[Act.put,hh] at this
  case enter f args=>exact Calls.mono h (λ e JS q=>by cases e<;>first|exact hN _ _ q|exact q.elim λ _ q=>q.elim λ _ q=>q.elim|exact q.elim)
  case row r args=>exact Rows.mono h (λ _ _ q=>hN _ _ q)
 | halt x w'=>cases x<;>simp only[Oper.upon] at h ⊢
theorem exists_least{p:Nat->Prop}:∀ n,p n->∃ k,p k/\∀ j,j<k->¬ p j:=by
 intro n;induction n using Nat.strongRecOn with
 | _ n ih =>
  intro h;by_cases hq:∃ j,j<n/\p j
  .obtain⟨j,h1,h2⟩:=hq;exact ih j h1 h2
  .exact⟨n,h,λ j hj hp=>hq ⟨j,hj,hp⟩⟩
theorem lI.eq{a b:Act}(h:lI [] a b):a=b:=by
 obtain⟨ta,da⟩:=a;obtain⟨tb,db⟩:=b;obtain⟨h1,h2,h3,h4⟩:=h;simp only at h1 h2 h3 h4;subst h2 h3;congr 1;apply Array.ext h1;intro i hi hj;have:=h4 i (by simp);simpa [Array.getD_eq_getD_getElem?,Array.getElem?_eq_getElem hi,Array.getElem?_eq_getElem hj] using this
theorem fH{R:List (Nat×Oper)}{t:Nat}:t∈dstsOf R↔∃ r∈R,r.2.dst=some t:=by
 simp[dstsOf,b0T]
theorem ZD(h:Inv c G s a w){d:Nat}{x:Value}(hv:VR c G s.af w (s.aw.getD d .any) x):Inv c G s (a.put (some d) x) w:=by
 have:=bd.put (d:=some d) h hv;unfold Inv;have e:iO s.aw.length s.sl (some d) (s.aw.getD d .any)=s.sl:=by
  funext i;unfold iO;split
  .rename_i hi;obtain⟨h1,_⟩:=hi;simp only[a8V] at h1;subst h1;rfl
  .rfl
 rwa [e] at this
theorem jo{E:Env}{K:Prop}:∀ {R:List (Nat×Oper)},fS E R s K->(∀ r∈R,∃ d vc,r.2.dst=some d/\Zy E s r.2=some (vc,s.aw.getD d .any)/\Vc.ok vc)/\K
 | [],h=>⟨by simp,h⟩
 | r::rs,h=>by
  simp only[fS] at h;split at h
  .rename_i d vc v hd hr;have h1:=Vc.iP h;obtain⟨k1,k2⟩:=jo h1.2.2;refine⟨λ q hq=>?_,k2⟩;rcases a9k.1 hq with rfl|hq
   .exact⟨d,vc,hd,by rw[hr,Wl h1.2.1],h1.1⟩
   .exact k1 q hq
  .exact h.elim
theorem Mh(hE:bn c.P c.E){K:ag->Prop}:∀ {R:List (Nat×Oper)} {s:ag} {a:Act},Inv c G s a w->HR c.E R K s->∃ t b,Inv c G t b w/\lI (dstsOf R) a b/\K t
 | [],s,a,hI,h=>⟨s,a,hI,⟨rfl,hI.defers,hI.defers,λ _ _=>rfl⟩,h⟩
 | r::rs,s,a,hI,h=>by
  simp only[HR] at h;split at h
  .rename_i d vc v hd hr;have h1:=Vc.iP h;obtain⟨x,_,hx⟩:=Qa hE hI hr h1.1;obtain⟨t,b,k1,k2,k3⟩:=Mh hE (Inv.put (d:=some d) hI hx) (Ec hx h1.2);refine⟨t,b,k1,⟨by rw[<-k2.size];simp[Act.put],hI.defers,k2.db,λ i hi=>?_⟩,k3⟩;have dv:d≠i:=λ e=>hi (fH.2 ⟨r,by simp,by rw[hd,e]⟩);rw[<-k2.at' i λ hm=>hi (by
    obtain⟨q,hq,hqd⟩:=fH.1 hm;exact fH.2 ⟨q,by simp[hq],hqd⟩),dT,if_neg (λ q=>dv (by simpa using q.1))]
  .exact h.elim
theorem TW{E:Env}{o:Oper}{K:ag->Prop}{T:TypeId}{d:Nat}{τ:Ty}{r:Nat×Nat}(bf:o.op = .alloc T)(hd:o.dst=some d)(hT:af E.ty T=some (τ,r)) :
  jC E o K s↔(d<400000/\K (s.lay (some d) (.ptr d 0) (some (.box (zeroCells τ))))):=by
 have h1:ju E s o=[]:=by
  unfold ju;rw[bf];split<;>rfl
 have h2:SG E s o=none:=by
  unfold SG;rw[hd,bf];simp only;split<;>rfl
 have h3:SU E s o=none:=by unfold SU;rw[bf]
 have h4:TO E s o=none:=by unfold TO;rw[bf]
 obtain⟨r1,r2⟩:=r;have h5:Hi E s.af s.eval o=some (.none, .ptr d 0,some (.box (zeroCells τ))):=by
  unfold Hi;rw[bf];simp only[hd,hT]
 unfold jC;have h6:T4 E s o=none:=by unfold T4;rw[hd,bf]
 have h7:TM E s o=none:=by unfold TM;rw[bf]
 simp only[h1,b2k,h6,h2,h3,h4,h7,h5,Vc.and,bf,Qy,hd,rf];cases hb:Nat.blt d 400000 with
 | true=>simp only[b2w] at hb;simp[hb]
 | false=>simp only[Bool.eq_false_iff,b1Z,b2w] at hb;simp[hb]
structure PE where
 i:Nat
 d:Nat
 x:Value
 b:Nat
 cs:List AV
noncomputable instance:DecidableEq PE:=λ _ _=>Classical.propDecidable _
structure zF(c:Ctx)(G:Gh)(lk:Nat->Option av)(X:List (Nat×Oper))(a:Act)(w:World)(p:PE):Prop where
 ex:∃ o T τ r,(p.i,o)∈X/\o.op = .alloc T/\o.dst=some p.d/\af c.E.ty T=some (τ,r)/\p.cs=zeroCells τ
 val:a.tmps.getD p.d undef=if p.d<a.tmps.size then p.x else undef
 ptr:p.x = .pointer (some ⟨p.b,0,none⟩)
 lt:p.d<400000
 new:∃ l t,w.heap[p.b]?=some (.cells l.toArray t (0,0))/\∀ (c:Ctx) (G:Gh) (lk:Nat->Option av) (w:World),aM (C1 c G lk w) p.cs l
 fr:tF c G lk w p.b
theorem zF.put{lk:Nat->Option av}{X:List (Nat×Oper)}{p:PE}(h:zF c G lk X a w p){d:Option Nat}{x:Value}(hd:d≠some p.d):zF c G lk X (a.put d x) w p :=
 ⟨h.ex,by rw[dT,a9c (λ q=>hd q.1),fL];exact h.val,h.ptr,h.lt,h.new,h.fr⟩
theorem Wh(h:Inv c G s a w){p:PE}{X:List (Nat×Oper)}{a2:Act}(hp:zF c G s.af X a2 w p) :
  Inv c ⟨G.S,λ i=>if i=p.d then p.x else G.η i,G.φ⟩ (s.lay (some p.d) (.ptr p.d 0) (some (.box p.cs))) (a.put (some p.d) p.x) w:=by
 obtain⟨l,t,h1,h2⟩:=hp.new;refine Inv.Yo h hp.lt ⟨p.b,l,t,hp.ptr,h1,h2 _ _ _ _⟩ ⟨_,rfl,rfl⟩ λ b hb=>?_;rw[hp.ptr] at hb;simp only[dk,a8V] at hb;subst hb;obtain⟨q1,q2,q3,q4,q5⟩:=hp.fr;exact⟨q1,q2,q3,λ i o' _ ho=>q4 i o' ho,q5⟩
theorem Wg{p:PE}{X:List (Nat×Oper)}{a2:Act}(hp:zF c G s.af X a2 w p){b:Nat}(hb:tF c G s.af w b)(dv:b≠p.b) :
  tF c ⟨G.S,λ i=>if i=p.d then p.x else G.η i,G.φ⟩ (s.lay (some p.d) (.ptr p.d 0) (some (.box p.cs))).af w b:=by
 have bS:(s.lay (some p.d) (.ptr p.d 0) (some (.box p.cs))).af=λ i=>if i=p.d then some ((av.box p.cs).kill p.d) else (if i=p.d then none else (s.bP p.d).af i):=by
  funext i;show af ((p.d,(av.box p.cs).kill p.d)::bB p.d (s.bP p.d).aH) i=_;rw[dn,dZ];rfl
 obtain⟨q1,q2,q3,q4,q5⟩:=hb;rw[bS];refine⟨q1,q2,q3,λ i o ho e=>?_,λ j τ xs hj na=>?_⟩
 .by_cases hi:i=p.d
  .simp only[a9l hi] at e;rw[hp.ptr] at e;simp only[dk,a8V] at e;exact dv e.symm
  .simp only[a9c hi] at e ho;rw[dQ] at ho;simp only[a9D] at ho;obtain⟨o',cE,_⟩:=ho;exact q4 i o' cE e
 .by_cases hi:j=p.d
  .simp only[a9l hi] at hj;cases hj
  .simp only[a9c hi] at hj;rw[dQ] at hj;exact q5 j τ xs (iA hj) na
theorem SQ(hE:bn c.P c.E)(h:Inv c G s a w){a2:Act}{o:Oper}{T:TypeId}{d i:Nat}{τ:Ty}{r:Nat×Nat}(bf:o.op = .alloc T)(hd:o.dst=some d)(hT:af c.E.ty T=some (τ,r))(GO:d<400000){X:List (Nat×Oper)}(hX:(i,o)∈X) :
  ∃ w' p,p.i=i/\p.d=d/\p.b=w.heap.size/\(execOp a2.eval o).run c.P w = .ok (.value p.x) w'/\Inv c G s a w'/\zF c G s.af X (a2.put (some d) p.x) w' p/\bI (λ _=>False) w w':=by
 obtain⟨r1,r2⟩:=r;obtain⟨inf,z,h1,h2,h3,h4⟩:=(hE.info hT).ex;refine⟨w.alloc (.cells z.cells T),⟨i,d, .pointer (some ⟨w.heap.size,0,none⟩),w.heap.size,zeroCells τ⟩,rfl,rfl,rfl,?_,h.alloc _,?_,eS w _⟩
 .simp[execOp,bf,Instr.alloc,zeroValue,typeInfo,h1,h3,newVar,newRow]
 .refine⟨⟨o,T,τ,_,hX,bf,hd,hT,rfl⟩,?_,rfl,GO,⟨z.cells.toList,T,by simpa using heap_alloc_new w _,λ _ _ _ _=>gf h4⟩,?_⟩
  .simp only[dT,fL,b0z];split
   .rfl
   .rename_i bj;first|rfl|(rw[a9G,b0o (by omega)];rfl)
  .refine⟨.inl h.aL.size,λ q=>by have:=h.dI _ q;simp only at this;omega,by simp,λ j o' hj hb=>by have:=(h.place j o' _ hj hb).2.2;simp only at this;omega,λ j τ xs hj hb=>by have:=(h.aO.pl j τ xs _ hj hb).2.2.1;simp only at this;omega⟩
theorem Re{E:Env}{o:Oper}(h:Jv E o=true):reads o.op=true:=by
 unfold Jv at h;rw[Bool.and_eq_true] at h;exact h.1
theorem BH{E:Env}{o:Oper}(h:reads o.op=true):df E o=false:=by
 unfold df;generalize DM E o=q;generalize o.op=op at *
 cases op<;>first|rfl|cases h
theorem Fu(bM:List Nat)(x:Nat×Oper):∀ l,(IX bM x l).Perm (x::l)
 | [] => .refl _
 | y::ys=>by
  unfold IX;split
  .exact .refl _
  .exact ((Fu bM x ys).cons y).trans (.swap x y ys)
theorem iL(E:Env)(bM:List Nat):∀ l,(G7 E bM l).Perm l
 | [] => .refl _
 | x::xs=>by
  unfold G7;split
  .exact (Fu bM x _).trans ((iL E bM xs).cons x)
  .exact (iL E bM xs).cons x
structure XE where
 i:Nat
 d:Nat
 x:Value
 o:Oper
noncomputable instance:DecidableEq XE:=λ _ _=>Classical.propDecidable _
structure YM(E:Env)(P:Program)(X:List (Nat×Oper))(a:Act)(e:XE):Prop where
 mem:(e.i,e.o)∈X
 dst:e.o.dst=some e.d
 val:a.tmps.getD e.d undef=if e.d<a.tmps.size then e.x else undef
 run:(iW e.o.op=true/\∀ w,(execOp a.eval e.o).run P w = .ok (.value e.x) w)\/((tg e.o.op=true/\DM E e.o=true)/\∃ p,e.x = .slice p 0 0)
theorem YM.lz{E:Env}{P:Program}{X:List (Nat×Oper)}{a:Act}{e:XE}(h:YM E P X a e):df E e.o=true:=by
 rcases h.run with ⟨q,_⟩|⟨⟨q,q'⟩,_⟩
 .simp[df,q]
 .simp[df,q,q']
theorem Ji{op:Op}(h:tg op=true):∃ T,op = .buildSlice T 0 #[]:=by
 unfold tg at h;split at h
 .rename_i T len ps;simp only[a9e] at h;have h1:=a8W h.1;have h2:ps = #[]:=b1w (a8W h.2);exact⟨T,by rw[h1,h2]⟩
 .cases h
theorem XL{o:Oper}(h:tg o.op=true)(D:List Nat):fu D o=true:=by
 obtain⟨T,h⟩:=Ji h;simp[fu,TP,h]
theorem YM.put{E:Env}{P:Program}{X:List (Nat×Oper)}{e:XE}(h:YM E P X a e)(hda:a.defers=[]){d:Option Nat}{x:Value}(hd:d≠some e.d)(hu:∀ t,d=some t->fu [t] e.o=true):YM E P X (a.put d x) e :=
 ⟨h.mem,h.dst,by rw[dT,a9c (λ q=>hd q.1),fL];exact h.val,h.run.imp (λ hr=>⟨hr.1,λ w=>by
  cases d with
  | none=>exact hr.2 w
  | some t =>
   have hA:lI [t] (a.put (some t) x) a:=⟨fL a _ x,by rw[iI];exact hda,hda,λ u hu=>by rw[dT,if_neg (λ q=>hu (by simpa using q.1.symm))]⟩;rw[hA.exec (hu t rfl)];exact hr.2 w⟩) id⟩
theorem SV(h:Inv c G s a w){o:Oper}{t:Operand}{i:Nat}(bf:o.op = .extract t i)(hc:wy s o.op=true):∃ x,∀ w',(execOp a.eval o).run c.P w' = .ok (.value x) w':=by
 rw[bf] at hc;simp only[wy] at hc;split at hc
 .rename_i vs hv;have hx:=aW h t;rw[hv] at hx;obtain⟨l,h1,h2⟩:=hx;have bj:i<l.length:=by rw[<-h2.length];exact a9V hc
  refine⟨l[i],λ w'=>?_⟩;have h3:l[i]?=some l[i]:=a9j bj;simp[execOp,bf,Instr.extract,h1,h3]
 .cases hc
theorem Qe{E:Env}{o:Oper}{K:ag->Prop}{t:Operand}{i d:Nat}(bf:o.op = .extract t i)(hd:o.dst=some d)(hr:jC E o K s) :
  ∃ vs v,s.eval t = .gb vs/\vs[i]?=some v/\known v (K (s.put (some d) v)):=by
 have h1:ju E s o=[]:=by
  unfold ju;rw[bf];split<;>rfl
 have h2:SG E s o=none:=by
  unfold SG;rw[hd,bf];simp only;split<;>rfl
 have h3:SU E s o=none:=by unfold SU;rw[bf]
 have h4:TO E s o=none:=by unfold TO;rw[bf]
 have h6:T4 E s o=none:=by unfold T4;rw[hd,bf]
 have h7:TM E s o=none:=by unfold TM;rw[bf]
 unfold jC at hr;split at hr
 .exact hr.elim
 simp only[h1,b2k,h6,h2,h3,h4,h7] at hr;split at hr
 .rename_i vc v ob hq;unfold Hi at hq;rw[bf] at hq;simp only at hq;split at hq
  .rename_i vs hv;split at hq
   .rename_i u hu;simp only[Option.some.injEq,Prod.mk.injEq] at hq;obtain⟨rfl,rfl,rfl⟩:=hq;refine⟨vs,u,hv,hu,?_⟩;simpa [Vc.and,bf,Qy,hd,ag.lay] using hr
   .cases hq
  .cases hq
 .exact hr.elim
theorem SY(h:Inv c G s a w){o:Oper}{t:Operand}{i:Nat}(bf:o.op = .extract t i){vs:List AV}{v:AV}(h1:s.eval t = .gb vs)(h2:vs[i]?=some v){x:Value}(hx:(execOp a.eval o).run c.P w = .ok (.value x) w):VR c G s.af w v x:=by
 have hv:=aW h t;rw[h1] at hv;obtain⟨l,k1,k2⟩:=hv;obtain⟨y,k3,k4⟩:=k2.at_ i v h2;have:(execOp a.eval o).run c.P w = .ok (.value y) w:=by simp[execOp,bf,Instr.extract,k1,k3]
 rw[this] at hx;simp only[b2L,Next.value.injEq,a9q] at hx;subst hx;cases v<;>first|exact k4|exact k4.elim|trivial
theorem VI{E:Env}{o:Oper}{K:ag->Prop}{d:Nat}(hn:tg o.op=true/\DM E o=true)(ha:nL E o=true)(hd:o.dst=some d)(hr:jC E o K s) :
  ∃ τ,K (s.put (some d) (.aN ⟨.slice τ,[]⟩)):=by
 obtain⟨hn,ff⟩:=hn;obtain⟨T,bf⟩:=Ji hn;unfold nL at ha;simp only[bf,hd,ff] at ha;split at ha
 .rename_i d' τ r WV hT;simp only[a8V] at WV;subst WV;have ha:Nat.blt d 400000=true/\E.ro.contains d=true/\E.own.contains d=false:=by
   have ha:(Nat.blt d 400000&&(E.ro.contains d && !E.own.contains d))=true:=ha;simp only[a9e,a9t] at ha;exact⟨ha.1,ha.2.1,ha.2.2⟩
  obtain⟨h4,hro,dF⟩:=ha;have h1:ju E s o=[]:=by
   unfold ju;simp only[hd,dF,bf];simp
  have h2:SG E s o=none:=by
   unfold SG;simp only[hd,dF]
  have h3:SU E s o=none:=by unfold SU;rw[bf]
  have h4':TO E s o=none:=by unfold TO;rw[bf]
  have h6:T4 E s o=none:=by unfold T4;rw[hd,bf]
  have h7:TM E s o=none:=by unfold TM;rw[bf]
  obtain⟨r1,r2⟩:=r;have h8:Hi E s.af s.eval o=some (.none, .aN ⟨.slice τ,[]⟩,none):=by
   unfold Hi;rw[bf];simp only[hd,hT,hro];rfl
  unfold jC at hr;simp only[h1,List.foldl_nil,h6,h2,h3,h4',h7,h8,Vc.and,bf,Qy,hd,rf,h4] at hr;exact⟨τ,hr⟩
 .simp at ha
theorem UE(hE:bn c.P c.E)(h:Inv c G s a w){a2:Act}{o:Oper}{d:Nat}(hn:tg o.op=true/\DM c.E o=true)(ha:nL c.E o=true)(hd:o.dst=some d) :
  ∃ w' x,(execOp a2.eval o).run c.P w = .ok (.value x) w'/\Inv c G s a w'/\(∃ p,x = .slice p 0 0)/\bI (λ _=>False) w w':=by
 obtain⟨hn,ff⟩:=hn;obtain⟨T,bf⟩:=Ji hn;unfold nL at ha;simp only[bf,hd,ff] at ha;split at ha
 .rename_i d' τ r WV hT;obtain⟨r1,r2⟩:=r;obtain⟨k1,_,inf,z,k2,k3,k4,k5,k6⟩:=hE.slice hT;refine⟨w.alloc (.cells #[] r2), .slice (some ⟨w.heap.size,0,none⟩) 0 0,?_,h.alloc _,⟨_,rfl⟩,eS w _⟩;have hz:(Array.range 0).map (λ _=>(default:Value)) = #[]:=by apply b1w;simp
  simp[execOp,bf,Instr.buildSlice,a9I k1,sizeOf,typeInfo,k2,Instr.fill,newRow,hz]
 .simp at ha
theorem kj(E:Env){X:List (Nat×Oper)}{x:Nat×Oper}{t:Nat}(hx:x∈X)(ha:df E x.2=true)(hd:x.2.dst=some t):t∈qk E X :=
 b0T.2 ⟨x,hx,by simp[ha,hd]⟩
theorem R4{E:Env}{bM:List Nat}{n:Nat}{R:List (Nat×Oper)}{K:ag->Prop}{s:ag}:gm E bM n R [] K s=K s:=by cases n<;>rfl
theorem Hb{E:Env}{bM:List Nat}{n:Nat}{R:List (Nat×Oper)}{x:Nat×Oper}{xs:List (Nat×Oper)}{K:ag->Prop}{s:ag}(h:gm E bM n R (x::xs) K s) :
  ∃ m,TH E bM (x::xs) s=true/\(((fu (dstsOf (R.filter λ r => !Nat.testBit (bM.getD x.1 0) r.1)++qk E xs) x.2&&xs.all λ y=>df E y.2||Nat.testBit (bM.getD y.1 0) x.1)=true /\
    jC E x.2 (λ s'=>fS E (R.filter λ r => !Nat.testBit (bM.getD x.1 0) r.1) s' (gm E bM m (R.filter λ r => !Nat.testBit (bM.getD x.1 0) r.1) xs K s')) s) \/
   (df E x.2=false/\yy (Oq E bM (x::xs)) (λ y=>match fu (dstsOf (R.filter λ r => !Nat.testBit (bM.getD y.1 0) r.1)++qk E ((x::xs).filter λ z => !Nat.beq z.1 y.1)) y.2 with
      | true=>jC E y.2 (λ s'=>fS E (R.filter λ r => !Nat.testBit (bM.getD y.1 0) r.1) s' (gm E bM m (R.filter λ r => !Nat.testBit (bM.getD y.1 0) r.1) ((x::xs).filter λ z => !Nat.beq z.1 y.1) K s')) s
      | false=>False) (x::xs))):=by
 cases n with
 | zero=>exact h.elim
 | succ n =>
  simp only[gm] at h;refine⟨n,?_⟩;split at h
  .rename_i h1;refine⟨h1,?_⟩;split at h
   .rename_i h2;exact .inl ⟨h2,h⟩
   .split at h
    .exact h.elim
    .rename_i h3;exact .inr ⟨h3,h⟩
  .exact h.elim
theorem PS{E:Env}{bM:List Nat}{n:Nat}{R:List (Nat×Oper)}{x:Nat×Oper}{xs:List (Nat×Oper)}{K:ag->Prop}{s:ag}(hz:df E x.2=true)(h:gm E bM n R (x::xs) K s) :
  ∃ m,jC E x.2 (λ s'=>fS E (R.filter λ r => !Nat.testBit (bM.getD x.1 0) r.1) s' (gm E bM m (R.filter λ r => !Nat.testBit (bM.getD x.1 0) r.1) xs K s')) s:=by
 obtain⟨m,_,h|h⟩:=Hb h
 .exact⟨m,h.2⟩
 .rw[hz] at h;cases h.1
theorem zU{p:Nat×Oper->Bool}{f:Nat×Oper->Prop}:∀ {l:List (Nat×Oper)},yy p f l->∀ y∈l,p y=true->f y
 | [],_,y,hy,_=>by cases hy
 | x::l,h,y,hy,hp=>by
  unfold yy at h;split at h
  .rcases a9k.1 hy with rfl|hy
   .exact h.1
   .exact zU h.2 y hy hp
  .rename_i h0;rcases a9k.1 hy with rfl|hy
   .rw[hp] at h0;cases h0
   .exact zU h y hy hp
theorem Yp{a b:Nat}:Nat.beq a b=false↔a≠b:=by
 constructor
 .intro h e;subst e;rw[Nat.beq_refl] at h;cases h
 .intro h;cases hb:Nat.beq a b
  .rfl
  .exact absurd (a8W hb) h
theorem ON{x:Nat×Oper}{xs:List (Nat×Oper)}(h:x.1∉xs.map (·.1)):((x::xs).filter λ z => !Nat.beq z.1 x.1)=xs:=by
 rw[b2C,a9c (by simp)];refine List.filter_eq_self.2 λ z hz=>?_;have:z.1≠x.1:=λ e=>h (a9b.2 ⟨z,hz,e⟩);rw[Yp.2 this];rfl
theorem RL{i:Nat}{o:Oper}:∀ {X:List (Nat×Oper)},(i,o)∈X->(X.map (·.1)).Nodup->(X.filter λ z => !Nat.beq z.1 i).length+1=X.length
 | [],h,_=>by cases h
 | x::xs,h,hn=>by
  simp only[a9x,a9z] at hn;rcases a9k.1 h with e|h
  .subst e;rw[ON (x:=(i,o)) hn.1];rfl
  .have dv:x.1≠i:=λ e=>hn.1 (a9b.2 ⟨_,h,e.symm⟩);rw[b2C,a9l (by rw[Yp.2 dv];rfl),a9f,a9f,RL h hn.2]
theorem Xh{E:Env}{bM:List Nat}{n:Nat}{R X:List (Nat×Oper)}{y:Nat×Oper}{K:ag->Prop}{s:ag}(h:gm E bM n R X K s)(hy:y∈X)(dj:(X.map (·.1)).Nodup)(hc:Oq E bM X y=true)
  (hh:∀ x xs,X=x::xs->df E x.2=true->Nat.testBit (bM.getD y.1 0) x.1=false) :
  ∃ m,fu (dstsOf (R.filter λ r => !Nat.testBit (bM.getD y.1 0) r.1)++qk E (X.filter λ z => !Nat.beq z.1 y.1)) y.2=true /\
   jC E y.2 (λ s'=>fS E (R.filter λ r => !Nat.testBit (bM.getD y.1 0) r.1) s' (gm E bM m (R.filter λ r => !Nat.testBit (bM.getD y.1 0) r.1) (X.filter λ z => !Nat.beq z.1 y.1) K s')) s:=by
 match X,hy,dj,hc,hh,h with
 | x::xs,hy,dj,hc,hh,h =>
  obtain⟨m,_,h|h⟩:=Hb h
  .obtain⟨h1,h2⟩:=h;simp only[a9e,a9H,b0B] at h1;have e:y=x:=by
    rcases a9k.1 hy with e|hy
    .exact e
    .simp only[Oq,a9e,a9t,a9H,b0B] at hc;rcases h1.2 y hy with q|q
     .rw[hc.1] at q;cases q
     .rcases hc.2 x (by simp) with k|k
      .rw[hh x xs rfl k] at q;cases q
      .rw[k] at q;cases q
   subst e;simp only[a9x,a9z] at dj;rw[ON dj.1];exact⟨m,h1.1,h2⟩
  .have:=zU h.2 y hy hc;split at this
   .rename_i hu;exact⟨m,hu,this⟩
   .exact this.elim
theorem Vp(
          hE:bn c.P c.E) {ops:Array Oper} {hi:Nat} {Seg:List (Nat×Oper)} (dy:backward ops.toList=true) (hhi:hi<=ops.size)
  (oe:∀ j o,hi<=j->ops.toList[j]?=some o->∀ k,k<hi->Nat.testBit ((bG ops.toList []).getD j 0) k=true)
  (a2Y:∀ x∈Seg,x.2.guard=none) (ND:∀ x∈Seg,nL c.E x.2=true) (a0S:∀ x∈Seg,iW x.2.op=true->fu (dstsOf (Seg.filter λ y => !Nat.testBit ((bG ops.toList []).getD x.1 0) y.1)++qk c.E Seg) x.2=true) (a0P:∀ x∈Seg,∀ y∈Seg,∀ t,x.2.dst=some t->y.2.dst=some t->x.1=y.1) {K:ag->Prop} {Q':Exit->Act->World->Prop}
  (O4:∀ (fuel:Nat) (G:Gh) (s:ag) (a:Act) (w:World) (listed:Array Bool),ops.size=hi+fuel->listed.size=ops.size->(∀ k,k<ops.size->(listed.getD k false=true↔k<hi))->Inv c G s a w->K s->wpAny c.P .any ops Q' fuel listed a w) :
  ∀ (N fuel:Nat) (Rc X:List (Nat×Oper)) (R:List Nat) (PL:List PE) (SL:List XE) (G:Gh) (t:ag) (a b:Act) (w:World) (listed:Array Bool),fuel+X.length<=N->fuel+PL.length+SL.length=R.length+X.length+(ops.size - hi)->listed.size=ops.size ->
   (∀ i∈R,i<hi/\∃ o,ops.toList[i]?=some o/\(i,o)∈Rc/\(i,o)∈Seg/\lC c.E (bG ops.toList []) Seg (i,o)=true/\fu (dstsOf (Seg.filter λ y => !Nat.testBit ((bG ops.toList []).getD i 0) y.1)) o=true)->(∀ x∈X,x.1<hi/\ops.toList[x.1]?=some x.2/\x∈Seg)->R.Nodup->(X.map (·.1)).Nodup->(∀ i∈R,∀ x∈X,i≠x.1) ->
   (PL.map PE.i++SL.map XE.i).Nodup->(PL.map PE.b).Nodup->(∀ p∈PL,zF c G t.af X a w p)->(∀ e∈SL,YM c.E c.P X a e) ->
   (∀ k,k<ops.size->(listed.getD k false=true↔k<hi/\k∉R/\((∀ x∈X,x.1≠k)\/k∈PL.map PE.i++SL.map XE.i)))->(∀ k,k<ops.size->listed.getD k false=true->∀ o,ops.toList[k]?=some o->∀ e∈o.after.toList,Region.binds .any e=true->listed.getD e.on false=true) ->
   Inv c G t b w->lI (R.filterMap (cf ops.toList)++(PL.map PE.d++SL.map XE.d)) a b->(∀ i∈R,∀ o,ops.toList[i]?=some o->∃ d vc,o.dst=some d/\Zy c.E t o=some (vc,t.aw.getD d .any)/\Vc.ok vc) ->
   ∀ n,gm c.E (bG ops.toList []) n Rc X K t->wpAny c.P .any ops Q' fuel listed a w:=by
 intro N;induction N with
 | zero =>
  intro fuel Rc X R PL SL G t a b w listed hN hf bZ hR hX Kr IJ IG ML S6 kR lT hl uI hI hA hs nn hK;have h2:X=[]:=b0d (by omega);subst h2;have h3:PL=[]:=by
   cases PL with
   | nil=>rfl
   | cons p PL=>obtain⟨o,T,τ,r,hm,_⟩:=(kR p (by simp)).ex;cases hm
  subst h3;have h4:SL=[]:=by
   cases SL with
   | nil=>rfl
   | cons p SL=>have hm:=(lT p (by simp)).mem;cases hm
  subst h4;have h1:R=[]:=List.eq_nil_of_length_eq_zero (by simp at hf;omega);subst h1;have MN:a=b:=lI.eq (by simpa using hA);subst MN;exact O4 fuel G t a w listed (by simp at hf;omega) bZ (λ k hk=>by rw[hl k hk];simp) hI (by rw[R4] at hK;exact hK)
 | succ N ih =>
  intro fuel Rc X R PL SL G t a b w listed hN hf bZ hR hX Kr IJ IG ML S6 kR lT hl uI hI hA hs nn hK;by_cases GP:R=[]/\X=[]
  .obtain⟨rfl,rfl⟩:=GP;have h3:PL=[]:=by
    cases PL with
    | nil=>rfl
    | cons p PL=>obtain⟨o,T,τ,r,hm,_⟩:=(kR p (by simp)).ex;cases hm
   subst h3;have h4:SL=[]:=by
    cases SL with
    | nil=>rfl
    | cons p SL=>have hm:=(lT p (by simp)).mem;cases hm
   subst h4;have MN:a=b:=lI.eq (by simpa using hA);subst MN;exact O4 fuel G t a w listed (by simp at hf;omega) bZ (λ k hk=>by rw[hl k hk];simp) hI (by rw[R4] at hK;exact hK)
  have WQ:∀ i o,i<ops.size->ops.toList[i]?=some o->listed.getD i false=true->∀ k,Nat.testBit ((bG ops.toList []).getD i 0) k=true->listed.getD k false=true/\k<ops.size:=λ i o hi ho hli k hk =>
   Cn (l:=ops.toList) (D:=λ k=>listed.getD k false=true/\k<ops.size) (λ k hk o' cE e he hb=>⟨uI k hk.2 hk.1 o' cE e he hb,by
    have:=bK dy k o' cE e he hb;have:=hk.2;omega⟩) i o ho (λ e he hb=>⟨uI i hi hli o ho e he hb,by
    have:=bK dy i o ho e he hb;omega⟩) k hk
  by_cases NC:∃ x0 xs p,X=x0::xs/\p∈PL/\p.i=x0.1
  .obtain⟨x0,xs,p,rfl,hp,Zc⟩:=NC;obtain⟨o,T,τ,r,hm,bf,GU,hT,iG⟩:=(kR p hp).ex;have KB:x0=(p.i,o):=by
    have h1:=(hX x0 (by simp)).2.1;have h2:=(hX _ hm).2.1;rw[<-Zc,h2] at h1;simp only[a8V] at h1;rw[h1,Zc]
   subst KB;obtain⟨mm,hK⟩:=PS (by simp[df,mg,bf]) hK;rw[TW bf GU hT,<-iG] at hK;obtain⟨k1,k2⟩:=jo hK.2;have OY:=hX _ hm;have hlp:listed.getD p.i false=true:=(hl p.i (by have:=OY.1;simp only at this;omega)).2 ⟨OY.1,λ q=>IG _ q _ hm rfl, .inr (a8X.2 (.inl (a9b.2 ⟨p,hp,rfl⟩)))⟩;have fe:∀ j∈R,∃ o',ops.toList[j]?=some o'/\(j,o')∈Rc.filter λ r => !Nat.testBit ((bG ops.toList []).getD p.i 0) r.1:=λ j hj=>by
    obtain⟨q1,o',q2,q3,_,_⟩:=hR j hj;refine⟨o',q2,b0l.2 ⟨q3,?_⟩⟩;simp only[a9t];cases hb:Nat.testBit ((bG ops.toList []).getD p.i 0) j with
    | false=>rfl
    | true=>exact absurd hj ((hl j (by omega)).1 (WQ p.i o (by have:=OY.1;simp only at this;omega) OY.2.1 hlp j hb).1).2.1
   have a0Y:∀ q∈PL.erase p,q∈PL/\q.i≠p.i/\q.b≠p.b:=λ q hq=>by
    have Yh:=b0A hq;have KA:=b2W hp;have n1:=(KA.map PE.i).nodup_iff.1 (a9s.1 ML).1;have n2:=(KA.map PE.b).nodup_iff.1 S6;simp only[a9x,a9z] at n1 n2;exact⟨Yh,λ e=>n1.1 (a9b.2 ⟨q,hq,e⟩),λ e=>n2.1 (a9b.2 ⟨q,hq,e⟩)⟩
   have a5u:(PL.erase p).length+1=PL.length:=by
    have:=b0V hp;have:=b1d hp;omega
   simp only[a9x,a9z] at IJ;refine ih fuel _ xs R (PL.erase p) SL _ _ a (b.put (some p.d) p.x) w listed (by simp at hN;omega) (by simp at hf;omega) bZ (λ j hj=>?_) (λ y hy=>hX y (by simp[hy])) Kr IJ.2 (λ j hj y hy=>IG j hj y (by simp[hy])) ?_ ?_ (λ q hq=>?_) (λ e he=>?_) (λ k hk=>?_) uI (Wh hI (kR p hp)) ?_ (λ j hj o' cE=>?_) _ k2
   .obtain⟨q1,o',q2,q3,q4,q7⟩:=hR j hj;obtain⟨o2,q5,q6⟩:=fe j hj;have e:o'=o2:=by rw[q2] at q5;simpa using q5
    subst e;exact⟨q1,o',q2,q6,q4,q7⟩
   .exact ML.sublist ((b1J _ b2m).append (List.Sublist.refl _))
   .exact S6.sublist (b1J _ b2m)
   .obtain⟨B3,uN,hq3⟩:=a0Y q hq;obtain⟨o2,T2,je,r2,m1,m2,m3,m4,m5⟩:=(kR q B3).ex;refine⟨⟨o2,T2,je,r2,?_,m2,m3,m4,m5⟩,(kR q B3).val,(kR q B3).ptr,(kR q B3).lt,(kR q B3).new,Wg (kR p hp) (kR q B3).fr hq3⟩;rcases a9k.1 m1 with e|m1
    .simp only[a8Y] at e;exact absurd e.1 uN
    .exact m1
   .have h3:=lT e he;refine⟨?_,h3.dst,h3.val,h3.run⟩;rcases a9k.1 h3.mem with q|q
    .simp only[a8Y] at q;rcases h3.run with ⟨q',_⟩|⟨⟨q',_⟩,_⟩<;>(rw[q.2,bf] at q';cases q')
    .exact q
   .rw[hl k hk];constructor
    .rintro⟨q1,q2,q3⟩;refine⟨q1,q2,?_⟩;by_cases jU:k=p.i
     .subst jU;exact .inl λ y hy e=>IJ.1 (a9b.2 ⟨y,hy,e⟩)
     .rcases q3 with q3|q3
      .exact .inl λ y hy=>q3 y (by simp[hy])
      .rcases a8X.1 q3 with q3|q3
       .obtain⟨q,hq,rfl⟩:=a9b.1 q3;exact .inr (a8X.2 (.inl (a9b.2 ⟨q,(b1k (λ e=>jU (by rw[e]))).2 hq,rfl⟩)))
       .exact .inr (a8X.2 (.inr q3))
    .rintro⟨q1,q2,q3⟩;refine⟨q1,q2,?_⟩;by_cases jU:k=p.i
     .subst jU;exact .inr (a8X.2 (.inl (a9b.2 ⟨p,hp,rfl⟩)))
     .rcases q3 with q3|q3
      .refine .inl λ y hy=>?_;rcases a9k.1 hy with rfl|hy
       .exact λ e=>jU e.symm
       .exact q3 y hy
      .rcases a8X.1 q3 with q3|q3
       .obtain⟨q,hq,rfl⟩:=a9b.1 q3;exact .inr (a8X.2 (.inl (a9b.2 ⟨q,b0A hq,rfl⟩)))
       .exact .inr (a8X.2 (.inr q3))
   .refine⟨by rw[fL];exact hA.size,hA.da,by rw[iI];exact hA.db,λ u hu=>?_⟩;by_cases W8:u=p.d
    .subst W8;rw[(kR p hp).val,dT,<-hA.size];by_cases bj:p.d<a.tmps.size
     .rw[a9l bj,a9l ⟨rfl,bj⟩]
     .rw[a9c bj,a9c (λ q=>bj q.2),a9G,b0o (by rw[<-hA.size];omega)];rfl
    .rw[dT,if_neg (λ q=>W8 (by simpa using q.1.symm))];refine hA.at' u λ hm=>hu ?_;rcases List.mem_append.1 hm with hm|hm
     .exact a8X.2 (.inl hm)
     .rcases a8X.1 hm with hm|hm
      .obtain⟨q,hq,rfl⟩:=a9b.1 hm;exact a8X.2 (.inr (a8X.2 (.inl (a9b.2 ⟨q,(b1k (λ e=>W8 (by rw[e]))).2 hq,rfl⟩))))
      .exact a8X.2 (.inr (a8X.2 (.inr hm)))
   .obtain⟨o2,q5,q6⟩:=fe j hj;rw[q5] at cE;simp only[a8V] at cE;subst cE;exact k1 (j,o2) q6
  by_cases IK:∃ x0 xs e,X=x0::xs/\e∈SL/\e.i=x0.1
  .obtain⟨x0,xs,e,rfl,he,hei⟩:=IK;have S5:=lT e he;have KB:x0=(e.i,e.o):=by
    have h1:=(hX x0 (by simp)).2.1;have h2:=(hX _ S5.mem).2.1;rw[<-hei,h2] at h1;simp only[a8V] at h1;rw[h1,hei]
   subst KB;obtain⟨mm,hK⟩:=PS S5.lz hK;have OY:=hX _ S5.mem;have hlp:listed.getD e.i false=true:=(hl e.i (by have:=OY.1;simp only at this;omega)).2 ⟨OY.1,λ q=>IG _ q _ S5.mem rfl, .inr (a8X.2 (.inr (a9b.2 ⟨e,he,rfl⟩)))⟩;have a0M:=WQ e.i e.o (by have:=OY.1;simp only at this;omega) OY.2.1 hlp;have fe:∀ j∈R,∃ o',ops.toList[j]?=some o'/\(j,o')∈Rc.filter λ r => !Nat.testBit ((bG ops.toList []).getD e.i 0) r.1:=λ j hj=>by
    obtain⟨q1,o',q2,q3,_,_⟩:=hR j hj;refine⟨o',q2,b0l.2 ⟨q3,?_⟩⟩;simp only[a9t];cases hb:Nat.testBit ((bG ops.toList []).getD e.i 0) j with
    | false=>rfl
    | true=>exact absurd hj ((hl j (by omega)).1 (a0M j hb).1).2.1
   have hDu:∀ u,u∈R.filterMap (cf ops.toList)++(PL.map PE.d++SL.map XE.d)->u∈dstsOf (Seg.filter λ y => !Nat.testBit ((bG ops.toList []).getD e.i 0) y.1)++qk c.E Seg:=λ u hu=>by
    rcases a8X.1 hu with hu|hu
    .obtain⟨j,hj,BY⟩:=List.mem_filterMap.1 hu;obtain⟨q1,o',q2,_,q3,_⟩:=hR j hj;refine List.mem_append.2 (.inl (fH.2 ⟨(j,o'),List.mem_filter.2 ⟨q3,?_⟩,by simpa [cf,q2] using BY⟩));simp only[Bool.not_eq_true'];cases hb:Nat.testBit ((bG ops.toList []).getD e.i 0) j with
     | false=>rfl
     | true=>exact absurd hj ((hl j (by omega)).1 (a0M j hb).1).2.1
    .rcases a8X.1 hu with hu|hu
     .obtain⟨p,hp,rfl⟩:=a9b.1 hu;obtain⟨o2,T,τ,r,hm,O9,GU,_⟩:=(kR p hp).ex;exact a8X.2 (.inr (kj c.E (hX _ hm).2.2 (by simp[df,mg,O9]) GU))
     .obtain⟨q,hq,rfl⟩:=a9b.1 hu;exact a8X.2 (.inr (kj c.E (hX _ (lT q hq).mem).2.2 (lT q hq).lz (lT q hq).dst))
   obtain⟨v,Ph,hK⟩:∃ v,VR c G t.af w v e.x/\fS c.E (Rc.filter λ r => !Nat.testBit ((bG ops.toList []).getD e.i 0) r.1) (t.put (some e.d) v) (gm c.E (bG ops.toList []) mm (Rc.filter λ r => !Nat.testBit ((bG ops.toList []).getD e.i 0) r.1) xs K (t.put (some e.d) v)):=by
    rcases S5.run with ⟨hx,hr⟩|⟨hx,p,hp⟩
    .obtain⟨tt,ix,bf⟩:∃ tt ix,e.o.op = .extract tt ix:=by
      have:=hx;unfold iW at this;split at this
      .exact⟨_,_,by assumption⟩
      .cases this
     obtain⟨vs,v,hv1,hv2,hK⟩:=Qe bf S5.dst hK;have cz:=hr w;rw[hA.exec (lE (a0S _ OY.2.2 hx) hDu)] at cz;have Ph:=SY hI bf hv1 hv2 cz;exact⟨v,Ph,Ec Ph hK⟩
    .obtain⟨τ,hK⟩:=VI hx (ND _ OY.2.2) S5.dst hK;refine⟨_,?_,hK⟩;rw[hp];exact⟨p,0,rfl,a9n _,by simp[maxLen],by simp, .inl rfl⟩
   obtain⟨k1,k2⟩:=jo hK;have a0Y:∀ q∈SL.erase e,q∈SL/\q.i≠e.i:=λ q hq=>by
    have Yh:=b0A hq;have KA:=b2W he;have n1:=(KA.map XE.i).nodup_iff.1 (a9s.1 ML).2.1;simp only[a9x,a9z] at n1;exact⟨Yh,λ q'=>n1.1 (a9b.2 ⟨q,hq,q'⟩)⟩
   have a5u:(SL.erase e).length+1=SL.length:=by
    have:=b0V he;have:=b1d he;omega
   simp only[a9x,a9z] at IJ;refine ih fuel _ xs R PL (SL.erase e) _ _ a (b.put (some e.d) e.x) w listed (by simp at hN;omega) (by simp at hf;omega) bZ (λ j hj=>?_) (λ y hy=>hX y (by simp[hy])) Kr IJ.2 (λ j hj y hy=>IG j hj y (by simp[hy])) ?_ S6 (λ q hq=>?_) (λ q hq=>?_) (λ k hk=>?_) uI (Inv.put (d:=some e.d) hI Ph) ?_ (λ j hj o' cE=>?_) _ k2
   .obtain⟨q1,o',q2,q3,q4,q7⟩:=hR j hj;obtain⟨o2,q5,q6⟩:=fe j hj;have e:o'=o2:=by rw[q2] at q5;simpa using q5
    subst e;exact⟨q1,o',q2,q6,q4,q7⟩
   .exact ML.sublist ((List.Sublist.refl _).append (b1J _ b2m))
   .obtain⟨o2,T2,je,r2,m1,m2,m3,m4,m5⟩:=(kR q hq).ex;refine⟨⟨o2,T2,je,r2,?_,m2,m3,m4,m5⟩,(kR q hq).val,(kR q hq).ptr,(kR q hq).lt,(kR q hq).new,(kR q hq).fr⟩;rcases a9k.1 m1 with e'|m1
    .simp only[a8Y] at e';rcases S5.run with ⟨q',_⟩|⟨⟨q',_⟩,_⟩<;>(rw[<-e'.2,m2] at q';cases q')
    .exact m1
   .obtain⟨B3,uN⟩:=a0Y q hq;have h3:=lT q B3;refine⟨?_,h3.dst,h3.val,h3.run⟩;rcases a9k.1 h3.mem with e'|e'
    .simp only[a8Y] at e';exact absurd e'.1 uN
    .exact e'
   .rw[hl k hk];constructor
    .rintro⟨q1,q2,q3⟩;refine⟨q1,q2,?_⟩;by_cases jU:k=e.i
     .subst jU;exact .inl λ y hy e=>IJ.1 (a9b.2 ⟨y,hy,e⟩)
     .rcases q3 with q3|q3
      .exact .inl λ y hy=>q3 y (by simp[hy])
      .rcases a8X.1 q3 with q3|q3
       .exact .inr (a8X.2 (.inl q3))
       .obtain⟨q,hq,rfl⟩:=a9b.1 q3;exact .inr (a8X.2 (.inr (a9b.2 ⟨q,(b1k (λ e=>jU (by rw[e]))).2 hq,rfl⟩)))
    .rintro⟨q1,q2,q3⟩;refine⟨q1,q2,?_⟩;by_cases jU:k=e.i
     .subst jU;exact .inr (a8X.2 (.inr (a9b.2 ⟨e,he,rfl⟩)))
     .rcases q3 with q3|q3
      .refine .inl λ y hy=>?_;rcases a9k.1 hy with rfl|hy
       .exact λ e=>jU e.symm
       .exact q3 y hy
      .rcases a8X.1 q3 with q3|q3
       .exact .inr (a8X.2 (.inl q3))
       .obtain⟨q,hq,rfl⟩:=a9b.1 q3;exact .inr (a8X.2 (.inr (a9b.2 ⟨q,b0A hq,rfl⟩)))
   .refine⟨by rw[fL];exact hA.size,hA.da,by rw[iI];exact hA.db,λ u hu=>?_⟩;by_cases W8:u=e.d
    .subst W8;rw[S5.val,dT,<-hA.size];by_cases bj:e.d<a.tmps.size
     .rw[a9l bj,a9l ⟨rfl,bj⟩]
     .rw[a9c bj,a9c (λ q=>bj q.2),a9G,b0o (by rw[<-hA.size];omega)];rfl
    .rw[dT,if_neg (λ q=>W8 (by simpa using q.1.symm))];refine hA.at' u λ hm=>hu ?_;rcases List.mem_append.1 hm with hm|hm
     .exact a8X.2 (.inl hm)
     .rcases a8X.1 hm with hm|hm
      .exact a8X.2 (.inr (a8X.2 (.inl hm)))
      .obtain⟨q,hq,rfl⟩:=a9b.1 hm;exact a8X.2 (.inr (a8X.2 (.inr (a9b.2 ⟨q,(b1k (λ e=>W8 (by rw[e]))).2 hq,rfl⟩))))
   .obtain⟨o2,q5,q6⟩:=fe j hj;rw[q5] at cE;simp only[a8V] at cE;subst cE;exact k1 (j,o2) q6
  have a0L:∀ p∈PL,∃ x∈X,x.1=p.i:=λ p hp=>by
   obtain⟨o,T,τ,r,hm,_⟩:=(kR p hp).ex;exact⟨_,hm,rfl⟩
  have UP:∀ p∈SL,∃ x∈X,x.1=p.i:=λ p hp=>⟨_,(lT p hp).mem,rfl⟩;have hun:∃ k,k<hi/\¬ (listed.getD k false=true):=by
   rcases R with _|⟨i,R⟩
   .rcases X with _|⟨x,X⟩
    .exact absurd ⟨rfl,rfl⟩ GP
    .have:=(hX x (by simp)).1;refine⟨x.1,this,λ hh=>((hl x.1 (by omega)).1 hh).2.2.elim (λ q=>q x (by simp) rfl) λ q=>?_⟩;rcases a8X.1 q with q|q
     .obtain⟨p,hp,e⟩:=a9b.1 q;exact NC ⟨x,X,p,rfl,hp,e⟩
     .obtain⟨p,hp,e⟩:=a9b.1 q;exact IK ⟨x,X,p,rfl,hp,e⟩
   .have:=(hR i (by simp)).1;exact⟨i,this,λ hh=>((hl i (by omega)).1 hh).2.1 (by simp)⟩
  have C7:PL.length+SL.length<R.length+X.length:=by
   rcases R with _|⟨i,R⟩
   .rcases X with _|⟨x,X⟩
    .exact absurd ⟨rfl,rfl⟩ GP
    .have Fs:(PL.map PE.i++SL.map XE.i) ⊆ X.map (·.1):=λ k hk=>by
      rcases a8X.1 hk with hk|hk
      .obtain⟨p,hp,rfl⟩:=a9b.1 hk;obtain⟨y,hy,e⟩:=a0L p hp;rcases a9k.1 hy with rfl|hy
       .exact absurd ⟨_,_,p,rfl,hp,e.symm⟩ NC
       .exact a9b.2 ⟨y,hy,e⟩
      .obtain⟨p,hp,rfl⟩:=a9b.1 hk;obtain⟨y,hy,e⟩:=UP p hp;rcases a9k.1 hy with rfl|hy
       .exact absurd ⟨_,_,p,rfl,hp,e.symm⟩ IK
       .exact a9b.2 ⟨y,hy,e⟩
     have:=b1y ML Fs;simp at this ⊢;omega
   .have Fs:(PL.map PE.i++SL.map XE.i) ⊆ X.map (·.1):=λ k hk=>by
     rcases a8X.1 hk with hk|hk
     .obtain⟨p,hp,rfl⟩:=a9b.1 hk;obtain⟨y,hy,e⟩:=a0L p hp;exact a9b.2 ⟨y,hy,e⟩
     .obtain⟨p,hp,rfl⟩:=a9b.1 hk;obtain⟨y,hy,e⟩:=UP p hp;exact a9b.2 ⟨y,hy,e⟩
    have:=b1y ML Fs;simp at this ⊢;omega
  obtain⟨fuel,rfl⟩:∃ f,fuel=f+1:=⟨fuel - 1,by omega⟩;obtain⟨k1,oO⟩:=hun;obtain⟨k0,⟨Ye,kd⟩,U2⟩:=exists_least (p:=λ k=>k<hi/\¬ (listed.getD k false=true)) k1 oO;have UX:ops[k0]?=some (ops[k0]'(by omega)):=a9S (by omega);constructor
  .intro iK;have:k0∈Region.ready .any ops listed:=(mem_ready bZ).2 ⟨_,UX,by
    cases hb:listed.getD k0 false with
    | false=>rfl
    | true=>exact absurd hb kd,λ e he hb=>by
    have bj:=bK dy k0 ops[k0] (by simp) e he hb;exact b1L λ hh=>U2 e.on bj ⟨by omega,hh⟩⟩
   rw[iK] at this;cases this
  .intro i gI;obtain⟨o,cg,h1,h2⟩:=(mem_ready bZ).1 gI;have Fq:=(Array.getElem?_eq_some_iff.1 cg).1;have dW:ops.toList[i]?=some o:=by simpa using cg
   have Bg:=Cn (l:=ops.toList) (D:=λ k=>listed.getD k false=true/\k<ops.size) (λ k hk o' cE e he hb=>⟨uI k hk.2 hk.1 o' cE e he hb,by
    have:=bK dy k o' cE e he hb;have:=hk.2;omega⟩) i o dW (λ e he hb=>⟨h2 e he hb,by
    have:=bK dy i o dW e he hb;omega⟩)
   have qE:i<hi:=by
    rcases a9O i hi with h|h
    .exact h
    .exact absurd (Bg k0 (oe i o h dW k0 Ye)).1 kd
   have Bi:∀ k,(listed.setIfInBounds i true).getD k false=true↔listed.getD k false=true\/k=i:=λ k=>qL (by omega);have UT:∀ k,k<ops.size->(listed.setIfInBounds i true).getD k false=true->∀ o,ops.toList[k]?=some o->∀ e∈o.after.toList,Region.binds .any e=true->(listed.setIfInBounds i true).getD e.on false=true:=by
    intro k hk BZ o' cE e he hb;rw[Bi] at BZ ⊢;rcases BZ with BZ|rfl
    .exact .inl (uI k hk BZ o' cE e he hb)
    .rw[dW] at cE;simp only[a8V] at cE;subst cE;exact .inl (h2 e he hb)
   have a1a:¬ (listed.getD i false=true):=by rw[h1];simp
   have Yj:=a1a;rw[hl i Fq] at Yj;have hXi:i∉R->∃ x∈X,x.1=i:=λ GQ=>b1L λ hh=>Yj ⟨qE,GQ, .inl λ x hx e=>hh ⟨x,hx,e⟩⟩;have RT:∀ p∈PL,p.i≠i:=λ p hp e=>by
    obtain⟨x,hx,hxe⟩:=a0L p hp;exact Yj ⟨qE,λ q=>IG i q x hx (by rw[hxe,e]), .inr (a8X.2 (.inl (a9b.2 ⟨p,hp,e⟩)))⟩
   have RU:∀ p∈SL,p.i≠i:=λ p hp e=>by
    obtain⟨x,hx,hxe⟩:=UP p hp;exact Yj ⟨qE,λ q=>IG i q x hx (by rw[hxe,e]), .inr (a8X.2 (.inr (a9b.2 ⟨p,hp,e⟩)))⟩
   have IH:(i,o)∈Seg:=by
    by_cases GQ:i∈R
    .obtain⟨_,o',cE,_,hm,_⟩:=hR i GQ;rw[dW] at cE;simp only[a8V] at cE;subst cE;exact hm
    .obtain⟨x,hx,EX⟩:=hXi GQ;have:=(hX x hx).2.1;rw[EX,dW] at this;simp only[a8V] at this;have e:x=(i,o):=by rw[<-EX,this]
     rw[<-e];exact (hX x hx).2.2
   have hg:o.guard=none:=a2Y _ IH;have hPd:∀ p∈PL,o.dst≠some p.d:=λ p hp e=>by
    obtain⟨o2,T,τ,r,hm,bf,GU,_⟩:=(kR p hp).ex;have hsg:=(hX _ hm).2.2;exact RT p hp (a0P _ hsg _ IH p.d GU e)
   have hSd:∀ p∈SL,o.dst≠some p.d:=λ p hp e=>RU p hp (a0P _ (hX _ (lT p hp).mem).2.2 _ IH p.d (lT p hp).dst e);have hSu:∀ p∈SL,∀ t,o.dst=some t->fu [t] p.o=true:=λ p hp t ht=>by
    have hm:=hX _ (lT p hp).mem;have hlp:listed.getD p.i false=true:=(hl p.i (by have:=hm.1;simp only at this;omega)).2 ⟨hm.1,λ q=>IG _ q _ (lT p hp).mem rfl, .inr (a8X.2 (.inr (a9b.2 ⟨p,hp,rfl⟩)))⟩;rcases (lT p hp).run with ⟨hex,_⟩|⟨An,_⟩;rotate_left
    .exact XL An.1 _
    refine lE (a0S _ hm.2.2 hex) λ u hu=>?_;simp only[a9w] at hu;subst hu;refine a8X.2 (.inl (fH.2 ⟨_,b0l.2 ⟨IH,?_⟩,ht⟩));simp only[a9t];cases hb:Nat.testBit ((bG ops.toList []).getD p.i 0) i with
    | false=>rfl
    | true=>exact absurd (WQ p.i p.o (by have:=hm.1;simp only at this;omega) hm.2.1 hlp i hb).1 a1a
   have hw:Region.wanted o (yielded ops a.tmps)=true:=by simp[Region.wanted,hg]
   unfold wpOp;simp only[cg];rw[if_pos hw];refine .inl ?_;by_cases GQ:i∈R
   ·
    obtain⟨_,o',cE,Yh,_,ff,hu⟩:=hR i GQ;rw[dW] at cE;simp only[a8V] at cE;subst cE;obtain⟨d,vc,hd,hr,dY⟩:=hs i GQ o dW;obtain⟨x,hx,hvx⟩:=Qa hE hI hr dY;have hu:fu (R.filterMap (cf ops.toList)++(PL.map PE.d++SL.map XE.d)) o=true:=lE hu λ t ht=>by
     rcases a8X.1 ht with ht|ht
     .obtain⟨j,hj,BY⟩:=List.mem_filterMap.1 ht;obtain⟨q1,o',q2,_,q3,_⟩:=hR j hj;refine fH.2 ⟨(j,o'),List.mem_filter.2 ⟨q3,?_⟩,by simpa [cf,q2] using BY⟩;simp only[Bool.not_eq_true'];cases hb:Nat.testBit ((bG ops.toList []).getD i 0) j with
      | false=>rfl
      | true=>exact absurd hj ((hl j (by omega)).1 (Bg j hb).1).2.1
     .obtain⟨zi,zo,hm,U1,GU⟩:∃ zi zo,(zi,zo)∈X/\df c.E zo=true/\zo.dst=some t:=by
       rcases a8X.1 ht with ht|ht
       .obtain⟨p,hp,rfl⟩:=a9b.1 ht;obtain⟨o2,T,τ,r,hm,bf,GU,_⟩:=(kR p hp).ex;exact⟨_,o2,hm,by simp[df,mg,bf],GU⟩
       .obtain⟨p,hp,rfl⟩:=a9b.1 ht;exact⟨_,p.o,(lT p hp).mem,(lT p hp).lz,(lT p hp).dst⟩
      have hsg:=(hX _ hm).2.2;by_cases hb:Nat.testBit ((bG ops.toList []).getD i 0) zi=true
      .simp only[lC,a9e,a9H,b0B,a9t] at ff;rcases ff.2 _ hsg with q|q
       .rw[BH (Re q)] at U1;cases U1
       .rw[hb] at q;cases q
      .exact fH.2 ⟨_,List.mem_filter.2 ⟨hsg,by simpa using hb⟩,GU⟩
    unfold Oper.wp;rw[hA.exec hu,hx];show wpAny c.P .any ops Q' fuel _ (a.put o.dst x) w;have QU:(R.erase i).length+1=R.length:=by
     have:=b0V GQ;have:=b1d GQ;omega
    have Fs:∀ t,t∈(R.erase i).filterMap (cf ops.toList)->t∈R.filterMap (cf ops.toList):=λ t ht=>by
     obtain⟨q,hq,hqd⟩:=b0T.1 ht;exact b0T.2 ⟨q,b0A hq,hqd⟩
    refine ih fuel Rc X (R.erase i) PL SL G t (a.put o.dst x) (b.put o.dst x) w _ (by omega) (by omega) (by rw[b0q];exact bZ) (λ j hj=>?_) hX (Kr.erase i) IJ (λ j hj=>IG j (b0A hj)) ML S6 (λ p hp=>(kR p hp).put (hPd p hp)) (λ e he=>(lT e he).put hA.da (hSd e he) (hSu e he)) (λ k hk=>?_) UT (by rw[hd];exact ZD hI hvx) (hA.put λ q hq U4=>?_) (λ j hj=>hs j (b0A hj)) _ hK
    .exact hR j (b0A hj)
    .rw[Bi,hl k hk,Kr.mem_erase_iff];constructor
     .rintro (⟨q1,q2,q3⟩|rfl)
      .exact⟨q1,λ q=>q2 q.2,q3⟩
      .exact⟨qE,λ q=>q.1 rfl, .inl λ x hx=>(IG _ GQ x hx).symm⟩
     .rintro⟨q1,q2,q3⟩;by_cases GS:k=i
      .exact .inr GS
      .exact .inl ⟨q1,λ q=>q2 ⟨GS,q⟩,q3⟩
    .rcases a8X.1 hq with hq|hq
     .obtain⟨j,hj,BY⟩:=b0T.1 hq;by_cases rM:j=i
      .subst rM;rw[<-BY];simp[cf,dW]
      .exact absurd (a8X.2 (.inl (b0T.2 ⟨j,Kr.mem_erase_iff.2 ⟨rM,hj⟩,BY⟩))) U4
     .exact absurd (a8X.2 (.inr hq)) U4
   .obtain⟨x,hx,EX⟩:=hXi GQ;have hxo:x=(i,o):=by
     have:=(hX x hx).2.1;rw[EX,dW] at this;simp only[a8V] at this;rw[<-EX,this]
    subst hxo;have hZ:∀ b,(∃ p∈PL,p.b=b)->tF c G t.af w b:=λ b ⟨p,hp,e⟩=>e ▸ (kR p hp).fr;by_cases Y5:mg o.op=true
    ·
     have MO:=ND _ IH;obtain⟨T,bf⟩:∃ T,o.op = .alloc T:=by
      unfold mg at Y5;split at Y5
      .exact⟨_,by assumption⟩
      .cases Y5
     unfold nL at MO;simp only[bf,Bool.and_eq_true,Option.isSome_iff_exists] at MO;obtain⟨⟨d,hd⟩,GO,⟨⟨τ,r⟩,hT⟩⟩:=MO;simp only[hd,rf,Nat.blt_eq] at GO;obtain⟨w',p,Zc,hpd,hpb,cz,vT,hpo,jU⟩:=SQ hE hI (a2:=a) bf hd hT GO hx;unfold Oper.wp;rw[cz];show wpAny c.P .any ops Q' fuel _ (a.put o.dst p.x) w';rw[hd];refine ih fuel Rc X R (p::PL) SL G t (a.put (some d) p.x) b w' _ (by omega) (by simp;omega) (by rw[Array.size_setIfInBounds];exact bZ) hR hX Kr IJ IG ?_ ?_ (λ q hq=>?_) (λ e he=>(lT e he).put hA.da (by rw[<-hd];exact hSd e he) (by rw[<-hd];exact hSu e he)) (λ k hk=>?_) UT vT ?_ hs _ hK
     .simp only[a9x,a9X,a9z];refine⟨λ hm=>?_,ML⟩;rcases a8X.1 hm with hm|hm
      .obtain⟨q,hq,e⟩:=a9b.1 hm;exact RT q hq (by rw[e,Zc])
      .obtain⟨q,hq,e⟩:=a9b.1 hm;exact RU q hq (by rw[e,Zc])
     .simp only[a9x,a9z];refine⟨λ hm=>?_,S6⟩;obtain⟨q,hq,e⟩:=a9b.1 hm;have:=(kR q hq).fr.2.2.1;rw[e,hpb] at this;exact b1t _ this
     .rcases a9k.1 hq with rfl|hq
      .exact hpo
      .have h3:=(kR q hq).put (d:=some d) (x:=p.x) (by rw[<-hd];exact hPd q hq);have bj:=h3.fr.2.2.1;refine⟨h3.ex,h3.val,h3.ptr,h3.lt,?_,h3.fr.grow jU.size⟩;obtain⟨l,ty,q1,q2⟩:=h3.new;exact⟨l,ty,by rw[jU.block q.b bj (λ h=>h)];exact q1,q2⟩
     .rw[Bi,hl k hk,a9x,a9X,a9k,Zc];constructor
      .rintro (⟨q1,q2,q3⟩|rfl)
       .exact⟨q1,q2,q3.imp id .inr⟩
       .exact⟨qE,GQ, .inr (.inl rfl)⟩
      .rintro⟨q1,q2,q3⟩;by_cases GS:k=i
       .exact .inr GS
       .exact .inl ⟨q1,q2,q3.imp id λ q=>q.resolve_left GS⟩
     .refine⟨by rw[fL];exact hA.size,by rw[iI];exact hA.da,hA.db,λ u hu=>?_⟩;simp only[List.map_cons,List.cons_append,List.mem_append,List.mem_cons,hpd] at hu;rw[dT,if_neg (λ q=>hu (.inr (.inl (by simpa using q.1.symm))))];exact hA.at' u λ hm=>hu ((List.mem_append.1 hm).imp id λ q => .inr (List.mem_append.1 q))
    by_cases hex:iW o.op=true
    ·
     obtain⟨tt,ix,bf⟩:∃ tt ix,o.op = .extract tt ix:=by
      have:=hex;unfold iW at this;split at this
      .exact⟨_,_,by assumption⟩
      .cases this
     have a6P:wy t o.op=true:=by
      obtain⟨x0,xs,rfl⟩:∃ x0 xs,X=x0::xs:=by
       cases X with
       | nil=>cases hx
       | cons x0 xs=>exact⟨x0,xs,rfl⟩
      obtain⟨_,h3,_⟩:=Hb hK;unfold TH at h3;rw[List.all_eq_true] at h3;have h4:=h3 _ hx;rw[Bool.or_eq_true] at h4;rcases h4 with h4|h4
      .exact h4
      .rw[b2D] at h4;obtain⟨y,hy,h4⟩:=h4;rw[a9e,a9t] at h4;have h5:=(Bg y.1 h4.2).1;have h6:=(hX y hy).1;rcases ((hl y.1 (by omega)).1 h5).2.2 with h7|h7
       .exact absurd rfl (h7 y hy)
       .have hyl:df c.E y.2=true:=by
         have e0:=(hX y hy).2.1;rcases a8X.1 h7 with h7|h7
         .obtain⟨p,hp,e⟩:=a9b.1 h7;obtain⟨o2,T,τ,r,hm,O9,GU,_⟩:=(kR p hp).ex;have e1:=(hX _ hm).2.1;simp only at e1;rw[e,e0] at e1;simp only[a8V] at e1;rw[e1];simp[df,mg,O9]
         .obtain⟨p,hp,e⟩:=a9b.1 h7;have e1:=(hX _ (lT p hp).mem).2.1;simp only at e1;rw[e,e0] at e1;simp only[a8V] at e1;rw[e1];simp[(lT p hp).lz]
        rw[hyl] at h4;exact absurd h4.1 (by simp)
     obtain⟨x,cz⟩:=SV hI bf a6P;have MO:=a0S _ IH hex;obtain⟨d,hd⟩:∃ d,o.dst=some d:=by
      have:=ND _ IH;simp only[nL,bf,b2E] at this;exact this
     have hDu:∀ u,u∈R.filterMap (cf ops.toList)++(PL.map PE.d++SL.map XE.d)->u∈dstsOf (Seg.filter λ y => !Nat.testBit ((bG ops.toList []).getD i 0) y.1)++qk c.E Seg:=λ u hu=>by
      rcases a8X.1 hu with hu|hu
      .obtain⟨j,hj,BY⟩:=List.mem_filterMap.1 hu;obtain⟨q1,o',q2,_,q3,_⟩:=hR j hj;refine List.mem_append.2 (.inl (fH.2 ⟨(j,o'),List.mem_filter.2 ⟨q3,?_⟩,by simpa [cf,q2] using BY⟩));simp only[Bool.not_eq_true'];cases hb:Nat.testBit ((bG ops.toList []).getD i 0) j with
       | false=>rfl
       | true=>exact absurd hj ((hl j (by omega)).1 (Bg j hb).1).2.1
      .rcases a8X.1 hu with hu|hu
       .obtain⟨p,hp,rfl⟩:=a9b.1 hu;obtain⟨o2,T,τ,r,hm,O9,GU,_⟩:=(kR p hp).ex;exact a8X.2 (.inr (kj c.E (hX _ hm).2.2 (by simp[df,mg,O9]) GU))
       .obtain⟨q,hq,rfl⟩:=a9b.1 hu;exact a8X.2 (.inr (kj c.E (hX _ (lT q hq).mem).2.2 (lT q hq).lz (lT q hq).dst))
     have a1e:∀ w',(execOp a.eval o).run c.P w' = .ok (.value x) w':=λ w'=>by
      rw[hA.exec (lE MO hDu)];exact cz w'
     have a5v:fu [d] o=true:=lE MO λ u hu=>by
      simp only[a9w] at hu;subst hu;exact a8X.2 (.inr (kj c.E IH (by simp[df,hex]) hd))
     unfold Oper.wp;rw[a1e w];show wpAny c.P .any ops Q' fuel _ (a.put o.dst x) w;rw[hd];refine ih fuel Rc X R PL (⟨i,d,x,o⟩::SL) G t (a.put (some d) x) b w _ (by omega) (by simp;omega) (by rw[Array.size_setIfInBounds];exact bZ) hR hX Kr IJ IG ?_ S6 (λ q hq=>(kR q hq).put (by rw[<-hd];exact hPd q hq)) (λ e he=>?_) (λ k hk=>?_) UT hI ?_ hs _ hK
     .rw[a9x];refine (b2F.nodup_iff).2 (a9z.2 ⟨λ hm=>?_,ML⟩);rcases a8X.1 hm with hm|hm
      .obtain⟨q,hq,e⟩:=a9b.1 hm;exact RT q hq e
      .obtain⟨q,hq,e⟩:=a9b.1 hm;exact RU q hq e
     .rcases a9k.1 he with rfl|he
      .refine⟨hx,hd,?_, .inl ⟨hex,λ w'=>?_⟩⟩
       .simp only[dT,fL,b0z];split
        .rfl
        .rename_i bj;first|rfl|(rw[a9G,b0o (by omega)];rfl)
       .have hA':lI [d] (a.put (some d) x) a:=⟨fL a _ x,by rw[iI];exact hA.da,hA.da,λ u hu=>by rw[dT,if_neg (λ q=>hu (by simpa using q.1.symm))]⟩;show (execOp (a.put (some d) x).eval o).run c.P w'=_;rw[hA'.exec a5v];exact a1e w'
      .exact (lT e he).put hA.da (by rw[<-hd];exact hSd e he) (by rw[<-hd];exact hSu e he)
     .rw[Bi,hl k hk,a9x];constructor
      .rintro (⟨q1,q2,q3⟩|rfl)
       .refine⟨q1,q2,q3.imp (λ q=>q) λ q=>?_⟩;rcases a8X.1 q with q|q
        .exact a8X.2 (.inl q)
        .exact a8X.2 (.inr (b0u _ q))
       .exact⟨qE,GQ, .inr (a8X.2 (.inr (b1f ..)))⟩
      .rintro⟨q1,q2,q3⟩;by_cases GS:k=i
       .exact .inr GS
       .refine .inl ⟨q1,q2,q3.imp (λ q=>q) λ q=>?_⟩;rcases a8X.1 q with q|q
        .exact a8X.2 (.inl q)
        .exact a8X.2 (.inr ((a9k.1 q).resolve_left GS))
     .refine⟨by rw[fL];exact hA.size,by rw[iI];exact hA.da,hA.db,λ u hu=>?_⟩;simp only[List.map_cons,List.mem_append,List.mem_cons] at hu;rw[dT,if_neg (λ q=>hu (.inr (.inr (.inl (by simpa using q.1.symm)))))];exact hA.at' u λ hm=>hu ((List.mem_append.1 hm).imp (λ q=>q) λ q=>(List.mem_append.1 q).imp (λ q=>q) .inr)
    by_cases An:tg o.op=true/\DM c.E o=true
    ·
     have MO:=ND _ IH;obtain⟨d,hd⟩:∃ d,o.dst=some d:=by
      obtain⟨T,bf⟩:=Ji An.1;unfold nL at MO;rw[bf,An.2] at MO;cases hd:o.dst with
      | some d=>exact⟨d,rfl⟩
      | none=>rw[hd] at MO;simp at MO
     obtain⟨w',x,cz,vT,Tq,jU⟩:=UE hE hI (a2:=a) An MO hd;unfold Oper.wp;rw[cz];show wpAny c.P .any ops Q' fuel _ (a.put o.dst x) w';rw[hd];refine ih fuel Rc X R PL (⟨i,d,x,o⟩::SL) G t (a.put (some d) x) b w' _ (by omega) (by simp;omega) (by rw[Array.size_setIfInBounds];exact bZ) hR hX Kr IJ IG ?_ S6 (λ q hq=>?_) (λ e he=>?_) (λ k hk=>?_) UT vT ?_ hs _ hK
     .rw[a9x];refine (b2F.nodup_iff).2 (a9z.2 ⟨λ hm=>?_,ML⟩);rcases a8X.1 hm with hm|hm
      .obtain⟨q,hq,e⟩:=a9b.1 hm;exact RT q hq e
      .obtain⟨q,hq,e⟩:=a9b.1 hm;exact RU q hq e
     .have h3:=(kR q hq).put (d:=some d) (x:=x) (by rw[<-hd];exact hPd q hq);have bj:=h3.fr.2.2.1;refine⟨h3.ex,h3.val,h3.ptr,h3.lt,?_,h3.fr.grow jU.size⟩;obtain⟨l,ty,q1,q2⟩:=h3.new;exact⟨l,ty,by rw[jU.block q.b bj (λ h=>h)];exact q1,q2⟩
     .rcases a9k.1 he with rfl|he
      .refine⟨hx,hd,?_, .inr ⟨An,Tq⟩⟩;simp only[dT,fL,b0z];split
       .rfl
       .rename_i bj;first|rfl|(rw[a9G,b0o (by omega)];rfl)
      .exact (lT e he).put hA.da (by rw[<-hd];exact hSd e he) (by rw[<-hd];exact hSu e he)
     .rw[Bi,hl k hk,a9x];constructor
      .rintro (⟨q1,q2,q3⟩|rfl)
       .refine⟨q1,q2,q3.imp (λ q=>q) λ q=>?_⟩;rcases a8X.1 q with q|q
        .exact a8X.2 (.inl q)
        .exact a8X.2 (.inr (b0u _ q))
       .exact⟨qE,GQ, .inr (a8X.2 (.inr (b1f ..)))⟩
      .rintro⟨q1,q2,q3⟩;by_cases GS:k=i
       .exact .inr GS
       .refine .inl ⟨q1,q2,q3.imp (λ q=>q) λ q=>?_⟩;rcases a8X.1 q with q|q
        .exact a8X.2 (.inl q)
        .exact a8X.2 (.inr ((a9k.1 q).resolve_left GS))
     .refine⟨by rw[fL];exact hA.size,by rw[iI];exact hA.da,hA.db,λ u hu=>?_⟩;simp only[List.map_cons,List.mem_append,List.mem_cons] at hu;rw[dT,if_neg (λ q=>hu (.inr (.inr (.inl (by simpa using q.1.symm)))))];exact hA.at' u λ hm=>hu ((List.mem_append.1 hm).imp (λ q=>q) λ q=>(List.mem_append.1 q).imp (λ q=>q) .inr)
    ·
     have a7f:df c.E o=false:=by
      simp only[df,Bool.or_eq_false_iff];exact⟨by simpa using Y5,by simpa using hex,by
       cases q1:tg o.op
       .rfl
       .cases q2:DM c.E o
        .rfl
        .exact absurd ⟨q1,q2⟩ An⟩
     have U1:∀ z∈X,Nat.testBit ((bG ops.toList []).getD i 0) z.1=true->df c.E z.2=true/\z.1∈PL.map PE.i++SL.map XE.i:=λ z hz hb=>by
      have h3:=(Bg z.1 hb).1;have h4:=(hX z hz).1;rcases ((hl z.1 (by omega)).1 h3).2.2 with h5|h5
      .exact absurd rfl (h5 z hz)
      .refine⟨?_,h5⟩;have e0:=(hX z hz).2.1;rcases a8X.1 h5 with h7|h7
       .obtain⟨p,hp,e⟩:=a9b.1 h7;obtain⟨o2,T,τ,r,hm,O9,GU,_⟩:=(kR p hp).ex;have e1:=(hX _ hm).2.1;simp only at e1;rw[e,e0] at e1;simp only[a8V] at e1;rw[e1];simp[df,mg,O9]
       .obtain⟨p,hp,e⟩:=a9b.1 h7;have e1:=(hX _ (lT p hp).mem).2.1;simp only at e1;rw[e,e0] at e1;simp only[a8V] at e1;rw[e1];exact (lT p hp).lz
     obtain⟨mm,hu0,hK⟩:=Xh (y:=(i,o)) hK hx IJ (by
      simp only[Oq,a7f,a9J,b1s,a9H,b0B,a9t];intro z hz;cases hb:Nat.testBit ((bG ops.toList []).getD i 0) z.1 with
      | false=>exact .inr rfl
      | true=>exact .inl (U1 z hz hb).1) (λ x0 xs e hz=>by
      cases hb:Nat.testBit ((bG ops.toList []).getD i 0) x0.1 with
      | false=>rfl
      | true =>
       rcases a8X.1 (U1 x0 (by rw[e];simp) hb).2 with h5|h5
       .obtain⟨p,hp,e'⟩:=a9b.1 h5;exact absurd ⟨x0,xs,p,e,hp,e'⟩ NC
       .obtain⟨p,hp,e'⟩:=a9b.1 h5;exact absurd ⟨x0,xs,p,e,hp,e'⟩ IK)
     have hxm:∀ z,z∈X->z.1≠i->z∈X.filter λ z => !Nat.beq z.1 i:=λ z hz dv=>List.mem_filter.2 ⟨hz,by rw[Yp.2 dv];rfl⟩;have Ym:∀ z,z∈(X.filter λ z => !Nat.beq z.1 i)->z∈X/\z.1≠i:=λ z hz=>⟨(List.mem_filter.1 hz).1,Yp.1 (by simpa using (List.mem_filter.1 hz).2)⟩;have qF:(X.filter λ z => !Nat.beq z.1 i).length+1=X.length:=RL hx IJ;generalize iU:(X.filter λ z => !Nat.beq z.1 i)=xs at *
     have hxn:(xs.map (·.1)).Nodup:=by rw[<-iU];exact IJ.sublist (b1J _ b3j)
     .simp only at hu0 hK;have fe:∀ j∈R,∃ o',ops.toList[j]?=some o'/\(j,o')∈Rc.filter λ r => !Nat.testBit ((bG ops.toList []).getD i 0) r.1:=λ j hj=>by
       obtain⟨q1,o',q2,q3,_,_⟩:=hR j hj;refine⟨o',q2,b0l.2 ⟨q3,?_⟩⟩;simp only[a9t];cases hb:Nat.testBit ((bG ops.toList []).getD i 0) j with
       | false=>rfl
       | true=>exact absurd hj ((hl j (by omega)).1 (Bg j hb).1).2.1
      have hu:fu (R.filterMap (cf ops.toList)++(PL.map PE.d++SL.map XE.d)) o=true:=lE hu0 λ t ht=>by
       rcases a8X.1 ht with ht|ht
       .obtain⟨j,hj,BY⟩:=List.mem_filterMap.1 ht;obtain⟨o',q2,q3⟩:=fe j hj;exact List.mem_append.2 (.inl (fH.2 ⟨(j,o'),q3,by simpa [cf,q2] using BY⟩))
       .rcases a8X.1 ht with ht|ht
        .obtain⟨p,hp,rfl⟩:=a9b.1 ht;obtain⟨o2,T,τ,r,hm,bf,GU,_⟩:=(kR p hp).ex;exact a8X.2 (.inr (kj c.E (hxm _ hm (RT p hp)) (by simp[df,mg,bf]) GU))
        .obtain⟨p,hp,rfl⟩:=a9b.1 ht;exact a8X.2 (.inr (kj c.E (hxm _ (lT p hp).mem (RU p hp)) ((lT p hp).lz) (lT p hp).dst))
      have hIz:=hI.fz hZ;refine ZR (hA.exec hu) ?_ ?_ (Jx (c:=c.fz w G.S λ b=>∃ p∈PL,p.b=b) hE hIz hK (Q:=λ _ _ _=>False))
      .rintro x w' ⟨G',s',a6D,hsr⟩;obtain⟨vT,gJ⟩:=hI.a7K hZ a6D;obtain⟨k1,k2⟩:=jo hsr;refine ih fuel _ xs R PL SL G' s' (a.put o.dst x) (b.put o.dst x) w' _ (by omega) (by omega) (by rw[b0q];exact bZ) (λ j hj=>?_) (λ y hy=>hX y (Ym y hy).1) Kr hxn (λ j hj y hy=>IG j hj y (Ym y hy).1) ML S6 (λ p hp=>?_) (λ e he=>?_) (λ k hk=>?_) UT vT (hA.put λ q hq U4=>absurd hq U4) (λ j hj o' cE=>?_) _ k2
       .obtain⟨q1,o',q2,q3,q4,q7⟩:=hR j hj;obtain⟨o2,q5,q6⟩:=fe j hj;have e:o'=o2:=by rw[q2] at q5;simpa using q5
        subst e;exact⟨q1,o',q2,q6,q4,q7⟩
       .have h3:=(kR p hp).put (d:=o.dst) (x:=x) (hPd p hp);obtain⟨e1,e2⟩:=gJ p.b ⟨p,hp,rfl⟩;refine⟨?_,h3.val,h3.ptr,h3.lt,?_,e2⟩
        .obtain⟨o2,T,τ,r,hm,m2,m3,m4,m5⟩:=h3.ex;exact⟨o2,T,τ,r,hxm _ hm (RT p hp),m2,m3,m4,m5⟩
        .obtain⟨l,ty,q1,q2⟩:=h3.new;exact⟨l,ty,by rw[e1];exact q1,q2⟩
       .have h3:=(lT e he).put (x:=x) hA.da (hSd e he) (hSu e he);exact⟨hxm _ h3.mem (RU e he),h3.dst,h3.val,h3.run⟩
       .rw[Bi,hl k hk];constructor
        .rintro (⟨q1,q2,q3⟩|rfl)
         .exact⟨q1,q2,q3.imp (λ q y hy=>q y (Ym y hy).1) λ q=>q⟩
         .exact⟨qE,GQ, .inl λ y hy e=>(Ym y hy).2 e⟩
        .rintro⟨q1,q2,q3⟩;by_cases GS:k=i
         .exact .inr GS
         .refine .inl ⟨q1,q2,q3.imp (λ q y hy=>?_) λ q=>q⟩;by_cases e:y.1=i
          .rw[e];exact b3u GS
          .exact q y (hxm y hy e)
       .obtain⟨o2,q5,q6⟩:=fe j hj;rw[q5] at cE;simp only[a8V] at cE;subst cE;exact k1 (j,o2) q6
      .rintro b' w' ⟨G',s',vT,_⟩;exact vT.defers
end
theorem wH{bM:List Nat}{p:Nat}(h:Po bM p=true){j k:Nat}(hj:p<=j)(hl:j<bM.length)(hk:k<p):Nat.testBit (bM.getD j 0) k=true:=by
 unfold Po at h;rw[List.all_eq_true] at h;have hm:bM[j]∈bM.drop p:=by
  rw[List.mem_iff_getElem?];refine⟨j - p,?_⟩;rw[b1e,show p+(j - p)=j by omega,a9j hl]
 have h1:=Nat.eq_of_beq_eq_true (h _ hm);rw[List.getD_eq_getElem?_getD,List.getElem?_eq_getElem hl,Option.getD_some];have h2:Nat.testBit (bM[j] % 2 ^ p) k=true:=by rw[h1,Nat.testBit_two_pow_sub_one];simpa using hk
 rw[Nat.testBit_mod_two_pow] at h2;simp only[a9e] at h2;exact h2.2
theorem Sf{l:List Oper}{es:List JY}{lo m bits:Nat}{s0:ag}{π π':List Nat}(og:∀ j k t,lo<=j->j<m->lo<=k->k<m->cf l j=some t->cf l k=some t->j=k)
  (Xa:∀ k∈π,lo<=k/\k<m) (Pl:∀ k∈π',lo<=k/\k<m) (hn:π.Nodup) (tf:π'.Nodup) (ha:∀ k,lo<=k->k<m->Nat.testBit bits k=true->k∈π/\k∈π') (t:Nat) (hh:hidden l m bits t=false) :
  (dE l es s0 π).sl t=(dE l es s0 π').sl t/\(dE l es s0 π).af t=(dE l es s0 π').af t:=by
 by_cases hex:∃ k,lo<=k/\k<m/\cf l k=some t
 .obtain⟨k,bS,hk,hd⟩:=hex;have hb:Nat.testBit bits k=true:=by
   have:=hh;unfold hidden at this;rw[List.any_eq_false] at this;have:=this k (by simpa using hk);simp only[hd] at this;simp only[Nat.beq_refl] at this;simpa using this
  obtain⟨h1,h2⟩:=ha k bS hk hb;obtain⟨e1,e2⟩:=vJ l es t k hd π s0 h1 hn (λ j hj dv BY=>dv (og j k t (Xa j hj).1 (Xa j hj).2 bS hk BY hd));obtain⟨e3,e4⟩:=vJ l es t k hd π' s0 h2 tf (λ j hj dv BY=>dv (og j k t (Pl j hj).1 (Pl j hj).2 bS hk BY hd));exact⟨e1.trans e3.symm,e2.trans e4.symm⟩
 .have iv:∀ k,lo<=k->k<m->cf l k≠some t:=λ k hl hk hd=>hex ⟨k,hl,hk,hd⟩;obtain⟨e1,e2⟩:=fI l es t π s0 (λ k hk=>iv k (Xa k hk).1 (Xa k hk).2);obtain⟨e3,e4⟩:=fI l es t π' s0 (λ k hk=>iv k (Pl k hk).1 (Pl k hk).2);exact⟨e1.trans e3.symm,e2.trans e4.symm⟩
def eH(lo i:Nat):List Nat:=List.range' lo (i - lo)
theorem zu{lo i k:Nat}:k∈eH lo i↔lo<=k/\k<i:=by
 unfold eH;rw[List.mem_range'_1];omega
theorem Hn(lo i:Nat):(eH lo i).Nodup:=List.nodup_range'
theorem ZF{lo i:Nat}(h:lo<=i):eH lo (i+1)=eH lo i++[i]:=by
 unfold eH;rw[show i+1 - lo=(i - lo)+1 by omega,List.range'_1_concat,show lo+(i - lo)=i by omega]
theorem QA{E:Env}{l:List Oper}{m lo:Nat}{bM:List Nat}{s0:ag}:∀ (r:List Oper) (i:Nat) (es xG:List JY) (s s':ag),Trace E l m bM i r es s s'->(∀ j o,r[j]?=some o->l[i+j]?=some o)->xG.length=i->lo<=i ->
  s=dE l (xG++es) s0 (eH lo i) ->
  (∀ j o,r[j]?=some o->NV E l m (bM.getD (i+j) 0) (dE l (xG++es) s0 (eH lo (i+j))) o ((xG++es).getD (i+j) ⟨false, .any,none⟩))/\s'=dE l (xG++es) s0 (eH lo (i+r.length))
 | [],i,[],xG,s,s',h,_,_,_,hs=>by
  have h:s=s':=h;subst h;exact⟨by simp,by simpa using hs⟩
 | o::r,i,e::es,xG,s,s',h,hl,h0,hlo,hs=>by
  obtain⟨h1,h2⟩:=h;have ho:l[i]?=some o:=hl 0 o rfl;have L7:(xG++e::es).getD i ⟨false, .any,none⟩=e:=by simp[a9h,<-h0]
  have cd:s.iy o.dst e.v e.ob=dE l ((xG++[e])++es) s0 (eH lo (i+1)):=by
   rw[a9B,ZF hlo,tA,b1F,L7,<-hs];simp[cf,ho]
  have ih:=QA r (i+1) es (xG++[e]) _ s' h2 (λ j p hj=>by
   have:=hl (j+1) p (by simpa using hj);rwa [show i+(j+1)=i+1+j by omega] at this) (by simp[h0]) (by omega) cd
  rw[a9B,b1F] at ih;refine⟨λ j p hj=>?_,by rw[ih.2];congr 2;simp;omega⟩;cases j with
  | zero =>
   simp at hj;subst hj;rw[b0P,L7,<-hs];exact h1
  | succ j =>
   have:=ih.1 j p (by simpa using hj);rwa [show i+1+j=i+(j+1) by omega] at this
 | [],_,_::_,_,_,_,h,_,_,_,_=>h.elim
 | _::_,_,[],_,_,_,h,_,_,_,_=>h.elim
theorem PY:∀ (l π:List Nat),l.Nodup->(∀ k∈l,k∈π)->l.length<=π.length
 | [],_,_,_=>by simp
 | x::l,π,hn,h=>by
  have tf:=a9z.1 hn;have hx:=h x (by simp);have h1:=PY l (π.erase x) tf.2 (λ k hk=>by
   have dv:k≠x:=λ e=>by subst e;exact tf.1 hk
   exact (b1k dv).2 (h k (by simp[hk])))
  have h3:=b0V hx;have:0<π.length:=b1d hx;simp only[a9f];omega
theorem PX{lo m:Nat}(π:List Nat)(hn:π.Nodup)(h:∀ k∈π,lo<=k/\k<m):π.length<=m - lo:=by
 have h1:(List.range lo++π).Nodup:=by
  rw[a9s];refine⟨b1U,hn,λ x hx y hy e=>?_⟩;simp at hx;have:=(h y hy).1;omega
 have h2:=tz (max lo m) (List.range lo++π) h1 (λ k hk=>by
  rcases a8X.1 hk with hk|hk
  .simp at hk;omega
  .have:=(h k hk).2;omega)
 rw[a9i,List.length_range] at h2;cases π with
 | nil=>simp
 | cons k r =>
  have:=h k (by simp);omega
section
variable {c:Ctx} {G:Gh} {s:ag} {a:Act} {w w':World}
theorem a1D(hE:bn c.P c.E){ops:Array Oper}{j:Nat}(dy:backward ops.toList=true)(hj:j<ops.size)(hcut:∀ i,j<i->i<ops.size->Nat.testBit ((bG ops.toList []).getD i 0) j=true)
  {P:ag->Prop} {Q':Exit->Act->World->Prop} {fuel:Nat} {kn:List (Nat×Bool)} {listed:Array Bool} (bZ:listed.size=ops.size) (hl:∀ k,k<ops.size->(listed.getD k false=true↔k<j))
  (hI:Inv c G s a w) (hr:eD c.E ops [ops[j]] kn P s)
  (uL:∀ G s a w (listed:Array Bool),listed.size=ops.size->(∀ k,k<ops.size->(listed.getD k false=true↔k<j+1))->Inv c G s a w->P s->wpAny c.P .any ops Q' fuel listed a w):wpAny c.P .any ops Q' (fuel+1) listed a w:=by
 have ho:ops[j]?=some ops[j]:=a9S hj;constructor
 .intro iK;have:j∈Region.ready .any ops listed:=(mem_ready bZ).2 ⟨_,ho,by
   cases hb:listed.getD j false with
   | false=>rfl
   | true=>have:=(hl j hj).1 hb;omega,λ e he hb=>by
   have:=bK dy j ops[j] (by simp) e he hb;exact (hl e.on (by omega)).2 this⟩
  rw[iK] at this;cases this
 .intro i hi;obtain⟨o,cg,h1,h2⟩:=(mem_ready bZ).1 hi;have Fq:=(b0s.1 cg).1;have Tf:j<=i:=by
   rcases a9O i j with h|h
   .have:=(hl i Fq).2 h;rw[h1] at this;cases this
   .exact h
  have uK:i=j:=by
   rcases a9O j i with h|h
   .have fe:=Cn (l:=ops.toList) (D:=λ k=>k<j) (λ k hk o' cE e he hb=>by
     have:=bK dy k o' cE e he hb;omega) i o (by simpa using cg) (λ e he hb=>by
      have bj:=bK dy i o (by simpa using cg) e he hb;exact (hl e.on (by omega)).1 (h2 e he hb)) j (hcut i h Fq)
    omega
   .omega
  subst uK;have Bi:∀ k,k<ops.size->((listed.setIfInBounds i true).getD k false=true↔k<i+1):=λ k hk=>by
   rw[qL (by omega),hl k hk];omega
  unfold wpOp;simp only[ho];have uO:=zK hE hI hr;split at uO
  .rename_i hw;rw[a9l hw];exact .inl (b0v (λ a' w' ⟨G',s',nc,h1,h2⟩=>uL G' s' a' w' _ (by rw[b0q];exact bZ) Bi h1 h2) (uO Q'))
  .rename_i hw;rw[a9c hw];obtain⟨G',s',nc,h1,h2⟩:=uO;exact uL G' s' _ w _ (by rw[b0q];exact bZ) Bi h1 h2
theorem a0e(hE:bn c.P c.E){ops:Array Oper}{lo m:Nat}{es:List JY}{s0:ag}(dy:backward ops.toList=true)(hm:m<=ops.size)
  (oe:∀ j o,m<=j->ops.toList[j]?=some o->∀ k,k<m->Nat.testBit ((bG ops.toList []).getD j 0) k=true)
  (a7d:∀ j o,lo<=j->ops.toList[j]?=some o->∀ k,k<lo->Nat.testBit ((bG ops.toList []).getD j 0) k=true)
  (og:∀ j k t,lo<=j->j<m->k<m->cf ops.toList j=some t->cf ops.toList k=some t->j=k)
  (a0R:∀ i o,lo<=i->i<m->ops.toList[i]?=some o->NV c.E ops.toList m ((bG ops.toList []).getD i 0) (dE ops.toList es s0 (eH lo i)) o (es.getD i ⟨false, .any,none⟩))
  (GO:∀ i o,lo<=i->i<m->ops.toList[i]?=some o->rf o.dst=true) (pJ:∀ i o t,lo<=i->i<m->ops.toList[i]?=some o->ub o.op=true->o.dst=some t->s0.af t=none)
  {Q':Exit->Act->World->Prop}
  (O4:∀ (fuel:Nat) (G:Gh) (a:Act) (w:World) (listed:Array Bool),ops.size=m+fuel->listed.size=ops.size->(∀ k,k<ops.size->(listed.getD k false=true↔k<m))->Inv c G (dE ops.toList es s0 (eH lo m)) a w->wpAny c.P .any ops Q' fuel listed a w) :
  ∀ (fuel:Nat) (π:List Nat) (G:Gh) (a:Act) (w:World) (listed:Array Bool),ops.size=lo+π.length+fuel->π.Nodup->(∀ k∈π,lo<=k/\k<m)->listed.size=ops.size->(∀ k,k<ops.size->(listed.getD k false=true↔k<lo\/k∈π)) ->
   (∀ k∈π,∀ o,ops.toList[k]?=some o->∀ e∈o.after.toList,Region.binds .any e=true->e.on<lo\/e.on∈π)->lo<=m->Inv c G (dE ops.toList es s0 π) a w->wpAny c.P .any ops Q' fuel listed a w:=by
 have a0Q:∀ j k t,lo<=j->j<m->lo<=k->k<m->cf ops.toList j=some t->cf ops.toList k=some t->j=k:=λ j k t h1 h2 _ h4=>og j k t h1 h2 h4;have fin:∀ (fuel:Nat) (π:List Nat) (G:Gh) (a:Act) (w:World) (listed:Array Bool),ops.size=lo+π.length+fuel->π.Nodup->(∀ k∈π,lo<=k/\k<m)->listed.size=ops.size->(∀ k,k<ops.size->(listed.getD k false=true↔k<lo\/k∈π)) ->
   lo<=m->(∀ k,lo<=k->k<m->k∈π)->Inv c G (dE ops.toList es s0 π) a w->wpAny c.P .any ops Q' fuel listed a w:=by
  intro fuel π G a w listed hf hn bj bZ hl Th iu hI;have hlen:=PX π hn bj;have Tf:m - lo<=π.length:=by
   have h2:(eH lo m).length<=π.length:=PY (eH lo m) π (Hn lo m) λ k hk=>iu k (zu.1 hk).1 (zu.1 hk).2;simpa [eH] using h2
  have heq:∀ t,(dE ops.toList es s0 π).sl t=(dE ops.toList es s0 (eH lo m)).sl t/\(dE ops.toList es s0 π).af t=(dE ops.toList es s0 (eH lo m)).af t:=λ t =>
   Sf (bits:=2 ^ m - 1) a0Q bj (λ k hk=>zu.1 hk) hn (Hn lo m) (λ k bS hk _=>⟨iu k bS hk,zu.2 ⟨bS,hk⟩⟩) t (by
    unfold hidden;rw[List.any_eq_false];intro k hk;simp only[List.mem_range] at hk;split
    .split
     .simp[b1H,hk]
     .simp
    .simp)
  refine O4 fuel G a w listed (by omega) bZ (λ k hk=>?_) ?_
  .rw[hl k hk];constructor
   .rintro (h|h)
    .omega
    .exact (bj k h).2
   .intro h;rcases a9O k lo with h'|h'
    .exact .inl h'
    .exact .inr (iu k h' h)
  .unfold Inv at hI ⊢;rw[Ja] at hI ⊢;rw[<-funext λ t=>(heq t).1,<-funext λ t=>(heq t).2];exact hI
 intro fuel;induction fuel with
 | zero =>
  intro π G a w listed hf hn bj bZ hl uJ Th hI;refine fin 0 π G a w listed hf hn bj bZ hl Th (λ k bS hk=>?_) hI;cases hb:decide (k∈π) with
  | true=>exact a9y hb
  | false =>
   have:=PX (lo:=lo) (m:=m) (k::π) (a9z.2 ⟨b1A hb,hn⟩) (λ j hj=>by
    rcases a9k.1 hj with rfl|hj
    .exact⟨bS,hk⟩
    .exact bj j hj)
   simp at this;omega
 | succ fuel ih =>
  intro π G a w listed hf hn bj bZ hl uJ Th hI;by_cases iu:∀ k,lo<=k->k<m->k∈π
  .exact fin (fuel+1) π G a w listed hf hn bj bZ hl Th iu hI
  ·
   have hex:∃ k,lo<=k/\k<m/\k∉π/\∀ j,lo<=j->j<k->j∈π:=by
    have:∀ n,(∃ k,k<n/\lo<=k/\k<m/\k∉π)->∃ k,lo<=k/\k<m/\k∉π/\∀ j,lo<=j->j<k->j∈π:=by
     intro n;induction n with
     | zero=>rintro⟨k,hk,_⟩;omega
     | succ n Xc =>
      rintro⟨k,hk,BZ,hkm,jU⟩;by_cases hs:∃ k,k<n/\lo<=k/\k<m/\k∉π
      .exact Xc hs
      .refine⟨k,BZ,hkm,jU,λ j hjl hj=>?_⟩;cases hb:decide (j∈π) with
       | true=>exact a9y hb
       | false=>exact absurd ⟨j,by omega,hjl,by omega,b1A hb⟩ hs
    refine this m ?_;obtain⟨k,hk⟩:=b2U.1 iu;have h2:=b2u.1 hk;have h3:=b2u.1 h2.2;exact⟨k,h3.1,h2.1,h3.1,h3.2⟩
   obtain⟨k0,a8O,Ye,kd,U2⟩:=hex;have UX:ops[k0]?=some (ops[k0]'(by omega)):=a9S (by omega);constructor
   .intro iK;have:k0∈Region.ready .any ops listed:=(mem_ready bZ).2 ⟨_,UX,by
     cases hb:listed.getD k0 false with
     | false=>rfl
     | true =>
      rcases (hl k0 (by omega)).1 hb with h|h
      .omega
      .exact absurd h kd,λ e he hb=>by
     have L8:=bK dy k0 ops[k0] (by simp) e he hb;refine (hl e.on (by omega)).2 ?_;rcases a9O e.on lo with h|h
     .exact .inl h
     .exact .inr (U2 e.on h L8)⟩
    rw[iK] at this;cases this
   .intro i hi;obtain⟨o,cg,h1,h2⟩:=(mem_ready bZ).1 hi;have Fq:=(Array.getElem?_eq_some_iff.1 cg).1;have dW:ops.toList[i]?=some o:=by simpa using cg
    have An:¬ (i<lo\/i∈π):=λ hh=>by
     have:=(hl i Fq).2 hh;rw[h1] at this;cases this
    have te:i∉π:=λ h=>An (.inr h);have hil:lo<=i:=by
     rcases a9O i lo with h|h
     .exact absurd (.inl h) An
     .exact h
    have O3:∀ e∈o.after.toList,Region.binds .any e=true->e.on<lo\/e.on∈π:=λ e he hb=>by
     have L8:=bK dy i o dW e he hb;exact (hl e.on (by omega)).1 (h2 e he hb)
    have Bg:=Cn (l:=ops.toList) (D:=λ k=>k<lo\/k∈π) (λ k hk o' cE e he hb=>by
     rcases hk with hk|hk
     .have:=bK dy k o' cE e he hb;exact .inl (by omega)
     .exact uJ k hk o' cE e he hb) i o dW O3
    have qE:i<m:=by
     rcases a9O i m with h|h
     .exact h
     .rcases Bg k0 (oe i o h dW k0 Ye) with h|h
      .omega
      .exact absurd h kd
    have IL:=Cn (l:=ops.toList) (D:=λ k=>k<i) (λ k hk o' cE e he hb=>by
     have:=bK dy k o' cE e he hb;omega) i o dW (λ e he hb=>bK dy i o dW e he hb)
    have GX:=λ t hh=>Sf (l:=ops.toList) (es:=es) (s0:=s0) (lo:=lo) (m:=m) (bits:=(bG ops.toList []).getD i 0) (π:=π) (π':=eH lo i) a0Q bj (λ k hk=>by have:=zu.1 hk;omega) hn (Hn lo i)
     (λ k bS hk hb=>⟨by
      rcases Bg k hb with h|h
      .omega
      .exact h,zu.2 ⟨bS,IL k hb⟩⟩) t hh
    obtain⟨hg,cz,W5⟩:=a0R i o hil qE dW;have cD:QN ops.toList m ((bG ops.toList []).getD i 0) (dE ops.toList es s0 (eH lo i))=QN ops.toList m ((bG ops.toList []).getD i 0) (dE ops.toList es s0 π):=by
     funext x;cases x with
     | tmp t =>
      simp only[QN];split
      .rfl
      .rename_i hh;exact ((GX t hh).1).symm
     | _=>rfl
    have bS:Nn ops.toList m ((bG ops.toList []).getD i 0) (dE ops.toList es s0 (eH lo i))=Nn ops.toList m ((bG ops.toList []).getD i 0) (dE ops.toList es s0 π):=by
     funext t;simp only[Nn];split
     .rfl
     .rename_i hh;exact ((GX t hh).2).symm
    have hg':fC ops.toList ((bG ops.toList []).getD i 0) (dE ops.toList es s0 π) o (es.getD i ⟨false, .any,none⟩).E7:=by
     unfold fC at hg ⊢;split
     .rename_i tf;simpa [tf] using hg
     .rename_i g want tf;simp only[tf] at hg;obtain⟨t,b,q1,q2,q3,q4⟩:=hg;refine⟨t,b,q1,q2,?_,q4⟩;have hgm:g<m:=Nat.lt_trans (IL g q2) qE;have hh:hidden ops.toList m ((bG ops.toList []).getD i 0) t=false:=by
       unfold hidden;rw[List.any_eq_false];intro k hk;simp only[List.mem_range] at hk;split
       .rename_i d hd;split
        .rename_i C4;have C4:=a8W C4;subst C4;rcases a9O k lo with BZ|BZ
         .rw[a7d i o hil dW k BZ];simp
         .have:=og k g d BZ hk hgm hd q1;subst this;rw[q2];simp
        .simp
       .simp
      exact ((GX t hh).1).trans q3
    have hw:=Fp (ops:=ops) rfl hI hg';have uL:∀ (G':Gh) (a':Act) (w':World),Inv c G' (dE ops.toList es s0 (π++[i])) a' w'->wpAny c.P .any ops Q' fuel (listed.setIfInBounds i true) a' w':=by
     intro G' a' w' vT;refine ih (π++[i]) G' a' w' _ (by simp;omega) ?_ ?_ (by rw[b0q];exact bZ) ?_ ?_ Th vT
     .rw[a9s];exact⟨hn,by simp,λ x hx y hy=>by simp at hy;subst hy;exact λ e=>te (e ▸ hx)⟩
     .intro k hk;rcases a8X.1 hk with hk|hk
      .exact bj k hk
      .simp at hk;omega
     .intro k hk;rw[qL (by omega),hl k hk];simp[or_assoc]
     .intro k hk o' cE e he hb;rcases a8X.1 hk with hk|hk
      .exact (uJ k hk o' cE e he hb).imp id (b0W _)
      .simp at hk;subst hk;rw[dW] at cE;simp only[a8V] at cE;subst cE;exact (O3 e he hb).imp id (b0W _)
    have Ky:cf ops.toList i=o.dst:=by simp[cf,dW]
    unfold wpOp;simp only[cg];cases IU:(es.getD i ⟨false, .any,none⟩).E7 with
    | true =>
     rw[IU] at hw;rw[a9l hw];obtain⟨vc,hq,dY⟩:=cz IU;rw[cD,bS] at hq;refine .inl (b0v ?_ (Hj hE hI (lk':=Nn ops.toList m ((bG ops.toList []).getD i 0) (dE ops.toList es s0 π)) ?_ ?_ hq dY))
     .intro a' w' hd;obtain⟨G',oj⟩:=Mc hI (GO i o hil qE dW) (λ t ob C4 MU=>by
       rw[MU] at hq;have Kx:=Jt hq;have h0:=pJ i o t hil qE dW Kx C4;have yL:=(fI ops.toList es t π s0 (λ k hk hkd=>by
        have:=og k i t (bj k hk).1 (bj k hk).2 qE hkd (by rw[Ky];exact C4);subst this;exact te hk)).2
       rw[yL,h0]) hd
      refine uL G' a' w' ?_;rw[tA,Ky];exact oj
     .intro id ob aS;unfold Nn at aS;split at aS
      .cases aS
      .exact aS
     .intro x;cases x with
      | tmp t =>
       simp only[QN];split
       .trivial
       .exact aW hI (.tmp t)
      | const v=>exact aW hI (.const v)
      | global g=>exact aW hI (.global g)
      | func f=>exact aW hI (.func f)
    | false =>
     rw[IU] at hw;rw[hw];obtain⟨hv,MU⟩:=W5 IU;refine uL G _ w ?_;rw[tA,Ky,hv,MU,KY];exact Inv.put (v := .dR) hI rfl
theorem DT{α:Type}{l:List α}{lo hi j:Nat}{o:α}(h:((l.take hi).drop lo)[j]?=some o):l[lo+j]?=some o/\lo+j<hi:=by
 rw[b1e,b0i] at h;split at h
 .rename_i bj;exact⟨h,bj⟩
 .cases h
theorem ik{α:Type}{l:List α}{lo hi i:Nat}{o:α}(h:l[i]?=some o)(h1:lo<=i)(h2:i<hi):((l.take hi).drop lo)[i - lo]?=some o:=by
 rw[b1e,b0i,show lo+(i - lo)=i by omega,a9l h2,h]
theorem qZ:∀ {l:List (Option Nat)},ud l=true->∀ (i j t:Nat),l[i]?=some (some t)->l[j]?=some (some t)->i=j
 | [],_,i,j,t,h,_=>by simp at h
 | none::r,h,i,j,t,hi,hj=>by
  cases i with
  | zero=>simp at hi
  | succ i =>
   cases j with
   | zero=>simp at hj
   | succ j=>rw[qZ (l:=r) h i j t (by simpa using hi) (by simpa using hj)]
 | some d::r,h,i,j,t,hi,hj=>by
  simp only[ud] at h;split at h
  .cases h
  .rename_i UR;rw[b1Q] at UR;have no:∀ k:Nat,r[k]?=some (some d)->False:=λ k hk=>by
    have:=UR _ (a9C hk);simp at this
   cases i with
   | zero =>
    simp at hi;subst hi;cases j with
    | zero=>rfl
    | succ j=>exact (no j (by simpa using hj)).elim
   | succ i =>
    cases j with
    | zero =>
     simp at hj;subst hj;exact (no i (by simpa using hi)).elim
    | succ j=>rw[qZ (l:=r) h i j t (by simpa using hi) (by simpa using hj)]
theorem Fo{l:List Oper}{lo hi:Nat}(h:CQ l lo hi=true):∀ j k t,lo<=j->j<hi->k<hi->cf l j=some t->cf l k=some t->j=k:=by
 unfold CQ at h;rw[Bool.and_eq_true,Bool.and_eq_true] at h;obtain⟨⟨_,h1⟩,h2⟩:=h;have hd:=qZ h1;have get:∀ j t,cf l j=some t->∃ o,l[j]?=some o/\o.dst=some t:=by
  intro j t h;unfold cf at h;simp only[Option.bind_eq_some_iff] at h;exact h
 intro j k t hj hjh hkh IS hkt;obtain⟨o,ho,U3⟩:=get j t IS;obtain⟨o',cE,a4o⟩:=get k t hkt;have g1:=ik ho hj hjh;rcases a9O k lo with hk|hk
 .rw[a9H] at h2;have hm:o'∈l.take lo:=a9C (by rw[b0i,a9l hk];exact cE);have:=h2 o' hm;rw[a4o] at this;simp only[a9t] at this;rw[b1Q] at this;have:=this o (a9C g1);rw[U3] at this;simp at this
 .have g2:=ik cE hk hkh;have:=hd (j - lo) (k - lo) t (by rw[b0w,g1];simp[U3]) (by rw[b0w,g2];simp[a4o]);omega
theorem UK{l:List Oper}{lo hi:Nat}(h:CQ l lo hi=true){i:Nat}{o:Oper}(h1:lo<=i)(h2:i<hi)(ho:l[i]?=some o):rf o.dst=true:=by
 unfold CQ at h;rw[Bool.and_eq_true,Bool.and_eq_true] at h;exact List.all_eq_true.1 h.1.1 o (List.mem_of_getElem? (ik ho h1 h2))
theorem Dr{i:Nat}{o:Oper}:∀ {l:List Oper} {lo:Nat},(i,o)∈jR lo l↔∃ j,i=lo+j/\l[j]?=some o
 | [],lo=>by simp[jR]
 | x::l,lo=>by
  simp only[jR,a9k,a8Y,Dr (l:=l)];constructor
  .rintro (⟨rfl,rfl⟩|⟨j,rfl,h⟩)
   .exact⟨0,rfl,rfl⟩
   .exact⟨j+1,by omega,by simpa using h⟩
  .rintro⟨j,rfl,h⟩;cases j with
   | zero=>simp at h;exact .inl ⟨rfl,h.symm⟩
   | succ j=>exact .inr ⟨j,by omega,by simpa using h⟩
theorem FJ:∀ (l:List Oper) (lo:Nat),((jR lo l).map (·.1)).Nodup
 | [],lo=>b0c
 | x::l,lo=>by
  simp only[jR,a9x,a9z];refine⟨λ h=>?_,FJ l (lo+1)⟩;obtain⟨⟨i,o⟩,h1,h2⟩:=a9b.1 h;obtain⟨j,h3,_⟩:=Dr.1 h1;simp only at h2;omega
theorem lI.mono{D D':List Nat}{a b:Act}(h:lI D a b)(hs:∀ t∈D,t∈D'):lI D' a b:=⟨h.size,h.da,h.db,λ t ht=>h.at' t λ q=>ht (hs t q)⟩
theorem Ml:∀ (l:List Oper) (lo:Nat),(jR lo l).length=l.length
 | [],lo=>rfl
 | x::l,lo=>by simp[jR,Ml l]
theorem Io{α:Type}(p:α->Bool):∀ l:List α,(l.filter p).length+(l.filter λ x => !p x).length=l.length
 | []=>rfl
 | x::l=>by
  have:=Io p l;cases h:p x<;>simp[b2C,h]<;>omega
theorem VO(hE:bn c.P c.E){ops:Array Oper}(dy:backward ops.toList=true){Q:ag->Prop}{Q':Exit->Act->World->Prop}(hQ:∀ G s a w,Inv c G s a w->Q s->Q' .normal a w) :
  ∀ (XX:List Nat) (lo:Nat) (kn:List (Nat×Bool)) (fuel:Nat) (G:Gh) (s:ag) (a:Act) (w:World) (listed:Array Bool),ops.size=lo+fuel->listed.size=ops.size->(∀ k,k<ops.size->(listed.getD k false=true↔k<lo))->Inv c G s a w ->
   tU c.E ops ops.toList (bG ops.toList []) XX lo kn Q s->wpAny c.P .any ops Q' fuel listed a w:=by
 obtain⟨r,ha1,ha2,_⟩:=wb ops.toList [];have O2:(bG ops.toList []).length=ops.size:=by rw[ha1];simpa using ha2
 intro XX;induction XX with
 | nil =>
  intro lo kn fuel G s a w listed hf bZ hl hI hr;simp only[tU] at hr;split at hr
  .rename_i hb;have hb:=Nat.eq_of_beq_eq_true hb;have hlo:lo=ops.size:=by simpa using hb
   have h0:fuel=0:=by omega
   subst h0;refine⟨?_,hQ _ _ _ _ hI hr⟩;apply b1z.2;intro i hi;obtain⟨o,ho,h1,_⟩:=(mem_ready bZ).1 hi;have bj:=(b0s.1 ho).1;have:=(hl i bj).2 (by omega);rw[h1] at this;cases this
  .exact hr.elim
 | cons hi XX ih =>
  intro lo kn fuel G s a w listed hf bZ hl hI hr;simp only[tU] at hr;split at hr;case h_2=>exact hr.elim
  case h_1 hc =>
  simp only[a9e,b2w,Nat.ble_eq,a9P] at hc;obtain⟨Kw,hc0,hc2,hc3⟩:=hc;split at hr
  .rename_i hb;have hb:=a8W hb;subst hb;have bj:lo<ops.size:=by omega
   obtain⟨fuel,rfl⟩:∃ f,fuel=f+1:=⟨fuel - 1,by omega⟩;have uM:(ops.toList.take (lo+1)).drop lo=[ops[lo]]:=by
    rw[List.drop_take,show lo+1 - lo=1 by omega,List.drop_eq_getElem_cons (by simpa using bj)];simp
   rw[uM] at hr;refine a1D hE dy bj (λ i h1 h2=>wH Kw (by omega) (by omega) (by omega)) bZ hl hI hr ?_;intro G s a w listed bZ hl hI hp;exact ih (lo+1) kn fuel G s a w listed (by omega) bZ hl hI hp
  .split at hr;case h_3=>exact hr.elim
   case h_1 EU Y5 =>
    unfold XV at hr;split at hr;case h_2=>exact hr.elim
    case h_1 gV =>
    have sL:∀ i o,(i,o)∈jR lo ((ops.toList.take hi).drop lo)↔lo<=i/\i<hi/\ops.toList[i]?=some o:=λ i o=>by
     rw[Dr];constructor
     .rintro⟨j,rfl,h⟩;obtain⟨h1,h2⟩:=DT h;exact⟨by omega,h2,h1⟩
     .rintro⟨h1,h2,h3⟩;exact⟨i - lo,by omega,ik h3 h1 h2⟩
    have dj:=FJ ((ops.toList.take hi).drop lo) lo;have B5:(jR lo ((ops.toList.take hi).drop lo)).length=hi - lo:=by rw[Ml];simp;omega
    have wD:∀ x∈jR lo ((ops.toList.take hi).drop lo),∀ y∈jR lo ((ops.toList.take hi).drop lo),∀ t,x.2.dst=some t->y.2.dst=some t->x.1=y.1:=λ x hx y hy t hxt hyt=>by
     have h1:=(sL x.1 x.2).1 hx;have h2:=(sL y.1 y.2).1 hy;exact Fo EU x.1 y.1 t h1.1 h1.2.1 h2.2.1 (by simp[cf,h1.2.2,hxt]) (by simp[cf,h2.2.2,hyt])
    generalize jR lo ((ops.toList.take hi).drop lo)=eH at *
    simp only[a1y,a9e,a9H] at gV;obtain⟨t,b,q1,q2,q3⟩:=Mh hE hI hr;obtain⟨q4,q5⟩:=jo q3;have a1f:∀ p:Nat×Oper->Bool,((eH.filter p).map (·.1)).Nodup:=λ p=>dj.sublist (b1J _ b3j);have a5w:∀ x∈eH,∀ y∈eH,x.1=y.1->x=y:=λ x hx y hy e=>by
     obtain⟨x1,x2⟩:=x;obtain⟨y1,y2⟩:=y;simp only at e;subst e;have h1:=((sL _ _).1 hx).2.2;rw[((sL _ _).1 hy).2.2] at h1;simp only[a8V] at h1;rw[h1]
    refine Vp hE (hi:=hi) (Seg:=eH) dy hc3 ?_ (λ x hx=>by simpa using (gV.1 x hx).1) (λ x hx=>(gV.1 x hx).2) ?_ wD (λ fuel G s a w listed hf bZ hl hI hp=>ih hi kn fuel G s a w listed (by omega) bZ hl hI hp) (fuel+(G7 c.E (bG ops.toList []) (eH.filter λ r => !lC c.E (bG ops.toList []) eH r)).length) fuel (eH.filter (lC c.E (bG ops.toList []) eH)) (G7 c.E (bG ops.toList []) (eH.filter λ r => !lC c.E (bG ops.toList []) eH r))
     ((eH.filter (lC c.E (bG ops.toList []) eH)).map (·.1)) [] [] G t a b w listed (a9n _) ?_ bZ ?_ ?_ (a1f _) ((((iL _ _ _).map (·.1)).nodup_iff).2 (a1f _)) ?_ b0c b0c (λ p hp=>by cases hp) (λ p hp=>by cases hp) ?_ ?_ ?_ ?_ ?_ eH.length ?_
    .intro j o hj ho k hk;have:=(List.getElem?_eq_some_iff.1 ho).1;exact wH Kw hj (by rw[O2];simpa using this) hk
    .intro x hx he;have:=gV.2 x hx;simpa [he] using this
    .rw[a9M,(iL _ _ _).length_eq,Io,B5,a9v,a9v];omega
    .intro i gI;obtain⟨⟨i',o⟩,h1,rfl⟩:=a9b.1 gI;obtain⟨h2,h3⟩:=b0l.1 h1;have h4:=(sL _ _).1 h2;refine⟨h4.2.1,o,h4.2.2,h1,h2,?_⟩;have:=gV.2 _ h2;rw[h3] at this;have dv:iW o.op=false:=by
      have:=BH (E:=c.E) (o:=o) (by simp only[lC,Jv,a9e] at h3;exact h3.1.1);simp only[df,b2X] at this;exact this.2.1
     exact⟨h3,by simpa [dv] using this⟩
    .intro x hx;have hx:=(iL _ _ _).mem_iff.1 hx;have h2:=(b0l.1 hx).1;have h4:=(sL _ _).1 h2;exact⟨h4.2.1,h4.2.2,h2⟩
    .intro i gI x hx e;have hx:=(iL _ _ _).mem_iff.1 hx;obtain⟨y,h1,rfl⟩:=a9b.1 gI;obtain⟨h2,h3⟩:=b0l.1 h1;obtain⟨h4,h5⟩:=b0l.1 hx;have:=a5w _ h2 _ h4 e;subst this;rw[h3] at h5;cases h5
    .intro k hk;rw[hl k hk];constructor
     .intro h;refine⟨by omega,λ hm=>?_, .inl λ x hx e=>?_⟩
      .obtain⟨y,h1,rfl⟩:=a9b.1 hm;have:=((sL _ _).1 (b0l.1 h1).1).1;omega
      .have:=((sL _ _).1 (b0l.1 ((iL _ _ _).mem_iff.1 hx)).1).1;omega
     .rintro⟨h1,h2,h3⟩;have h3:=h3.resolve_right (by simp);rcases a9O k lo with h|h
      .exact h
      .have hm:(k,ops[k])∈eH:=(sL _ _).2 ⟨h,h1,by simp⟩;cases hr:lC c.E (bG ops.toList []) eH (k,ops[k]) with
       | true=>exact absurd (a9b.2 ⟨_,b0l.2 ⟨hm,hr⟩,rfl⟩) h2
       | false=>exact absurd rfl (h3 _ ((iL _ _ _).mem_iff.2 (b0l.2 ⟨hm,by simp[hr]⟩)))
    .intro k hk BZ o ho e he hb;have h1:=bK dy k o ho e he hb;have h2:=(hl k hk).1 BZ;exact (hl e.on (by omega)).2 (by omega)
    .exact q1
    .refine q2.mono λ d hd=>?_;obtain⟨r,h1,h2⟩:=fH.1 hd;have h4:=(sL _ _).1 (b0l.1 h1).1;exact a8X.2 (.inl (b0T.2 ⟨r.1,a9b.2 ⟨r,h1,rfl⟩,by simp[cf,h4.2.2,h2]⟩))
    .intro i gI o ho;obtain⟨⟨i',o'⟩,h1,rfl⟩:=a9b.1 gI;have h4:=((sL _ _).1 (b0l.1 h1).1).2.2;simp only at ho;rw[h4] at ho;simp only[a8V] at ho;subst ho;exact q4 _ h1
    .exact q5
   case h_2 EU Y5 =>
   have og:=Fo EU;obtain⟨es,nc,s',oP,hq⟩:=qh hr;have hlen:((ops.toList.take hi).drop lo).length=hi - lo:=by simp;omega
   obtain⟨ht1,ht2⟩:=QA (lo:=lo) (s0:=((ops.toList.take hi).drop lo).foldl ag.fresh s) ((ops.toList.take hi).drop lo) lo es (List.replicate lo ⟨false, .any,none⟩) _ s' oP (λ j o ho=>(DT ho).1) (by simp) (Nat.le_refl _) (by simp[eH,dE]);rw[hlen,show lo+(hi - lo)=hi by omega] at ht2;subst ht2;have QQ:Inv c G (((ops.toList.take hi).drop lo).foldl ag.fresh s) a w:=Af _ hI;refine a0e hE (lo:=lo) (m:=hi) (es:=List.replicate lo ⟨false, .any,none⟩++es) (s0:=((ops.toList.take hi).drop lo).foldl ag.fresh s) dy hc3 ?_ ?_ og ?_ (λ i o h1 h2 ho=>UK EU h1 h2 ho) ?_ ?_ fuel [] G a w listed (by simp;omega) (by simp) (by simp) bZ (by simpa using hl) (by simp) (by omega) QQ
   .intro j o hj ho k hk;have:=(List.getElem?_eq_some_iff.1 ho).1;exact wH Kw hj (by rw[O2];simpa using this) hk
   .intro j o hj ho k hk;have:=(List.getElem?_eq_some_iff.1 ho).1;exact wH hc0 hj (by rw[O2];simpa using this) hk
   .intro i o h1 h2 ho;have:=ht1 (i - lo) o (ik ho h1 h2);rwa [show lo+(i - lo)=i by omega] at this
   .intro i o t h1 h2 ho Kx C4;exact (xM ((ops.toList.take hi).drop lo) s t).2 o (a9C (ik ho h1 h2)) Kx C4
   .intro fuel G a w listed hf bZ hl hI;exact ih hi nc fuel G _ a w listed (by omega) bZ hl hI (Pp hI hq)
theorem My(hE:bn c.P c.E)(gV:c.P.follows .mixedOrders=true){id:Nat}{ops:Array Oper}{Q:ag->Prop}{Q':Exit->Act->World->Prop}(hQ:∀ G s a w,Inv c G s a w->Q s->Q' .normal a w)
  (h:Inv c G s a w) (hd:J4 c.E ops Q s):(Code.region id ops true).wp c.P Q' a w:=by
 unfold J4 at hd;simp only at hd;split at hd
 .exact Oh hE gV hQ h hd
 .split at hd;case h_2=>exact hd.elim
  case h_1 dy =>
  refine wp_region_any gV ?_;exact VO hE dy hQ _ 0 [] ops.size G s a _ _ (by simp) (by simp) (by intro k hk;simp[hk]) (bd.drew h) hd
end
def Oe{c:Ctx}{G:Gh}{s:ag}{a:Act}{w:World}(hE:bn c.P c.E)(gV:c.P.follows .mixedOrders=true){id:Nat}{ops:Array Oper}{Q:ag->Prop}{Q':Exit->Act->World->Prop}(hQ:∀ G s a w,Inv c G s a w->Q s->Q' .normal a w)
  (h:Inv c G s a w) (hd:Ut c.E ops Q s):(Code.region id ops true).wp c.P Q' a w:=My hE gV hQ h hd
theorem jd{u v:TV}(h:vM u v):u=v:=by
 unfold vM at h;split at h
 .rename_i x hx;have:=TV.aQ hx;rw[this,h]
 .exact h.elim
theorem AN:∀ {l:List Nat},nodupB l=true->l.Nodup
 | [],_=>b0c
 | a::r,h=>by
  simp only[nodupB] at h;split at h
  .cases h
  .rename_i hc;exact List.nodup_cons.2 ⟨by simpa using hc,AN h⟩
theorem xU{α:Type}(f:α->Nat):∀ {l:List α},(l.map f).Nodup->∀ x∈l,∀ y∈l,f x=f y->x=y
 | [],_,x,hx,_,_,_=>by simp at hx
 | a::r,h,x,hx,y,hy,he=>by
  simp only[a9x,a9z] at h;rcases a9k.1 hx with EW|EW
  .rcases a9k.1 hy with Q2|Q2
   .rw[EW,Q2]
   .exact absurd (a9b.2 ⟨y,Q2,by rw[<-he,EW]⟩) h.1
  .rcases a9k.1 hy with Q2|Q2
   .exact absurd (a9b.2 ⟨x,EW,by rw[he,Q2]⟩) h.1
   .exact xU f h.2 x EW y Q2 he
section
variable {c:Ctx} {G:Gh} {s t:ag} {a:Act} {w w':World}
def fE(G:Gh)(s t:ag)(ρ:List (Nat×Nat))(id:Nat):Value:=match s.af (cY ρ id) with
 | some _=>G.η (cY ρ id)
 | none=>match cP (t.af id) with
  | true => .tuple [.slice none 0 0].toArray
  | false => .slice none 0 0
def qa(G:Gh)(s:ag)(ρ:List (Nat×Nat))(id:Nat):List Nat:=match s.af (cY ρ id) with
 | some _=>G.φ (cY ρ id)
 | none=>[]
theorem mH{ρ:List (Nat×Nat)}{x:Value}{u v:AV}(h:AV.sG ρ s t u v)(hu:C1 c G s.af w u x):C1 c ⟨G.S,fE G s t ρ,qa G s ρ⟩ t.af w v x:=by
 unfold AV.sG at h;split at h
 .trivial
 .split at h
  .have:=jd h;subst this;exact hu
  .split at h
   .subst h;exact⟨rfl,HN (c:=c) (G:=G) (lk:=s.af) (τ := .slice _) (v := .nil) rfl (show C1 c G s.af w .nil x from hu)⟩
   .exact h.elim
  .exact h.elim
 .split at h
  .exact hu
  .exact h.elim
 .split at h
  .have:=jd h;subst this;exact hu
  .exact h.elim
 .split at h
  .split at h
   .rename_i hb;simp only[a9e] at hb;have h1:=a8W hb.1.1;have h2:=a8W hb.1.2;subst h1 h2;obtain⟨b,k1,k2,k3⟩:=hu;refine⟨b,?_,k2,hb.2⟩;simp only[fE];match hl:s.af (cY ρ _),k3 with
    | some o,_=>exact k1
   .exact h.elim
  .exact h.elim
 .split at h
  .split at h
   .rename_i hb;simp only[a9e] at hb;have h1:=a8W hb.1;subst h1;obtain⟨k1,k2,k3⟩:=hu;refine⟨?_,hb.2,k3⟩;simp only[fE];match hl:s.af (cY ρ _),k2 with
    | some o,_=>exact k1
   .exact h.elim
  .split at h
   .rename_i hr hn;refine⟨?_,hr,none,0,0,hu⟩;simp only[fE,hn,qo hr];exact hu
   .exact h.elim
  .exact h.elim
 .split at h
  .split at h
   .rename_i hb;simp only[a9e] at hb;have h1:=a8W hb.1;subst h1;obtain⟨k1,l,k2,k3⟩:=hu;refine⟨hb.2,l,?_,k3⟩;simp only[fE];match hl:s.af (cY ρ _),k1 with
    | some o,_=>exact k2
   .exact h.elim
  .split at h
   .rename_i hr hn;have hu:x = .slice none 0 0:=hu;refine⟨hr,[],?_,none,0,0,hu⟩;simp only[fE,hn,hr];rw[hu]
   .exact h.elim
  .exact h.elim
 .split at h
  .split at h
   .rename_i hb;have h1:=a8W hb;subst h1;exact hu
   .exact h.elim
  .exact h.elim
 .split at h
  .split at h
   .rename_i hb;simp only[a9e] at hb;have h1:=a8W hb.1;subst h1;obtain⟨k1,k2,k3⟩:=hu;refine⟨?_,hb.2,k3⟩;simp only[fE];match hl:s.af (cY ρ _),k2 with
    | some o,_=>exact k1
   .exact h.elim
  .exact h.elim
 .exact h.elim
theorem CM{ρ:List (Nat×Nat)}:∀ {us vs:List AV} {l:List Value},Fm ρ s t us vs->aM (C1 c G s.af w) us l->aM (C1 c ⟨G.S,fE G s t ρ,qa G s ρ⟩ t.af w) vs l
 | [],[],[],_,_=>trivial
 | u::us,v::vs,x::l,h,hu=>by
  simp only[Fm] at h;split at h
  .exact⟨U,CM h hu.2⟩
  .exact⟨mH h.1 hu.1,CM h.2 hu.2⟩
 | [],_::_,_,h,_=>h.elim
 | _::_,[],_,h,_=>h.elim
 | [],[],_::_,_,h=>h.elim
 | _::_,_::_,[],_,h=>h.elim
theorem a0F{ρ:List (Nat×Nat)}{x:Value}{u v:AV}(h:AV.a3V ρ s t u v)(hu:CR c G s.af w u x):CR c ⟨G.S,fE G s t ρ,qa G s ρ⟩ t.af w v x:=by
 rcases hu.inv with ⟨z,rfl,h1⟩|⟨cs,l,rfl,rfl,h1⟩|h1
 .cases v with
  | any=>trivial
  | aN z' =>
   have:=jd (show vM z z' from h);subst this;exact hu
  | _=>exact (show False from h).elim
 .cases v with
  | any=>trivial
  | agg vs=>exact⟨l,rfl,CM (show Fm ρ s t cs vs from h) h1⟩
  | _=>exact (show False from h).elim
 .cases u with
  | agg cs=>exact (show False from h1).elim
  | _=>exact (mH (show AV.sG ρ s t _ v by cases v<;>exact h) h1).V5
theorem OO{ρ:List (Nat×Nat)}:∀ {us vs:List AV} {l:List Value},UI ρ s t us vs->aM (CR c G s.af w) us l->aM (CR c ⟨G.S,fE G s t ρ,qa G s ρ⟩ t.af w) vs l
 | [],[],[],_,_=>trivial
 | u::us,v::vs,x::l,h,hu=>by
  simp only[UI] at h;split at h
  .exact⟨U,OO h hu.2⟩
  .exact⟨a0F h.1 hu.1,OO h.2 hu.2⟩
 | [],_::_,_,h,_=>h.elim
 | _::_,[],_,h,_=>h.elim
 | [],[],_::_,_,h=>h.elim
 | _::_,_::_,[],_,h=>h.elim
theorem WB{u v:FV}(h:X9 u v):u=v:=by
 unfold X9 at h;split at h
 .rename_i F hF;have:=FV.aQ hF;rw[this,h]
 .exact h.elim
theorem a2Q{ρ:List (Nat×Nat)}{x:Value}{u v:AV}(h:AV.fit ρ s t u v)(hu:VR c G s.af w u x):VR c ⟨G.S,fE G s t ρ,qa G s ρ⟩ t.af w v x:=by
 cases u with
 | agg us =>
  obtain⟨l,h1,h2⟩:=hu;cases v with
  | any=>trivial
  | agg vs=>exact⟨l,h1,CM (show Fm ρ s t us vs from h) h2⟩
  | aN z =>
   obtain⟨τ,q⟩:=z;simp only[AV.fit] at h;split at h
   .rename_i y hy;have hr:dC w G.S ⟨τ,y⟩ x:=yh (c:=c) (G:=G) (lk:=s.af) (w:=w) (x:=x) hy ⟨l,h1,h2⟩;have h':y=q:=h;show dC w G.S ⟨τ,q⟩ x;rw[<-h'];exact hr
   .exact h.elim
  | _=>exact (show False from h).elim
 | gb us =>
  cases v with
  | any=>trivial
  | _=>exact (show False from h).elim
 | aN z =>
  cases v with
  | any=>trivial
  | aN z' =>
   have:=jd (show vM z z' from h);subst this;exact hu
  | _=>exact (show False from h).elim
 | cN f us =>
  obtain⟨l,h1,h2⟩:=hu;cases v with
  | any=>trivial
  | cN g vs =>
   simp only[AV.fit] at h;split at h
   .rename_i hb;have hb:=a8W hb;subst hb;exact⟨l,h1,OO h h2⟩
   .exact h.elim
  | _=>exact (show False from h).elim
 | gv z =>
  cases v with
  | any=>trivial
  | gv z' =>
   have:=WB (show X9 z z' from h);subst this;exact hu
  | _=>exact (show False from h).elim
 | any=>cases v<;>first|trivial|exact (show False from h).elim
 | dR=>cases v<;>first|trivial|exact (show False from h).elim
 | nil=>exact (mH (u := .nil) (show AV.sG ρ s t .nil v by cases v<;>exact h) (show C1 c G s.af w .nil x from hu)).ft
 | cS z=>exact (mH (u := .cS z) (show AV.sG ρ s t (.cS z) v by cases v<;>exact h) (show C1 c G s.af w (.cS z) x from hu)).ft
 | ptr i o=>exact (mH (u := .ptr i o) (show AV.sG ρ s t (.ptr i o) v by cases v<;>exact h) (show C1 c G s.af w (.ptr i o) x from hu)).ft
 | row i=>exact (mH (u := .row i) (show AV.sG ρ s t (.row i) v by cases v<;>exact h) (show C1 c G s.af w (.row i) x from hu)).ft
 | dX i k o=>exact (mH (u := .dX i k o) (show AV.sG ρ s t (.dX i k o) v by cases v<;>exact h) (show C1 c G s.af w (.dX i k o) x from hu)).ft
 | fn f=>exact (mH (u := .fn f) (show AV.sG ρ s t (.fn f) v by cases v<;>exact h) (show C1 c G s.af w (.fn f) x from hu)).ft
 | mp i=>exact (mH (u := .mp i) (show AV.sG ρ s t (.mp i) v by cases v<;>exact h) (show C1 c G s.af w (.mp i) x from hu)).ft
 | aC i=>exact (mH (u := .aC i) (show AV.sG ρ s t (.aC i) v by cases v<;>exact h) (show C1 c G s.af w (.aC i) x from hu)).ft
 | sub i k o z=>exact (mH (u := .sub i k o z) (show AV.sG ρ s t (.sub i k o z) v by cases v<;>exact h) (show C1 c G s.af w (.sub i k o z) x from hu)).ft
 | eo i k o z=>exact (mH (u := .eo i k o z) (show AV.sG ρ s t (.eo i k o z) v by cases v<;>exact h) (show C1 c G s.af w (.eo i k o z) x from hu)).ft
theorem Ad{ρ:List (Nat×Nat)}:∀ {us vs:List AV},yD ρ s t us vs->us.length=vs.length/\∀ i,vs.getD i .any = .any\/AV.fit ρ s t (us.getD i .any) (vs.getD i .any)
 | [],[],_=>⟨rfl,λ i => .inl (by simp)⟩
 | u::us,v::vs,h=>by
  simp only[yD] at h;split at h
  .obtain⟨h1,h2⟩:=Ad h;refine⟨by simp[h1],λ i=>?_⟩;cases i with
   | zero=>exact .inl rfl
   | succ i=>simpa using h2 i
  .obtain⟨h1,h2⟩:=Ad h.2;refine⟨by simp[h1],λ i=>?_⟩;cases i with
   | zero=>exact .inr h.1
   | succ i=>simpa using h2 i
 | [],_::_,h=>h.elim
 | _::_,[],h=>h.elim
def Z8(aT:Ty)(ys:List aT.den)(τ:Ty)(xs:List τ.den):Prop:=∀ (w:World) (η:Value) (fp:List Nat),ic w η aT ys fp->ic w η τ xs fp
theorem Ue{aT:Ty}{ys:List aT.den}{τ:Ty}{xs:List τ.den}(h:Ud aT ys τ xs):Z8 aT ys τ xs:=by
 unfold Ud at h;split at h
 .rename_i h1 h2;have h1:=a9y h1;have h2:=a9y h2;subst h1 h2;have h:=jd h;rw[TV.Wj] at h;cases h;intro w η fp hT;obtain⟨v,l,a,cap,q1,q2,q3,q4,q5,q6⟩:=hT;have e1:(List.map toO ys).length=ys.length:=a9M _;have e2:((show List J from ys).map toO).map (Ty.aE (.st .oExpr))=ys.map (Ty.aE (.st .expr)):=by
   rw[b2a];refine b3i λ x _=>?_;show aG.aE .oExpr (toO x)=aG.aE .expr x;rw[aG.bQ,aG.bQ];rfl
  refine⟨v,l,a,cap,q1,by rw[q2];exact congrArg (Value.slice a · cap) e1.symm,by exact e1 ▸ q3,q4,by exact e1 ▸ q5,?_⟩;rcases q6 with ⟨rfl,q7,q8⟩|⟨b,f,t,q7,q8,q9,q10,q11⟩
  .exact .inl ⟨rfl,q7,q8⟩
  .exact .inr ⟨b,f,t,q7,q8,q9,q10,e2 ▸ q11⟩
 .have h:=jd h;cases h;exact λ _ _ _ h=>h
def a2z(ρ:List (Nat×Nat))(s t:ag)(id:Nat):av->Prop
 | .box bs=>∃ Z9,s.af (cY ρ id)=some (.box Z9)/\Fm ρ s t Z9 bs
 | .row e τ xs=>s.af (cY ρ id)=some (.row e τ xs)\/(s.af (cY ρ id)=none/\xs=[])
 | .aC τ xs=>(∃ aT ys,s.af (cY ρ id)=some (.aC aT ys)/\Z8 aT ys τ xs)\/(s.af (cY ρ id)=none/\xs=[])
 | .map m=>s.af (cY ρ id)=some (.map m)
theorem Vn{a b:MV}(h:Xg a b):a=b:=by
 unfold Xg at h;split at h
 .rename_i f n hf;rw[MV.aQ hf];simp only;rw[h.1,h.2]
 .exact h.elim
theorem j0{ρ:List (Nat×Nat)}:∀ {l:List (Nat×av)},jh ρ s t l->∀ id o,(id,o)∈l->a2z ρ s t id o
 | [],_,id,o,h=>by simp at h
 | (k, .box bs)::r,h,id,o,hm=>by
  simp only[jh] at h;split at h
  .rename_i Z9 ha;rcases a9k.1 hm with e|hm
   .simp only[a8Y] at e;obtain⟨rfl,rfl⟩:=e;exact⟨Z9,ha,h.1⟩
   .exact j0 h.2 id o hm
  .exact h.elim
 | (k, .row e τ xs)::r,h,id,o,hm=>by
  simp only[jh] at h;split at h
  .rename_i e' aT ys ha;split at h
   .rename_i he;have he:=a8W he;subst he;rcases a9k.1 hm with e1|hm
    .simp only[a8Y] at e1;obtain⟨rfl,rfl⟩:=e1;have:=jd h.1;cases this;exact .inl ha
    .exact j0 h.2 id o hm
   .exact h.elim
  .rename_i ha;rcases a9k.1 hm with e1|hm
   .simp only[a8Y] at e1;obtain⟨rfl,rfl⟩:=e1;exact .inr ⟨ha,h.1⟩
   .exact j0 h.2 id o hm
  .exact h.elim
 | (k, .aC τ xs)::r,h,id,o,hm=>by
  simp only[jh] at h;split at h
  .rename_i aT ys ha;rcases a9k.1 hm with e1|hm
   .simp only[a8Y] at e1;obtain⟨rfl,rfl⟩:=e1;exact .inl ⟨aT,ys,ha,Ue h.1⟩
   .exact j0 h.2 id o hm
  .rename_i ha;rcases a9k.1 hm with e1|hm
   .simp only[a8Y] at e1;obtain⟨rfl,rfl⟩:=e1;exact .inr ⟨ha,h.1⟩
   .exact j0 h.2 id o hm
  .exact h.elim
 | (k, .map m)::r,h,id,o,hm=>by
  simp only[jh] at h;split at h
  .rename_i m' ha;rcases a9k.1 hm with e1|hm
   .simp only[a8Y] at e1;obtain⟨rfl,rfl⟩:=e1;rw[Vn h.1] at ha;exact ha
   .exact j0 h.2 id o hm
  .exact h.elim
theorem CN{ρ:List (Nat×Nat)}(h:Inv c G s a w)(hf:Fits ρ s t):∃ G',Inv c G' t a w:=by
 unfold Fits at hf;split at hf;case h_2=>exact hf.elim
 case h_1 hb =>
  rw[a9e] at hb;obtain⟨hb,hb4⟩:=hb;rw[a9e] at hb;obtain⟨hb,Kt⟩:=hb;simp only[a9e] at hb;obtain⟨hs,ho⟩:=hf;obtain⟨hlen,Pd⟩:=Ad hs;have ji:=j0 ho;have fg:∀ id b,dk (fE G s t ρ id)=some b->∃ o,s.af (cY ρ id)=some o/\dk (G.η (cY ρ id))=some b:=by
   intro id b hb;unfold fE at hb;split at hb
   .rename_i o ho;exact⟨o,ho,hb⟩
   .split at hb<;>cases hb
  refine⟨⟨G.S,fE G s t ρ,qa G s ρ⟩,?_⟩;exact {
   defers:=h.defers
   size:=h.size.trans hlen
   aL:=h.aL,jE:=h.jE,ej:=h.ej,sX:=h.sX,dI:=h.dI
   aw:=λ i=>by
    rcases Pd i with e|e
    .rw[show t.sl i = .any from e];trivial
    .exact a2Q e (h.aw i)
   aH:=λ id o aS=>by
    have hof:=ji id o (fi aS);cases o with
    | box bs =>
     obtain⟨Z9,h1,h2⟩:=hof;obtain⟨b,l,ty,k1,k2,k3⟩:=h.aH _ _ h1;refine⟨b,l,ty,?_,k2,CM h2 k3⟩;simp only[fE,h1];exact k1
    | row e τ xs =>
     rcases hof with h1|⟨h1,rfl⟩
     .obtain⟨l,k1,k2,k3⟩:=h.aH _ _ h1;refine⟨l,?_,k2,k3⟩;simp only[fE,h1];exact k1
     .refine⟨[],?_,rfl,by simp⟩;simp only[fE,h1,qo (show isRow (t.af id)=true by rw[aS];rfl)];exact World.ownsRow_nil w 0 e τ.size
    | aC τ xs=>trivial
    | map m =>
     have h1:s.af (cY ρ id)=some (.map m):=hof;obtain⟨b,es,clock,k1,k2⟩:=h.aH _ _ h1;refine⟨b,es,clock,?_,k2⟩;simp only[fE,h1];exact k1
   place:=λ id o b aS gB=>by
    obtain⟨o',h1,h2⟩:=fg id b gB;exact h.place _ _ b h1 h2
   apart:=λ id dm o o' b aS C6 gB a6L=>by
    obtain⟨p,h1,h2⟩:=fg id b gB;obtain⟨p',h3,h4⟩:=fg dm b a6L;have:=h.apart _ _ _ _ b h1 h3 h2 h4;have Bh:=xU (λ p:Nat×av=>cY ρ p.1) (AN hb.2) (id,o) (fi aS) (dm,o') (fi C6) this;exact congrArg Prod.fst Bh
   aO:=by
    have Pm:∀ id b,b∈qa G s ρ id->(∃ o,s.af (cY ρ id)=some o)/\b∈G.φ (cY ρ id):=λ id b cm=>by
     unfold qa at cm;split at cm
     .rename_i o ho;exact⟨⟨o,ho⟩,cm⟩
     .simp at cm
    have oP:∀ id τ xs,t.af id=some (.aC τ xs)->(∃ aT ys,s.af (cY ρ id)=some (.aC aT ys)/\Z8 aT ys τ xs)\/(s.af (cY ρ id)=none/\xs=[]):=λ id τ xs aS=>ji id _ (fi aS);have fe:∀ id τ xs b,t.af id=some (.aC τ xs)->b∈qa G s ρ id->∃ aT ys,s.af (cY ρ id)=some (.aC aT ys)/\b∈G.φ (cY ρ id):=λ id τ xs b aS cm=>by
     obtain⟨⟨o,ho⟩,h2⟩:=Pm id b cm;rcases oP id τ xs aS with ⟨aT,ys,h1,_⟩|⟨h1,_⟩
     .exact⟨aT,ys,h1,h2⟩
     .rw[h1] at ho;cases ho
    exact {
     tr:=λ id τ xs aS=>by
      rcases oP id τ xs aS with ⟨aT,ys,h1,hle⟩|⟨h1,rfl⟩
      .simp only[fE,qa,h1];exact hle _ _ _ (h.aO.tr _ _ _ h1)
      .simp only[fE,qa,h1,show cP (t.af id)=true by rw[aS];rfl];exact⟨_,[],none,0,rfl,rfl,by simp,by simp[maxLen],by simp, .inl ⟨rfl,⟨rfl,rfl⟩,rfl⟩⟩
     nd:=λ id τ xs aS=>by
      rcases oP id τ xs aS with ⟨aT,ys,h1,_⟩|⟨h1,_⟩
      .simp only[qa,h1];exact h.aO.nd _ _ _ h1
      .simp only[qa,h1];exact b0c
     pl:=λ id τ xs b aS cm=>by
      obtain⟨_,_,h1,h2⟩:=fe id τ xs b aS cm;obtain⟨q1,q2,q3,q4⟩:=h.aO.pl _ _ _ b h1 h2;refine⟨q1,q2,q3,λ i o hi uG=>?_⟩;obtain⟨o',k1,k2⟩:=fg i b uG;exact q4 _ o' k1 k2
     ap:=λ id dm τ aT xs cM b aS C6 rJ CZ=>by
      obtain⟨_,_,h1,h2⟩:=fe id τ xs b aS rJ;obtain⟨_,_,h3,h4⟩:=fe dm aT cM b C6 CZ;have:=h.aO.ap _ _ _ _ _ _ b h1 h3 h2 h4;have Bh:=xU (λ p:Nat×av=>cY ρ p.1) (AN hb.2) (id, .aC τ xs) (fi aS) (dm, .aC aT cM) (fi C6) this;exact congrArg Prod.fst Bh }
   root:=λ id v hr ht=>by
    have hrg:=h.gX id v hr;match hl:t.af id,ht with
    | some (.aC τ xs),_ =>
     have hq:=a9H.1 Kt _ (fi hl);simp only[b0B,a9e,b2w,Nat.ble_eq] at hq;rcases hq with hq|hq|⟨B3,uN⟩
     .omega
     .omega
     .have B3:=Nat.eq_of_beq_eq_true B3;obtain⟨l,h2⟩:=h.root id v hr uN;refine⟨l,?_⟩;show fE G s t ρ id=_;unfold fE;rw[B3];match hs:s.af id,uN with
      | some (.aC ..),_=>exact h2
   gX:=h.gX
   dq:=λ id v hr ht=>by
    have hrg:=h.eF id v hr;match hl:t.af id,ht with
    | some (.box cs),_ =>
     have hq:=a9H.1 hb4 _ (fi hl);simp only[fw,a9N,b3e,b0B,a9e,b2w] at hq;rcases hq with hq|⟨B3,uN⟩
     .omega
     .have B3:=Nat.eq_of_beq_eq_true B3;have h2:=h.dq id v hr uN;show fE G s t ρ id=_;unfold fE;rw[B3];match hs:s.af id,uN with
      | some (.box ..),_=>exact h2
   eF:=h.eF }
theorem fN(hE:bn c.P c.E)(gV:c.P.follows .mixedOrders=true):∀ (O:Code) (Λ:Nat->aJ) (cur:Nat) (Q:Exit->ag->Prop) (G:Gh) (s:ag) (a:Act) (w:World),
  Inv c G s a w->tT c.E O Λ cur Q s->O.wp c.P (λ e a w=>∃ G s,Inv c G s a w/\Q e s) a w
 | .skip,Λ,cur,Q,G,s,a,w,h,hr=>wp_skip ⟨G,s,h,hr⟩
 | .region id ops draw,Λ,cur,Q,G,s,a,w,h,hr=>by
  cases draw with
  | true=>exact Oe hE gV (Q:=Q .normal) (λ G s a w hI hq=>⟨G,s,hI,hq⟩) h hr
  | false =>
   refine wp_region ?_;have:=xA hE (ops:=ops) (Q:=Q .normal) (Q':=λ e a w=>∃ G s,Inv c G s a w/\Q e s) (λ G s a w hI hq=>⟨G,s,hI,hq⟩) ops.toList 0 [] G s a w (by simp) h hr;rw[List.range_eq_range'];simpa using this
 | .seq x y,Λ,cur,Q,G,s,a,w,h,hr=>by
  simp only[tT] at hr;split at hr;case h_2 ι P μ fz dead ins aL os Sa ren sub hL =>
   obtain⟨hx,hy⟩:=hr;refine wp_seq (b2x (fN hE gV x Λ cur _ G s a w h hx) ?_);rintro e a' w' ⟨G',s',hI,hq⟩;cases e with
   | normal =>
    obtain⟨j,hPj,hF⟩:=hq;obtain⟨G3,h3⟩:=hI.CO fz;obtain⟨G4,h4⟩:=CN h3 hF.ex.choose_spec;exact fN hE gV y (sub j) cur Q G4 _ a' w' h4 (hy j hPj)
   | _=>exact⟨G',s',hI,hq⟩
  refine wp_seq (b2x (fN hE gV x Λ cur _ G s a w h hr) ?_);rintro e a' w' ⟨G',s',hI,hq⟩;cases e with
  | normal=>exact fN hE gV y Λ cur Q G' s' a' w' hI hq
  | _=>exact⟨G',s',hI,hq⟩
 | .cond x p q,Λ,cur,Q,G,s,a,w,h,hr=>by
  simp only[tT] at hr;split at hr
  .rename_i t ht;have hx:=aW h x;rw[ht] at hx;have hx:[a.eval x]=[.bool t]:=hx;simp only[a9a,a9q] at hx;refine wp_cond hx ?_;cases t with
   | true=>exact fN hE gV p Λ cur Q G s a w h (hr.1 rfl)
   | false=>exact fN hE gV q Λ cur Q G s a w h (hr.2 rfl)
  .exact hr.elim
 | .block id x,Λ,cur,Q,G,s,a,w,h,hr=>by
  refine wp_block (b2x (fN hE gV x Λ id _ G s a w h hr) ?_);rintro e a' w' ⟨G',s',hI,hq⟩;cases e with
  | exit i =>
   simp only at hq;simp only[Exit.inBlock];split at hq
   .rename_i hi;rw[a9l (a8W hi)];exact⟨G',s',hI,hq⟩
   .rename_i hi;have:i≠id:=λ e=>by subst e;simp at hi
    rw[a9c this];exact⟨G',s',hI,hq⟩
  | _=>exact⟨G',s',hI,hq⟩
 | .loop x,Λ,cur,Q,G,s,a,w,h,hr=>by
  simp only[tT] at hr;split at hr
  .exact hr.elim
  .rename_i ι P μ fz dead ins aL os Sa ren sub hL;obtain⟨⟨i0,hP0,hF0⟩,a3b⟩:=hr;obtain⟨G1,h1⟩:=h.CO fz;obtain⟨G2,h2⟩:=CN h1 hF0.ex.choose_spec;refine wp_loop_ghost (λ n a w=>∃ i G,P i/\μ i=n/\Inv c G (pI s (dead++Code.zI x) (ins i) aL (os i)) a w) (μ i0) ⟨i0,G2,hP0,rfl,h2⟩ ?_;rintro n a' w' ⟨i,G',hP,rfl,hI⟩;refine b2x (fN hE gV x (sub i) cur _ G' _ a' w' hI (a3b i hP)) ?_;rintro e a'' JS ⟨G'',s'',a3Y,hq⟩;cases e with
   | normal =>
    obtain⟨j,hPj,bj,hF⟩:=hq;obtain⟨G3,h3⟩:=a3Y.CO fz;obtain⟨G4,h4⟩:=CN h3 hF.ex.choose_spec;exact⟨μ j,bj,j,G4,hPj,rfl,h4⟩
   | _=>exact⟨G'',s'',a3Y,hq⟩
 | .exit id,Λ,cur,Q,G,s,a,w,h,hr=>wp_exit ⟨G,s,h,hr⟩
 | .ret,Λ,cur,Q,G,s,a,w,h,hr=>wp_ret ⟨G,s,h,hr⟩
 | .label l,Λ,cur,Q,G,s,a,w,h,hr=>wp_label ⟨G,s,h,hr⟩
 | .rangeFunc ..,_,_,_,_,_,_,_,_,hr=>hr.elim
 | .scope ..,_,_,_,_,_,_,_,_,hr=>hr.elim
 | .goto ..,_,_,_,_,_,_,_,_,hr=>hr.elim
 | .refuse ..,_,_,_,_,_,_,_,_,hr=>hr.elim
end
theorem aM.replicate{α β:Type}{R:α->β->Prop}{a:α}{b:β}(MN:R a b):∀ n:Nat,aM R (List.replicate n a) (List.replicate n b)
 | 0=>trivial
 | n+1=>⟨MN,aM.replicate MN n⟩
theorem aM.we{α β:Type}{R:α->β->Prop}{Z9:List α}{bs:List β}(h:aM R Z9 bs){a:α}{b:β}(MN:R a b)(n:Nat):aM R (Z9++List.replicate n a) (bs++List.replicate n b) :=
 h.append (aM.replicate MN n)
theorem aM.getD{α β:Type}{R:α->β->Prop}{d:α}{e:β}(hde:R d e):∀ {Z9:List α} {bs:List β},aM R Z9 bs->∀ i:Nat,R (Z9.getD i d) (bs.getD i e)
 | [],[],_,i=>by simpa using hde
 | a::Z9,b::bs,h,0=>h.1
 | a::Z9,b::bs,h,i+1=>by simpa using aM.getD hde h.2 i
 | [],_::_,h,_=>h.elim
 | _::_,[],h,_=>h.elim
section
variable {P:Program} {E:Env}
def ZW(P:Program)(w:World)(S:Nat->Prop):Arg->Value->Prop
 | .own _,_=>True
 | .box _,_=>True
 | a,x=>tD P w S a x
theorem Mq{w:World}{S X:Nat->Prop}(hS:jf w S)(hX:∀ b,X b->b<w.heap.size/\¬ S b){fn:Func}{args:List Arg}{bV:List Value}(ha:aM (ZW P w S) args bV)(L9:(∀ b,¬ X b)\/∀ a∈args,a.Hq=true) :
  Inv ⟨P,E,w,X,S,λ _=>none,λ _=>False,λ _=>none⟩ ⟨S,λ _=>undef,λ _=>[]⟩ (dB fn args) { tmps:=bV.toArray++Array.replicate (fn.ntmps - bV.toArray.size) undef,defers:=[] } w:=by
 have hlen:=ha.length;have Pd:∀ v x,v∈args->ZW P w S v x->VR ⟨P,E,w,X,S,λ _=>none,λ _=>False,λ _=>none⟩ ⟨S,λ _=>undef,λ _=>[]⟩ (dB fn args).af w (N9 v) x:=by
  intro v x hm h;cases v with
  | val v=>exact h
  | ref v =>
   obtain⟨b,o,cs,h1,h2,h3,h4⟩:=h;exact⟨b,o,cs,h1, .inr ⟨h2,L9.elim (λ q=>⟨q b,λ z=>z⟩) λ q=>absurd (q _ hm) (by simp[Arg.Hq])⟩,h3,h4⟩
  | fn f=>exact h
  | cN v =>
   obtain⟨f,ei,l,h1,h2,h3⟩:=h;refine⟨f,ei,l,h1,h2,h3.imp λ u y _ hy=>?_⟩;cases u with
   | val v=>exact hy
   | ref v =>
    obtain⟨b,o,cs,k1,k2,k3,k4⟩:=hy;exact⟨b,o,cs,k1, .inr ⟨k2,L9.elim (λ q=>⟨q b,λ z=>z⟩) λ q=>absurd (q _ hm) (by simp[Arg.Hq])⟩,k3,k4⟩
   | fn f=>exact hy
   | cN v=>exact hy.elim
   | own v=>exact hy.elim
   | box k=>exact hy.elim
  | own v=>trivial
  | box k=>trivial
 exact {
  defers:=rfl
  size:=by simp[dB,hlen]
  aL:=bI.refl _ _
  jE:=⟨λ b h=>(hX b h).1,λ g hg=>⟨(hS.2 g hg).1,λ q=>(hX g q).2 (hS.2 g hg).1,hS.1 g (hS.2 g hg).1,(hS.2 g hg).2⟩⟩
  ej:=λ b _ _=>b0X
  sX:=λ b hs=>hs
  dI:=hS.1
  aw:=λ i=>by
   have h1:aM (λ v x=>VR ⟨P,E,w,X,S,λ _=>none,λ _=>False,λ _=>none⟩ ⟨S,λ _=>undef,λ _=>[]⟩ (dB fn args).af w v x) (args.map N9) bV:=aM.dH _ (ha.imp λ v x hm h=>Pd v x hm h);have h2:=aM.getD (d:=AV.any) (e:=undef) (show VR ⟨P,E,w,X,S,λ _=>none,λ _=>False,λ _=>none⟩ ⟨S,λ _=>undef,λ _=>[]⟩ (dB fn args).af w .any undef from trivial) (h1.we (a:=AV.any) (b:=undef) (show VR ⟨P,E,w,X,S,λ _=>none,λ _=>False,λ _=>none⟩ ⟨S,λ _=>undef,λ _=>[]⟩ (dB fn args).af w .any undef from trivial) (fn.ntmps - args.length)) i;have e1:(dB fn args).sl i=(args.map N9++List.replicate (fn.ntmps - args.length) AV.any).getD i AV.any:=rfl;have e2:(bV.toArray++Array.replicate (fn.ntmps - bV.toArray.size) undef).getD i undef=(bV++List.replicate (fn.ntmps - args.length) undef).getD i undef:=by
    rw[a9G,a9h,<-b2R];simp[hlen]
   rw[e1,e2];exact h2
  aH:=λ id o h=>by cases h
  place:=λ id o b h=>by cases h
  apart:=λ id dm o o' b h=>by cases h
  aO:=⟨(λ id τ xs h=>by cases h),(λ id τ xs h=>by cases h),(λ id τ xs b h=>by cases h),(λ id dm τ aT xs cM b h=>by cases h)⟩
  root:=λ id v h=>by cases h
  gX:=λ id v h=>by cases h
  dq:=λ id v h=>by cases h
  eF:=λ id v h=>by cases h }
theorem XF{w:World}{S:Nat->Prop}(hS:jf w S){fn:Func}{args:List Arg}{bV:List Value}(ha:aM (tD P w S) args bV) :
  Inv ⟨P,E,w,λ _=>False,S,λ _=>none,λ _=>False,λ _=>none⟩ ⟨S,λ _=>undef,λ _=>[]⟩ (dB fn args) { tmps:=bV.toArray++Array.replicate (fn.ntmps - bV.toArray.size) undef,defers:=[] } w :=
 Mq hS (λ _ h=>h.elim) (ha.imp λ v x _ h=>by
  cases v with
  | own v=>trivial
  | box k=>exact h.elim
  | _=>exact h) (.inl λ _ h=>h)
def lD(tmps:Array Value):ResultVar->Sem Value
 | .tmp t=>pure (tmps.getD t undef)
 | .cell a t=>do loadVar t (<-asAddr (tmps.getD a undef))
theorem qP(fn:Func)(tmps:Array Value):results fn tmps=(do
  let vs <-fn.results.mapM (lD tmps)
  pure (if h:vs.size=1 then vs[0] else .tuple vs)):=by
 unfold results;congr 1
theorem Jw(hE:bn P E){c:Ctx}(Td:c.P=P)(US:c.E=E){G:Gh}{s:ag}{a:Act}{w:World}(h:Inv c G s a w):∀ {rs:List ResultVar} {Ts:List TypeId} {vs:List TV},Lj E s rs Ts=some vs ->
  ∃ xs,(rs.mapM (lD a.tmps)).run P w = .ok xs w/\aM (dC w (SX G s.af)) vs xs
 | [],[],vs,hr=>by
  simp only[Lj,a8V] at hr;subst hr;exact⟨[],by simp,U⟩
 | r::rs,T::Ts,vs,hr=>by
  simp only[Lj] at hr;split at hr
  .rename_i τ q hT;split at hr
   .rename_i x hx;split at hr
    .rename_i l hl;simp only[a8V] at hr;subst hr;obtain⟨xs,h1,h2⟩:=Jw hE Td US h hl;cases r with
     | tmp t =>
      refine⟨a.tmps.getD t undef::xs,by simp[b1m,lD,h1],wg h.aO h.aH (DF λ _ _ h=>h) hx (aW h (.tmp t)),h2⟩
     | cell p t =>
      simp only at hx;split at hx
      .rename_i hb;have hb:=Nat.eq_of_beq_eq_true hb;subst hb;unfold deref at hx;split at hx
       .rename_i u hu;obtain⟨b,o,cs,k1,k2,k3,k4⟩:=ow h.aH (DF λ _ _ h=>h) hu (aW h (.tmp p));have cz:=gF hE hT k2 k3;have k1':a.tmps.getD p undef = .pointer (some ⟨b,o,none⟩):=k1;refine⟨yZ τ cs::xs,?_,wg h.aO h.aH (DF λ _ _ h=>h) hx k4,h2⟩;simp only[Instr.loadAt,Instr.sureAddr,a9r,a9u,a9m] at cz;simp only[b1m,lD,k1',asAddr,a9r,a9u,a9m,cz,h1]
       .cases hx
      .cases hx
    .cases hr
   .cases hr
  .cases hr
 | [],_::_,_,hr=>by cases hr
 | _::_,[],_,hr=>by cases hr
theorem a1K{w:World}{S:Nat->Prop}:∀ {vs:List TV} {xs:List Value},aM (dC w S) vs xs->E9 w S vs (if h:xs.toArray.size=1 then xs.toArray[0] else .tuple xs.toArray)
 | [],[],_=>⟨[],by simp,U⟩
 | [v],[x],h=>by simpa [E9] using h.1
 | v::u::r,x::y::z,h=>⟨x::y::z,by simp,h⟩
 | [],_::_,h=>h.elim
 | _::_,[],h=>h.elim
 | [_],_::_::_,h=>h.2.elim
 | _::_::_,[_],h=>h.2.elim
theorem RO(hE:bn P E)(gV:P.follows .mixedOrders=true){f:FuncId}{fn:Func}{O:Code}(hf:P.funcs[f]?=some fn)(hb:fn.body=some O)(Λ:Nat->aJ){args:List Arg}{post:List TV->Prop}
  (h:tT E O Λ 0 (uz E fn post) (dB fn args)):fT P f args post:=by
 intro w S bV hS ha;refine b3x hf hb ?_;have hinv:=XF (P:=P) (E:=E) (fn:=fn) hS ha;refine b2x (fN (c:=⟨P,E,w,λ _=>False,S,λ _=>none,λ _=>False,λ _=>none⟩) hE gV O Λ 0 _ _ _ _ w hinv h) ?_;have fin:∀ (e:Exit) (a:Act) (w':World),(e = .normal\/e = .ret)->(∃ G s,Inv ⟨P,E,w,λ _=>False,S,λ _=>none,λ _=>False,λ _=>none⟩ G s a w'/\uz E fn post e s) ->
   a.defers=[]/\∃ v,(results fn a.tmps).run P w' = .ok v w'/\∃ x S' res,Ending.returned v = .returned x/\post res/\bI (λ _=>False) w w'/\(∀ b,b<w.heap.size->(S' b↔S b))/\(∀ b,S' b->b<w'.heap.size)/\E9 w' S' res x:=by
  rintro e a w' he ⟨G,s,hI,hp⟩;have Tj:∃ vs,Lj E s fn.results.toList fn.resultTypes.toList=some vs/\post vs:=by
   rcases he with rfl|rfl <;>
   .simp only[uz] at hp;split at hp
    .rename_i vs xT;exact⟨vs,xT,hp⟩
    .exact hp.elim
  obtain⟨vs,xT,Pa⟩:=Tj;obtain⟨xs,h1,h2⟩:=Jw hE (c:=⟨P,E,w,λ _=>False,S,λ _=>none,λ _=>False,λ _=>none⟩) rfl rfl hI xT;refine⟨hI.defers,(if h:xs.toArray.size=1 then xs.toArray[0] else .tuple xs.toArray),?_,_,SX G s.af,vs,rfl,Pa,hI.aL,λ b hb=>?_,λ b hb=>?_,a1K h2⟩
  .rw[qP,b0U];simp only[a9r,b2l,h1];rfl
  .constructor
   .rintro (hs|⟨id,e',τ,ys,aS,gB⟩|⟨id,τ,ys,aS,gB⟩)
    .exact (hI.ej b hb (λ q=>q)).1 hs
    .rcases (hI.place id _ b aS gB).1 with Tf|hx
     .have:w.heap.size<=b:=Tf;omega
     .exact hx.elim
    .rcases (hI.aO.pl id _ _ b aS gB).1 with Tf|hx
     .have:w.heap.size<=b:=Tf;omega
     .exact hx.elim
   .exact λ hs => .inl ((hI.ej b hb (λ q=>q)).2 hs)
  .rcases hb with hs|⟨id,e',τ,ys,aS,gB⟩|⟨id,τ,ys,aS,gB⟩
   .exact hI.dI b hs
   .exact (hI.place id _ b aS gB).2.2
   .exact (hI.aO.pl id _ _ b aS gB).2.2.1
 intro e a w' hq;cases e with
 | normal=>exact fin .normal a w' (.inl rfl) hq
 | ret=>exact fin .ret a w' (.inr rfl) hq
 | exit i=>obtain⟨_,_,_,hp⟩:=hq;exact hp.elim
 | goto l=>obtain⟨_,_,_,hp⟩:=hq;exact hp.elim
 | panic ch=>obtain⟨_,_,_,hp⟩:=hq;exact hp.elim
 | outgrown=>obtain⟨_,_,_,hp⟩:=hq;exact hp.elim
end
def qT(E:Env)(s:ag):List ResultVar->List TypeId->Option (List TV×List Nat)
 | [],[]=>some ([],[])
 | r::rs,T::Ts=>match af E.ty T with
  | some (
      τ,_)=>match (match r with
    | .tmp t=>Hw s.af τ (s.eval (.tmp t))
    | .cell p t=>match Nat.beq t T with
     | true=>match ql s.af τ (s.eval (.tmp p)) with
      | some u=>Hw s.af τ u
      | none=>none
     | false=>none) with
   | some (x,i)=>match qT E s rs Ts with
    | some (l,j)=>some (⟨τ,x⟩::l,i++j)
    | none=>none
   | none=>none
  | none=>none
 | _,_=>none
def DK(E:Env)(fn:Func)(post:List TV->Prop)(e:Exit)(s:ag):Prop :=
 match e with
 | .ret | .normal=>match qT E s fn.results.toList fn.resultTypes.toList with
  | some (vs,ids)=>match nodupB ids with
   | true=>post vs
   | false=>False
  | none=>False
 | _=>False
section
variable {P:Program} {E:Env}
theorem AX{c:Ctx}(hE:bn c.P c.E)(Td:c.P=P)(US:c.E=E){G:Gh}{s:ag}{a:Act}{w:World}(h:Inv c G s a w):∀ {rs:List ResultVar} {Ts:List TypeId} {vs:List TV} {ids:List Nat},qT E s rs Ts=some (vs,ids)->ids.Nodup ->
  ∃ xs fp,(rs.mapM (lD a.tmps)).run P w = .ok xs w/\HC w vs xs fp/\fp.Nodup/\∀ b∈fp,tH G s.af ids b
 | [],[],vs,ids,hr,_=>by
  simp only[qT,a8V,a8Y] at hr;obtain⟨rfl,rfl⟩:=hr;exact⟨[],[],by simp,rfl,b0c,by simp⟩
 | r::rs,T::Ts,vs,ids,hr,dj=>by
  simp only[qT] at hr;split at hr;case h_2=>cases hr
  case h_1 τ q hT =>
  split at hr;case h_2=>cases hr
  case h_1 x i hx =>
  split at hr;case h_2=>cases hr
  case h_1 l j hl =>
  simp only[a8V,a8Y] at hr;obtain⟨rfl,rfl⟩:=hr;rw[a9s] at dj;obtain⟨n1,n2,n3⟩:=dj;obtain⟨xs,fp,h1,h2,h3,h4⟩:=AX hE Td US h hl n2;cases r with
  | cell p t =>
   simp only at hx;split at hx;case h_2=>cases hx
   case h_1 hb =>
   have hb:=a8W hb;subst hb;split at hx;case h_2=>cases hx
   case h_1 u hu =>
   obtain⟨b,o,cs,q1,q2,q3,q4⟩:=ow h.aH (λ _ _ h=>h) hu (aW h (.tmp p));subst Td US;have cz:=gF hE hT q2 q3;have q1':a.tmps.getD p undef = .pointer (some ⟨b,o,none⟩):=q1;obtain⟨f1,k1,k2,k3⟩:=qU h hx q4 n1;refine⟨yZ τ cs::xs,f1++fp,?_,⟨f1,fp,rfl,k1,h2⟩,dL k2 h3 λ b hb cm=>h.gK (k3 b hb) (h4 b cm) (λ x hx y hy=>n3 x hx y hy),λ b hb=>?_⟩
   .simp only[Instr.loadAt,Instr.sureAddr,a9r,a9u,a9m] at cz;simp only[b1m,lD,q1',asAddr,a9r,a9u,a9m,cz,h1]
   .rcases a8X.1 hb with hb|hb
    .exact (k3 b hb).mono λ k hk=>by simp[hk]
    .exact (h4 b hb).mono λ k hk=>by simp[hk]
  | tmp t =>
   obtain⟨f1,k1,k2,k3⟩:=qU h hx (aW h (.tmp t)) n1;refine⟨a.tmps.getD t undef::xs,f1++fp,by simp[b1m,lD,h1],⟨f1,fp,rfl,k1,h2⟩,dL k2 h3 λ b hb cm=>h.gK (k3 b hb) (h4 b cm) (λ x hx y hy=>n3 x hx y hy),λ b hb=>?_⟩;rcases a8X.1 hb with hb|hb
   .exact (k3 b hb).mono λ k hk=>by simp[hk]
   .exact (h4 b hb).mono λ k hk=>by simp[hk]
 | [],_::_,_,_,hr,_=>by cases hr
 | _::_,[],_,_,hr,_=>by cases hr
theorem R7{w:World}:∀ {vs:List TV} {xs:List Value} {fp:List Nat},HC w vs xs fp->FX w vs (if h:xs.toArray.size=1 then xs.toArray[0] else .tuple xs.toArray) fp
 | [],[],fp,h=>⟨[],by simp,h⟩
 | [v],[x],fp,h=>by
  obtain⟨f1,f2,rfl,h1,h2⟩:=h;have h2:f2=[]:=h2;subst h2;simpa [FX] using h1
 | v::u::r,x::y::z,fp,h=>⟨x::y::z,by simp,h⟩
 | [],_::_,_,h=>h.elim
 | _::_,[],_,h=>h.elim
 | [_],_::_::_,_,h=>by obtain⟨_,_,_,_,h⟩:=h;exact h.elim
 | _::_::_,[_],_,h=>by obtain⟨_,_,_,_,h⟩:=h;exact h.elim
theorem kq:∀ {us:List TV} {id:Nat} {p:Nat×av},p∈bL id us->id<=p.1/\p.1<id+us.length
 | [],id,p,h=>by cases h
 | u::us,id,p,h=>by
  rcases a8X.1 h with h|h
  .have:=Mg h;simp only[a9f];omega
  .have:=kq h;simp only[a9f];omega
theorem vG:∀ {us:List TV} {id:Nat},((bL id us).map (·.1)).Nodup
 | [],id=>b0c
 | u::us,id=>by
  simp only[bL,b0p];refine dL ?_ vG λ x hx uP=>?_
  .obtain⟨τ,y⟩:=u;cases τ<;>simp[eU]
  .obtain⟨p,hp,rfl⟩:=a9b.1 hx;obtain⟨q,hq,e⟩:=a9b.1 uP;have h1:=Mg hp;have h2:=kq hq;omega
theorem YP(v:TV):v.cells.length<=100:=by
 obtain⟨τ,y⟩:=v;cases τ with
 | st s =>
  show (s.cells y).length<=100;rw[aG.fF];exact Ty.size_le (.st s)
 | _=>exact Nat.succ_le_of_lt (Nat.zero_lt_of_lt (by decide:0<100))
theorem x9{c:Ctx}{a:Act}{w:World}{S:Nat->Prop}(hR:∀ j,c.R j=none):∀ {Z9:List Arg} {xs:List Value} {fp:List Nat} {p:Nat} {G:Gh} {s:ag},Inv c G s a w->qW P w S Z9 xs fp->fp.Nodup->Fr c G s.af w fp ->
  (∀ i x,xs[i]?=some x->a.tmps.getD (p+i) undef=x)->p+Z9.length<=s.aw.length->(∀ id o,s.af id=some o->id<1000000+100 * p)->∃ G',Inv c G' (qf p Z9 s) a w
 | [],xs,fp,p,G,s,h,_,_,_,_,_,_=>⟨G,h⟩
 | b::Z9,[],fp,p,G,s,h,hA,_,_,_,_,_=>hA.elim
 | b::Z9,x::xs,fp,p,G,s,h,hA,dj,hF,hx,hlen,aS=>by
  obtain⟨f1,f2,rfl,hb,hA⟩:=hA;rw[a9s] at dj;obtain⟨n1,n2,n3⟩:=dj;simp only[a9f] at hlen;have uP:∀ i y,xs[i]?=some y->a.tmps.getD (p+1+i) undef=y:=λ i y hi=>by
   have:=hx (i+1) y (by simpa using hi);rwa [show p+(i+1)=p+1+i by omega] at this
  have other:f1=[]->qf p (b::Z9) s=qf (p+1) Z9 s->∃ G',Inv c G' (qf p (b::Z9) s) a w:=λ hf e=>by
   subst hf;rw[e];exact x9 hR h hA n2 (λ q hq=>hF q (by simp[hq])) uP (by omega) λ id o ho=>by have:=aS id o ho;omega
  cases b with
  | own v =>
   have hO:BN w v x f1:=hb;obtain⟨G1,G8,l1,i1,e1,t1,WD⟩:=bd.Sv (id:=1000000+100 * p) h hO n1 (λ q hq=>hF q (by simp[hq]))
    (λ q hq=>by
     cases uN:s.af q.1 with
     | none=>rfl
     | some o=>have h1:=aS _ o uN;have h2:=kq hq;omega) vG (λ j _=>hR j)
   have bS:ag.af { aw:=s.aw.set p (hU (1000000+100 * p) v),aH:=bL (1000000+100 * p) v.cells++s.aH }=G8:=by
    funext i;rw[l1 i];exact nA _ _ i
   have hI:Inv c G1 { aw:=s.aw.set p (hU (1000000+100 * p) v),aH:=bL (1000000+100 * p) v.cells++s.aH } a w:=by
    unfold Inv;rw[bS,show ag.sl { aw:=s.aw.set p (hU (1000000+100 * p) v),aH:=bL (1000000+100 * p) v.cells++s.aH }=iO s.aw.length s.sl (some p) (hU (1000000+100 * p) v) from oI s.aw p _ _,
     show ({ aw:=s.aw.set p (hU (1000000+100 * p) v),aH:=bL (1000000+100 * p) v.cells++s.aH }:ag).aw.length=s.aw.length from by simp]
    exact { i1 with
     aw:=λ i=>by
      unfold iO;split
      .rename_i hi;obtain⟨e,_⟩:=hi;simp only[a8V] at e;subst e;rw[show a.tmps.getD p undef=x from hx 0 x rfl];exact t1.ft
      .exact i1.aw i }
   obtain⟨G2,h2⟩:=x9 hR hI hA n2 (by
    rw[bS];exact WD f2 (λ q hq=>hF q (by simp[hq])) λ q hq U4=>n3 q U4 q hq rfl) uP (by simp;omega) (λ id o ho=>by
     rw[bS,l1 id] at ho;unfold fQ at ho;split at ho
     .rename_i o' cE;have h1:=kq (fi cE);have h2:=YP v;simp only at h1;omega
     .have:=aS id o ho;omega)
   exact⟨G2,h2⟩
  | val v=>exact other hb.1 rfl
  | ref v=>exact other hb.1 rfl
  | fn v=>exact other hb.1 rfl
  | cN v=>exact other hb.1 rfl
  | box k=>exact other hb.1 rfl
theorem qW.sC{w:World}{S:Nat->Prop}:∀ {Z9:List Arg} {xs:List Value} {fp:List Nat},qW P w S Z9 xs fp->aM (ZW P w S) Z9 xs
 | [],[],_,_=>trivial
 | a::Z9,x::xs,_,h=>by
  obtain⟨f1,f2,_,h1,h2⟩:=h;refine⟨?_,qW.sC h2⟩;cases a with
  | own v=>trivial
  | box k=>exact h1.2.elim
  | _=>exact h1.2
 | [],_::_,_,h=>h.elim
 | _::_,[],_,h=>h.elim
theorem VZ{w:World}{S:Nat->Prop}(hS:jf w S){fn:Func}{args:List Arg}{bV:List Value}{fa:List Nat}(ha:qW P w S args bV fa)(L9:fa=[]\/∀ a∈args,a.Hq=true)(dj:fa.Nodup)(Al:∀ b∈fa,b<w.heap.size/\¬ S b) :
  ∃ G,Inv ⟨P,E,w,λ b=>b∈fa,S,λ _=>none,λ _=>False,λ _=>none⟩ G (NT fn args) { tmps:=bV.toArray++Array.replicate (fn.ntmps - bV.toArray.size) undef,defers:=[] } w:=by
 have h0:=Mq (P:=P) (E:=E) (fn:=fn) hS (X:=λ b=>b∈fa) Al ha.sC (L9.imp_left λ e b hb=>by rw[e] at hb;cases hb);have hlen:=ha.sC.length;refine x9 (S:=S) (λ _=>rfl) h0 ha dj (λ b hb=>⟨.inr hb,(Al b hb).2,(Al b hb).1,λ i o h=>(by cases h),λ j τ xs h=>by cases h⟩) (λ i x hi=>?_) (by simp[dB]<;>omega) (λ id o h=>by cases h);rw[Nat.zero_add,Array.getD_eq_getD_getElem?,Array.getElem?_append_left (by simpa using (List.getElem?_eq_some_iff.1 hi).1)];simp[hi]
theorem QO(hE:bn P E)(gV:P.follows .mixedOrders=true){f:FuncId}{fn:Func}{O:Code}(hf:P.funcs[f]?=some fn)(hb:fn.body=some O)(Λ:Nat->aJ){args:List Arg}{res:List TV}{post:List TV->Prop}(Pa:∀ vs,post vs->vs=res)
  (h:tT E O Λ 0 (DK E fn post) (NT fn args)):xx P f args res:=by
 intro w S bV fa hS ha L9 rK Al;refine b3x hf hb ?_;obtain⟨G0,hinv⟩:=VZ (P:=P) (E:=E) (fn:=fn) hS ha L9 rK Al;refine b2x (fN (c:=⟨P,E,w,λ b=>b∈fa,S,λ _=>none,λ _=>False,λ _=>none⟩) hE gV O Λ 0 _ _ _ _ w hinv h) ?_;have fin:∀ (e:Exit) (a:Act) (w':World),(e = .normal\/e = .ret)->(∃ G s,Inv ⟨P,E,w,λ b=>b∈fa,S,λ _=>none,λ _=>False,λ _=>none⟩ G s a w'/\DK E fn post e s) ->
   a.defers=[]/\∃ v,(results fn a.tmps).run P w' = .ok v w'/\∃ x fp,Ending.returned v = .returned x/\bI (λ b=>b∈fa) w w'/\FX w' res x fp/\fp.Nodup/\∀ b∈fp,b∈fa\/(w.heap.size<=b/\b<w'.heap.size):=by
  rintro e a w' he ⟨G,s,hI,hp⟩;have Tj:∃ vs ids,qT E s fn.results.toList fn.resultTypes.toList=some (vs,ids)/\ids.Nodup/\vs=res:=by
   rcases he with rfl|rfl <;>
   .simp only[DK] at hp;split at hp
    .rename_i vs ids xT;split at hp
     .rename_i hn;exact⟨vs,ids,xT,cX hn,Pa vs hp⟩
     .exact hp.elim
    .exact hp.elim
  obtain⟨vs,ids,xT,hn,rfl⟩:=Tj;obtain⟨xs,fp,h1,h2,h3,h4⟩:=AX (P:=P) (E:=E) (c:=⟨P,E,w,λ b=>b∈fa,S,λ _=>none,λ _=>False,λ _=>none⟩) hE rfl rfl hI xT hn;refine⟨hI.defers,(if h:xs.toArray.size=1 then xs.toArray[0] else .tuple xs.toArray),?_,_,fp,rfl,hI.aL,R7 h2,h3,λ b hb=>?_⟩
  .rw[qP,b0U];simp only[a9r,b2l,h1];rfl
  .obtain⟨id,hi,hq⟩:=h4 b hb;rcases hq with ⟨τ,ys,q1,q2⟩|⟨e',τ,ys,q1,q2⟩
   .obtain⟨p1,_,p3,_⟩:=hI.aO.pl id τ ys b q1 q2;exact p1.elim (λ q => .inr ⟨q,p3⟩) .inl
   .obtain⟨p1,_,p3⟩:=hI.place id _ b q1 q2;exact p1.elim (λ q => .inr ⟨q,p3⟩) .inl
 intro e a w' hq;cases e with
 | normal=>exact fin .normal a w' (.inl rfl) hq
 | ret=>exact fin .ret a w' (.inr rfl) hq
 | exit i=>obtain⟨_,_,_,hp⟩:=hq;exact hp.elim
 | goto l=>obtain⟨_,_,_,hp⟩:=hq;exact hp.elim
 | panic ch=>obtain⟨_,_,_,hp⟩:=hq;exact hp.elim
 | outgrown=>obtain⟨_,_,_,hp⟩:=hq;exact hp.elim
end
def kf:List CK->List TV->Nat->List AV
 | .d _::ks,v::ds,n => .aN v::kf ks ds n
 | .o _::ks,v::ds,n=>jn n v::kf ks ds (n+1)
 | .p j::ks,ds,n => .ptr (400000+j) 0::kf ks ds n
 | _,_,_=>[]
def ke:Nat->List (List CK)->List (List TV)->Nat->List (Nat×av)
 | k,ks::sh,ds::bu,n=>(400000+k, .box (kf ks ds n))::ke (k+1) sh bu (n+(dt ks ds).length)
 | _,_,_,_=>[]
def iV:List (List CK)->List (List TV)->List TV
 | ks::sh,ds::bu=>dt ks ds++iV sh bu
 | _,_=>[]
def Sz:Arg->AV
 | .box k => .ptr (400000+k) 0
 | a=>N9 a
def dK(fn:Func)(args:List Arg)(sh:List (List CK))(bu:List (List TV)):ag :=
 { aw:=args.map Sz++List.replicate (fn.ntmps - args.length) .any,aH:=ke 0 sh bu 1000000++bL 1000000 (iV sh bu) }
def idM(n:Nat):List (Nat×Nat):=(List.range n).map λ k=>(k,400000+k)
def Ek(E:Env)(fn:Func)(sh:List (List CK))(post:List TV->List (List TV)->Prop)(e:Exit)(s:ag):Prop :=
 match e with
 | .ret | .normal=>match qT E s fn.results.toList fn.resultTypes.toList with
  | some (vs,ids)=>match gS s.af sh 0 (idM sh.length) with
   | some (bu,Da,m)=>match nodupB (ids++Da)&&Nat.beq m.length sh.length with
    | true=>post vs bu
    | false=>False
   | none=>False
  | none=>False
 | _=>False
theorem Zo:∀ (n:Nat) (k:Nat),af (idM n) k=if k<n then some (400000+k) else none:=by
 intro n k;have key:∀ (l:List Nat),l.Nodup->af (l.map λ k=>(k,400000+k)) k=if k∈l then some (400000+k) else none:=by
  intro l;induction l with
  | nil=>intro _;rfl
  | cons j l ih =>
   intro hn;simp only[a9z] at hn;rw[a9x,nC,ih hn.2];by_cases hk:k=j
   .subst hk;simp
   .simp[hk]
 rw[idM,key _ b1U];simp
section
variable {P:Program} {E:Env}
theorem Rz{w:World}{S:Nat->Prop}{B:Nat->Nat}:∀ {sh:List (List CK)} {k:Nat} {bu:List (List TV)} {n:Nat} {fa:List Nat},eO w S B k sh bu fa ->
  ∃ xs,cV w ((iV sh bu).map TV.aE) xs fa/\(∀ u∈iV sh bu,u.τ.agg=false) /\
   ∀ p∈ke k sh bu n,∃ j cs l t,p=(400000+j, .box cs)/\k<=j/\j<k+sh.length/\w.heap[B j]?=some (.cells l.toArray t (0,0))/\l.length=cs.length /\
    ∀ (c:Ctx) (G:Gh) (lk:Nat->Option av) (N:Nat),(∀ b,S b->G.S b)->(∀ j,j<N->G.η (400000+j) = .pointer (some ⟨B j,0,none⟩)/\fw (lk (400000+j))=true)->(∀ ks∈sh,∀ j,CK.p j∈ks->j<N) ->
     aM (C1 c G lk w) (bT n (iV sh bu)) xs->aM (C1 c G lk w) cs l
 | [],k,[],n,fa,h=>⟨[],⟨rfl,h⟩,by simp[iV],by simp[ke]⟩
 | ks::sh,k,ds::bu,n,fa,h=>by
  obtain⟨l,t,f1,f2,rfl,hw,hB,hbs⟩:=h;obtain⟨xs,q1,q2,q3⟩:=Rz (n:=n+(dt ks ds).length) hbs;obtain⟨o1,o2,o3⟩:=hB.sW;have hlen:∀ (us:List TV) (n:Nat),(bT n us).length=us.length:=λ us=>by
   induction us with
   | nil=>intro n;rfl
   | cons u us ih=>intro n;simp[bT,ih]
  have uI:∀ {ks:List CK} {ds:List TV} {l:List Value} {fp:List Nat} {n:Nat},gU w S B ks ds l fp->l.length=(kf ks ds n).length:=by
   intro ks;induction ks with
   | nil=>intro ds l fp n h;cases ds<;>cases l<;>first|rfl|cases h
   | cons k0 ks ih =>
    intro ds l fp n h;cases l with
    | nil=>cases k0<;>cases ds<;>cases h
    | cons x l =>
     cases k0 with
     | d τ =>
      cases ds with
      | nil=>cases h
      | cons v ds=>simp[kf,ih h.2 (n:=n)]
     | o τ =>
      cases ds with
      | nil=>cases h
      | cons v ds=>obtain⟨_,_,_,_,h2⟩:=h;simp[kf,ih h2 (n:=n+1)]
     | p j =>
      have h:x = .pointer (some ⟨B j,0,none⟩)/\gU w S B ks ds l fp:=by cases ds<;>exact h
      simp[kf,ih h.2 (n:=n)]
  have Kw:∀ (c:Ctx) (G:Gh) (lk:Nat->Option av) (N:Nat),(∀ b,S b->G.S b)->(∀ j,j<N->G.η (400000+j) = .pointer (some ⟨B j,0,none⟩)/\fw (lk (400000+j))=true) ->
    ∀ {ks:List CK} {ds:List TV} {l:List Value} {fp:List Nat} {n:Nat},gU w S B ks ds l fp->(∀ j,CK.p j∈ks->j<N)->aM (C1 c G lk w) (bT n (dt ks ds)) (jB ks l)->aM (C1 c G lk w) (kf ks ds n) l:=by
   intro c G lk N hS hN ks;induction ks with
   | nil=>intro ds l fp n h _ _;cases ds<;>cases l<;>first|exact trivial|cases h
   | cons k0 ks ih =>
    intro ds l fp n h hp hc;cases l with
    | nil=>cases k0<;>cases ds<;>cases h
    | cons x l =>
     cases k0 with
     | d τ =>
      cases ds with
      | nil=>cases h
      | cons v ds =>
       obtain⟨⟨e,h1,h2⟩,h3⟩:=h;exact⟨⟨by rw[e];exact h1,Rd.aL hS (λ _ _=>rfl) _ h2⟩,ih h3 (λ j hj=>hp j (by simp[hj])) hc⟩
     | o τ =>
      cases ds with
      | nil=>cases h
      | cons v ds =>
       obtain⟨_,_,_,_,h2⟩:=h;exact⟨hc.1,ih h2 (λ j hj=>hp j (by simp[hj])) hc.2⟩
     | p j =>
      have h:x = .pointer (some ⟨B j,0,none⟩)/\gU w S B ks ds l fp:=by cases ds<;>exact h
      have hc:aM (C1 c G lk w) (bT n (dt ks ds)) (jB ks l):=by cases ds<;>exact hc
      obtain⟨g1,g2⟩:=hN j (hp j (by simp));have r:=ih h.2 (λ j hj=>hp j (by simp[hj])) hc;show aM _ (AV.ptr (400000+j) 0::kf ks ds n) (x::l);exact⟨⟨B j,g1,h.1,g2⟩,r⟩
  refine⟨jB ks l++xs,by rw[iV,b0p];exact o1.append q1,λ u hu=>(a8X.1 hu).elim (o2 u) (q2 u),λ p hp=>?_⟩;have IV:∀ {c:Ctx} {G':Gh} {lk':Nat->Option av},aM (C1 c G' lk' w) (bT n (iV (ks::sh) (ds::bu))) (jB ks l++xs)->aM (C1 c G' lk' w) (bT n (dt ks ds)) (jB ks l)/\aM (C1 c G' lk' w) (bT (n+(dt ks ds).length) (iV sh bu)) xs:=λ {c G' lk'} q=>by
   rw[iV,pZ] at q;have hl:(bT n (dt ks ds)).length=(jB ks l).length:=by rw[<-o3];exact hlen _ _
   have h1:=q.take (bT n (dt ks ds)).length;have h2:=q.drop (bT n (dt ks ds)).length;rw[b0Z,hl,b0Z] at h1;rw[b1l,hl,b1l] at h2;exact⟨h1,h2⟩
  rcases a9k.1 hp with rfl|hp
  .exact⟨k,kf ks ds n,l,t,rfl,a9n _,by simp,hw,uI hB,λ c G lk N h1 h2 h3 h4=>Kw c G lk N h1 h2 hB (h3 ks (by simp)) (IV h4).1⟩
  .obtain⟨j,cs,l',t',g1,g2,g3,g4,g5,g6⟩:=q3 p hp;exact⟨j,cs,l',t',g1,by omega,by simp;omega,g4,g5,λ c G lk N h1 h2 h3 h4=>g6 c G lk N h1 h2 (λ ks' hk=>h3 ks' (by simp[hk])) (IV h4).2⟩
 | [],_,_::_,_,_,h=>h.elim
 | _::_,_,[],_,_,h=>h.elim
def Qm(sh:List (List CK)):Bool:=Nat.blt sh.length 1000&&sh.all λ ks=>ks.all λ c=>match c with
 | .p j=>Nat.blt j sh.length
 | _=>true
theorem Qn{sh:List (List CK)}(h:Qm sh=true):∀ ks∈sh,∀ j,CK.p j∈ks->j<sh.length:=λ ks hk j hj=>by
 unfold Qm at h;rw[Bool.and_eq_true] at h;obtain⟨_,h⟩:=h;rw[List.all_eq_true] at h;have h2:=h ks hk;rw[List.all_eq_true] at h2;exact Nat.le_of_ble_eq_true (h2 _ hj)
theorem gU.congr{w:World}{S:Nat->Prop}{B B':Nat->Nat}{N:Nat}(hB:∀ j,j<N->B j=B' j):∀ {ks:List CK} {ds:List TV} {l:List Value} {fp:List Nat},(∀ j,CK.p j∈ks->j<N)->gU w S B ks ds l fp->gU w S B' ks ds l fp:=by
 intro ks;induction ks with
 | nil=>intro ds l fp _ h;cases ds<;>cases l<;>exact h
 | cons k0 ks ih =>
  intro ds l fp hp h;cases l with
  | nil=>cases k0<;>cases ds<;>cases h
  | cons x l =>
   cases k0 with
   | d τ =>
    cases ds with
    | nil=>cases h
    | cons v ds=>exact⟨h.1,ih (λ j hj=>hp j (by simp[hj])) h.2⟩
   | o τ =>
    cases ds with
    | nil=>cases h
    | cons v ds =>
     obtain⟨f1,f2,e,h1,h2⟩:=h;exact⟨f1,f2,e,h1,ih (λ j hj=>hp j (by simp[hj])) h2⟩
   | p j =>
    have h:x = .pointer (some ⟨B j,0,none⟩)/\gU w S B ks ds l fp:=by cases ds<;>exact h
    have r:=ih (λ j hj=>hp j (by simp[hj])) h.2;have e:x = .pointer (some ⟨B' j,0,none⟩):=by rw[h.1,hB j (hp j (by simp))]
    cases ds<;>exact⟨e,r⟩
theorem eO.congr{w:World}{S:Nat->Prop}{B B':Nat->Nat}{N:Nat}(hB:∀ j,j<N->B j=B' j):∀ {sh:List (List CK)} {k:Nat} {bu:List (List TV)} {fa:List Nat},k+sh.length<=N->(∀ ks∈sh,∀ j,CK.p j∈ks->j<N)->eO w S B k sh bu fa->eO w S B' k sh bu fa
 | [],k,bu,fa,_,_,h=>by cases bu<;>exact h
 | ks::sh,k,[],fa,_,_,h=>h.elim
 | ks::sh,k,ds::bu,fa,hk,hp,h=>by
  obtain⟨l,t,f1,f2,e,h1,h2,h3⟩:=h;simp only[a9f] at hk;exact⟨l,t,f1,f2,e,by rw[<-hB k (by omega)];exact h1,h2.congr hB (hp ks (by simp)),eO.congr hB (by omega) (λ ks' eK=>hp ks' (by simp[eK])) h3⟩
theorem Ft:∀ {sh:List (List CK)} {k:Nat} {bu:List (List TV)} {n:Nat} {j:Nat},sh.length=bu.length->k<=j->j<k+sh.length->∃ cs,af (ke k sh bu n) (400000+j)=some (.box cs)
 | [],k,bu,n,j,_,h1,h2=>by simp at h2;omega
 | ks::sh,k,[],n,j,hl,_,_=>by simp at hl
 | ks::sh,k,ds::bu,n,j,hl,h1,h2=>by
  rw[ke,nC];by_cases hj:j=k
  .subst hj;exact⟨_,a9l rfl⟩
  .rw[if_neg (by omega)];exact Ft (by simpa using hl) (by omega) (by simp at h2;omega)
theorem eO.len{w:World}{S:Nat->Prop}{B:Nat->Nat}:∀ {sh:List (List CK)} {k:Nat} {bu:List (List TV)} {fa:List Nat},eO w S B k sh bu fa->sh.length=bu.length
 | [],_,[],_,_=>rfl
 | [],_,_::_,_,h=>h.elim
 | _::_,_,[],_,h=>h.elim
 | ks::sh,k,ds::bu,fa,h=>by
  obtain⟨l,t,f1,f2,e,h1,h2,h3⟩:=h;simp[eO.len h3]
theorem Ub{w:World}{S:Nat->Prop}{B:Nat->Nat}{fn:Func}{args:List Arg}{bV:List Value}{sh:List (List CK)}{bu:List (List TV)}{fa:List Nat}(B4:Qm sh=true)(hS:jf w S)(OX:eO w S B 0 sh bu fa)(L6:fa.Nodup)
  (Al:∀ b∈fa,b<w.heap.size/\¬ S b/\∀ k,k<sh.length->B k≠b) (hB:∀ k,k<sh.length->B k<w.heap.size/\¬ S (B k)) (Bh:∀ j k,j<sh.length->k<sh.length->B j=B k->j=k) (ha:aM (Rl P w S (BX sh.length B fa) B) args bV)
  (C2:∀ k,Arg.box k∈args->k<sh.length) :
  ∃ G,Inv ⟨P,E,w,BX sh.length B fa,S,λ _=>none,λ _=>False,λ id=>if 400000<=id/\id<400000+sh.length then some (B (id - 400000)) else none⟩ G (dK fn args sh bu) { tmps:=bV.toArray++Array.replicate (fn.ntmps - bV.toArray.size) undef,defers:=[] } w:=by
 have hlen:=ha.length;let c1:Ctx:=⟨P,E,w,λ b=>b∈fa,S,λ _=>none,λ _=>False,λ _=>none⟩;have h0:bd c1 ⟨S,λ _=>undef,λ _=>[]⟩ (λ _ => .any) (dK fn args sh bu).aw.length (λ _=>none) { tmps:=bV.toArray++Array.replicate (fn.ntmps - bV.toArray.size) undef,defers:=[] } w:={
  defers:=rfl
  size:=by simp[dK,hlen]
  aL:=bI.refl _ _
  jE:=⟨λ b h=>(Al b h).1,λ g hg=>⟨(hS.2 g hg).1,λ q=>(Al g q).2.1 (hS.2 g hg).1,hS.1 g (hS.2 g hg).1,(hS.2 g hg).2⟩⟩
  ej:=λ b _ _=>b0X
  sX:=λ b hs=>hs
  dI:=hS.1
  aw:=λ i=>trivial
  aH:=λ id o h=>by cases h
  place:=λ id o b h=>by cases h
  apart:=λ id dm o o' b h=>by cases h
  aO:=⟨(λ id τ xs h=>by cases h),(λ id τ xs h=>by cases h),(λ id τ xs b h=>by cases h),(λ id dm τ aT xs cM b h=>by cases h)⟩
  root:=λ id v h=>by cases h
  gX:=λ id v h=>by cases h
  dq:=λ id v h=>by cases h
  eF:=λ id v h=>by cases h }
 obtain⟨xs,o1,o2,o3⟩:=Rz (n:=1000000) OX;have a8Q:sh.length<1000:=by
  unfold Qm at B4;rw[Bool.and_eq_true] at B4;exact Nat.le_of_ble_eq_true B4.1
 have Y1:Fr c1 ⟨S,λ _=>undef,λ _=>[]⟩ (λ _=>none) w fa:=λ b hb=>⟨.inr hb,(Al b hb).2.1,(Al b hb).1,(λ i o h=>by cases h),(λ j τ xs h=>by cases h)⟩;obtain⟨G1,G8,k1,k2,k3,k4,_⟩:=h0.yf (us:=iV sh bu) (cs:=xs) (id:=1000000) o2 o1 L6 Y1 (λ p hp=>rfl) vG (λ j _=>rfl);have Yg:∀ i o,G8 i=some o->1000000<=i/\cP (some o)=true:=λ i o ho=>by
  rw[k1 i] at ho;unfold fQ at ho;split at ho
  .rename_i o' cE;simp only[a8V] at ho;subst ho;refine⟨(kq (fi cE)).1,?_⟩;have:∀ {us:List TV} {id:Nat} {p:Nat×av},p∈bL id us->cP (some p.2)=true:=by
    intro us;induction us with
    | nil=>intro id p hp;cases hp
    | cons u us ih =>
     intro id p hp;rcases a8X.1 hp with hp|hp
     .obtain⟨τ,y⟩:=u;cases τ<;>simp[eU] at hp;subst hp;rfl
     .exact ih hp
   exact this (fi cE)
  .cases ho
 have S9:∀ i o,G8 i=some o->dk (G1.η i)=none:=λ i o ho=>by
  obtain⟨_,ht⟩:=Yg i o ho;match o,ht with
  | .aC τ ys,_ =>
   obtain⟨v,l,_,_,q,_⟩:=k2.aO.tr i τ ys ho;rw[q];rfl
 let G2:Gh:=⟨S,λ i=>if 400000<=i/\i<400000+sh.length then .pointer (some ⟨B (i - 400000),0,none⟩) else G1.η i,G1.φ⟩;have R2:∀ j,j<sh.length->G2.η (400000+j) = .pointer (some ⟨B j,0,none⟩):=λ j hj=>by
  show (if 400000<=400000+j/\400000+j<400000+sh.length then _ else _)=_;rw[a9l (by omega),b1r]
 have R1:∀ i,1000000<=i->G2.η i=G1.η i:=λ i hi=>a9c (by omega);have hGS:G1.S=S:=k3.S;have Kz:(dK fn args sh bu).af=λ i=>match af (ke 0 sh bu 1000000) i with
   | some o=>some o
   | none=>G8 i:=by
  funext i;show af (ke 0 sh bu 1000000++bL 1000000 (iV sh bu)) i=_;rw[nA];unfold fQ;cases af (ke 0 sh bu 1000000) i with
  | some o=>rfl
  | none =>
   simp only;rw[k1 i];unfold fQ;cases af (bL 1000000 (iV sh bu)) i<;>rfl
 have a6O:∀ j,j<sh.length->∃ cs,(dK fn args sh bu).af (400000+j)=some (.box cs):=λ j hj=>by
  obtain⟨cs,q⟩:=Ft (n:=1000000) OX.len (Nat.zero_le j) (by simpa using hj);exact⟨cs,by rw[Kz];simp only[q]⟩
 have uH:∀ i o,(dK fn args sh bu).af i=some o->(∃ j cs l t,i=400000+j/\j<sh.length/\o = .box cs/\w.heap[B j]?=some (.cells l.toArray t (0,0)) /\
   ∀ (c:Ctx) (G:Gh) (lk:Nat->Option av),(∀ b,S b->G.S b)->(∀ j,j<sh.length->G.η (400000+j) = .pointer (some ⟨B j,0,none⟩)/\fw (lk (400000+j))=true)->aM (C1 c G lk w) (bT 1000000 (iV sh bu)) xs->aM (C1 c G lk w) cs l) \/
   (G8 i=some o/\1000000<=i):=λ i o ho=>by
  rw[Kz] at ho;simp only at ho;cases hl:af (ke 0 sh bu 1000000) i with
  | some o' =>
   rw[hl] at ho;simp only[Option.some.injEq] at ho;subst ho;obtain⟨j,cs,l,t,q1,_,q2,q3,_,q4⟩:=o3 _ (eL hl);simp only[Prod.mk.injEq] at q1;obtain⟨rfl,rfl⟩:=q1;exact .inl ⟨j,cs,l,t,rfl,by simpa using q2,rfl,q3,λ c G lk h1 h2 h3=>q4 c G lk sh.length h1 h2 (Qn B4) h3⟩
  | none =>
   rw[hl] at ho;exact .inr ⟨ho,(Yg i o ho).1⟩
 have eY:∀ i,eb (G8 i) ((dK fn args sh bu).af i):=λ i=>by
  cases hl:G8 i with
  | none=>exact⟨(λ q=>by cases q),(λ e τ xs q=>by cases q),(λ q=>by cases q),λ q=>by cases q⟩
  | some o =>
   have:=(Yg i o hl).1;have hn:af (ke 0 sh bu 1000000) i=none:=qM λ p hp e=>by
    obtain⟨j,cs,l,t,q1,_,q2,_⟩:=o3 p hp;rw[q1] at e;simp only at e;omega
   rw[Kz];simp only[hn,hl];exact eb.refl _
 have a2U:aM (C1 ⟨P,E,w,BX sh.length B fa,S,λ _=>none,λ _=>False,λ id=>if 400000<=id/\id<400000+sh.length then some (B (id - 400000)) else none⟩ G2 (dK fn args sh bu).af w) (bT 1000000 (iV sh bu)) xs:=by
  have:∀ {us:List TV} {n:Nat} {xs:List Value},1000000<=n->aM (C1 c1 G1 G8 w) (bT n us) xs->aM (C1 ⟨P,E,w,BX sh.length B fa,S,λ _=>none,λ _=>False,λ id=>if 400000<=id/\id<400000+sh.length then some (B (id - 400000)) else none⟩ G2 (dK fn args sh bu).af w) (bT n us) xs:=by
   intro us;induction us with
   | nil=>intro n xs _ h;cases xs<;>exact h
   | cons u us ih =>
    intro n xs hn h;cases xs with
    | nil=>exact h.elim
    | cons x xs =>
     refine⟨?_,ih (by omega) h.2⟩;have h1:C1 c1 G1 G8 w (jn n u) x:=h.1;obtain⟨τ,y⟩:=u;have aN:C1 c1 G1 G8 w (.aN ⟨τ,y⟩) x->C1 ⟨P,E,w,BX sh.length B fa,S,λ _=>none,λ _=>False,λ id=>if 400000<=id/\id<400000+sh.length then some (B (id - 400000)) else none⟩ G2 (dK fn args sh bu).af w (.aN ⟨τ,y⟩) x:=λ q=>⟨q.1,Rd.aL (λ b hb=>by rw[hGS] at hb;exact hb) (λ _ _=>rfl) _ q.2⟩;cases τ with
     | slice τ =>
      obtain⟨g1,l,g2,g3⟩:=h1;exact⟨(eY n).2.2.1 g1,l,by rw[R1 n hn];exact g2,g3⟩
     | mv τ=>exact trivial
     | _=>exact aN h1
  exact this (a9n _) k4
 have hN:∀ j,j<sh.length->G2.η (400000+j) = .pointer (some ⟨B j,0,none⟩)/\fw ((dK fn args sh bu).af (400000+j))=true:=λ j hj=>by
  obtain⟨cs,q⟩:=a6O j hj;exact⟨R2 j hj,by rw[q];rfl⟩
 have Pe:∀ i τ xs,(dK fn args sh bu).af i=some (.aC τ xs)->G8 i=some (.aC τ xs)/\1000000<=i:=λ i τ ys hi=>by
  rcases uH i _ hi with ⟨_,_,_,_,_,_,q,_⟩|q
  .cases q
  .exact q
 refine⟨G2,?_⟩;exact {
  defers:=rfl
  size:=by simp[dK,hlen]
  aL:=bI.refl _ _
  jE:=⟨λ b hb=>hb.elim (λ q=>(Al b q).1) λ ⟨k,hk,e⟩=>(by rw[e];exact (hB k hk).1),λ g hg=>⟨(hS.2 g hg).1,λ q=>q.elim (λ q=>(Al g q).2.1 (hS.2 g hg).1) λ ⟨k,hk,e⟩=>(hB k hk).2 (e ▸ (hS.2 g hg).1),hS.1 g (hS.2 g hg).1,(hS.2 g hg).2⟩⟩
  ej:=λ b _ _=>b0X
  sX:=λ b hs=>hs
  dI:=hS.1
  aw:=λ i=>by
   have Pd:∀ v x,v∈args->Rl P w S (BX sh.length B fa) B v x->VR ⟨P,E,w,BX sh.length B fa,S,λ _=>none,λ _=>False,λ id=>if 400000<=id/\id<400000+sh.length then some (B (id - 400000)) else none⟩ G2 (dK fn args sh bu).af w (Sz v) x:=by
    intro v x hm h;cases v with
    | val v=>exact h
    | ref v =>
     obtain⟨b,o,cs,h1,h2,h3,h4,h5⟩:=h;exact⟨b,o,cs,h1, .inr ⟨h2,h3,λ z=>z⟩,h4,h5⟩
    | fn f=>exact h
    | cN v =>
     obtain⟨f,ei,l,h1,h2,h3⟩:=h;refine⟨f,ei,l,h1,h2,h3.imp λ u z _ hz=>?_⟩;cases u with
     | val v=>exact hz
     | ref v =>
      obtain⟨b,o,cs,h1,h2,h3,h4,h5⟩:=hz;exact⟨b,o,cs,h1, .inr ⟨h2,h3,λ z=>z⟩,h4,h5⟩
     | fn f=>exact hz
     | _=>exact hz.elim
    | own v=>exact h.elim
    | box k =>
     obtain⟨g1,g2⟩:=hN k (C2 k hm);exact⟨B k,g1,h,g2⟩
   have h1:aM (λ v x=>VR ⟨P,E,w,BX sh.length B fa,S,λ _=>none,λ _=>False,λ id=>if 400000<=id/\id<400000+sh.length then some (B (id - 400000)) else none⟩ G2 (dK fn args sh bu).af w v x) (args.map Sz) bV:=aM.dH _ (ha.imp λ v x hm h=>Pd v x hm h);have h2:=aM.getD (d:=AV.any) (e:=undef) (show VR ⟨P,E,w,BX sh.length B fa,S,λ _=>none,λ _=>False,λ id=>if 400000<=id/\id<400000+sh.length then some (B (id - 400000)) else none⟩ G2 (dK fn args sh bu).af w .any undef from trivial) (h1.we (a:=AV.any) (b:=undef) (show VR ⟨P,E,w,BX sh.length B fa,S,λ _=>none,λ _=>False,λ id=>if 400000<=id/\id<400000+sh.length then some (B (id - 400000)) else none⟩ G2 (dK fn args sh bu).af w .any undef from trivial) (fn.ntmps - args.length)) i;have e1:(dK fn args sh bu).sl i=(args.map Sz++List.replicate (fn.ntmps - args.length) AV.any).getD i AV.any:=rfl;have e2:(bV.toArray++Array.replicate (fn.ntmps - bV.toArray.size) undef).getD i undef=(bV++List.replicate (fn.ntmps - args.length) undef).getD i undef:=by
    rw[a9G,a9h,<-b2R];simp[hlen]
   rw[e1];show VR _ _ _ _ _ ((bV.toArray++Array.replicate (fn.ntmps - bV.toArray.size) undef).getD i undef);rw[e2];exact h2
  aH:=λ i o ho=>by
   rcases uH i o ho with ⟨j,cs,l,t,rfl,hj,rfl,q3,q4⟩|⟨q1,q2⟩
   .exact⟨B j,l,t,R2 j hj,q3,q4 _ G2 _ (λ b hb=>hb) hN a2U⟩
   .have:=(Yg i o q1).2;match o,this with
    | .aC τ ys,_=>trivial
  place:=λ i o b ho hb=>by
   rcases uH i o ho with ⟨j,cs,l,t,rfl,hj,rfl,q3,q4⟩|⟨q1,q2⟩
   .rw[R2 j hj] at hb;simp only[dk,a8V] at hb;subst hb;exact⟨.inr (.inr ⟨j,hj,rfl⟩),(hB j hj).2,(hB j hj).1⟩
   .rw[R1 i q2,S9 i o q1] at hb;cases hb
  apart:=λ i i' o o' b ho cE hb cm=>by
   rcases uH i o ho with ⟨j,cs,l,t,rfl,hj,rfl,q3,q4⟩|⟨q1,q2⟩
   .rcases uH i' o' cE with ⟨j',du,l',t',rfl,yK,rfl,_,_⟩|⟨g1,g2⟩
    .rw[R2 j hj] at hb;rw[R2 j' yK] at cm;simp only[dk,a8V] at hb cm;rw[Bh j j' hj yK (hb.trans cm.symm)]
    .rw[R1 i' g2,S9 i' o' g1] at cm;cases cm
   .rw[R1 i q2,S9 i o q1] at hb;cases hb
  aO:={
   tr:=λ i τ ys hi=>by
    obtain⟨q1,q2⟩:=Pe i τ ys hi;rw[R1 i q2];exact k2.aO.tr i τ ys q1
   nd:=λ i τ ys hi=>k2.aO.nd i τ ys (Pe i τ ys hi).1
   pl:=λ i τ ys b hi hb=>by
    obtain⟨q1,q2⟩:=Pe i τ ys hi;obtain⟨p1,p2,p3,p4⟩:=k2.aO.pl i τ ys b q1 hb;have QS:b∈fa:=p1.elim (λ q=>absurd p3 (Nat.not_lt.2 q)) id;refine⟨.inr (.inl QS),(Al b QS).2.1,p3,λ i' o' cE e=>?_⟩;rcases uH i' o' cE with ⟨j,cs,l,t,rfl,hj,rfl,_,_⟩|⟨g1,g2⟩
    .rw[R2 j hj] at e;simp only[dk,a8V] at e;exact (Al b QS).2.2 j hj e
    .rw[R1 i' g2,S9 i' o' g1] at e;cases e
   ap:=λ i i' τ aT ys ys' b hi gI=>k2.aO.ap i i' τ aT ys ys' b (Pe i τ ys hi).1 (Pe i' aT ys' gI).1 }
  root:=λ id v h=>by cases h
  gX:=λ id v h=>by cases h
  dq:=λ id b hr ht=>by
   simp only at hr;split at hr
   .rename_i hc;simp only[a8V] at hr;show (if 400000<=id/\id<400000+sh.length then _ else _)=_;rw[a9l hc,hr]
   .cases hr
  eF:=λ id b hr=>by
   simp only at hr;split at hr
   .rename_i hc;exact hc.1
   .cases hr }
theorem SZ(hE:bn P E)(gV:P.follows .mixedOrders=true){f:FuncId}{fn:Func}{O:Code}(hf:P.funcs[f]?=some fn)(hb:fn.body=some O)(Λ:Nat->aJ){args:List Arg}{sh:List (List CK)}{bu:List (List TV)}{res:List TV}{dw:List (List TV)}{post:List TV->List (List TV)->Prop}
  (Pa:∀ vs ds,post vs ds->vs=res/\ds=dw) (B4:Qm sh=true) (C2:∀ k,Arg.box k∈args->k<sh.length) (h:tT E O Λ 0 (Ek E fn sh post) (dK fn args sh bu)):HB P f sh args bu res dw:=by
 intro w S B bV fa hS OX L6 Al hB Bh ha;refine b3x hf hb ?_;obtain⟨G0,hinv⟩:=Ub (P:=P) (E:=E) (fn:=fn) B4 hS OX L6 Al hB Bh ha C2;generalize hc:(⟨P,E,w,BX sh.length B fa,S,λ _=>none,λ _=>False,λ id=>if 400000<=id/\id<400000+sh.length then some (B (id - 400000)) else none⟩:Ctx)=c at *
 have Td:c.P=P:=by rw[<-hc]
 have US:c.E=E:=by rw[<-hc]
 have hcw:c.w0=w:=by rw[<-hc]
 have hcX:c.X=BX sh.length B fa:=by rw[<-hc]
 have hcS:c.S0=S:=by rw[<-hc]
 have hcB:∀ j,j<sh.length->c.RB (400000+j)=some (B j):=λ j hj=>by
  rw[<-hc];show (if 400000<=400000+j/\400000+j<400000+sh.length then _ else _)=_;rw[a9l (by omega),b1r]
 have hE':bn c.P c.E:=by rw[Td,US];exact hE
 have cz:=fN (c:=c) hE' (by rw[Td];exact gV) O Λ 0 (Ek E fn sh post) G0 (dK fn args sh bu) _ w hinv (by rw[US];exact h);rw[Td] at cz;refine b2x cz ?_;have fin:∀ (e:Exit) (a:Act) (w':World),(e = .normal\/e = .ret)->(∃ G s,Inv c G s a w'/\Ek E fn sh post e s) ->
   a.defers=[]/\∃ v,(results fn a.tmps).run P w' = .ok v w'/\∃ x S' fp Gr,Ending.returned v = .returned x/\bI (BX sh.length B fa) w w'/\(∀ b,S b->S' b)/\(∀ b,S' b->b<w'.heap.size)/\(∀ b,b<w.heap.size->¬ BX sh.length B fa b->(S' b↔S b)) /\
    FX w' res x fp/\eO w' S' B 0 sh dw Gr/\(fp++Gr).Nodup/\(∀ b∈fp++Gr,(b∈fa\/(w.heap.size<=b/\b<w'.heap.size))/\¬ S' b/\∀ k,k<sh.length->B k≠b)/\∀ k,k<sh.length->¬ S' (B k):=by
  rintro e a w' he ⟨G,s,hI,hp⟩;have Tj:∃ vs ids ds Da m,qT E s fn.results.toList fn.resultTypes.toList=some (vs,ids)/\gS s.af sh 0 (idM sh.length)=some (ds,Da,m)/\(ids++Da).Nodup/\vs=res/\ds=dw:=by
   rcases he with rfl|rfl <;>
   .simp only[Ek] at hp;split at hp
    .rename_i vs ids xT;split at hp
     .rename_i ds Da m Ky;split at hp
      .rename_i hn;rw[a9e] at hn;obtain⟨q1,q2⟩:=Pa _ _ hp;exact⟨vs,ids,ds,Da,m,xT,Ky,cX hn.1,q1,q2⟩
      .exact hp.elim
     .exact hp.elim
    .exact hp.elim
  obtain⟨vs,ids,ds,Da,m,xT,Ky,hn,rfl,rfl⟩:=Tj;rw[a9s] at hn;obtain⟨n1,n2,n3⟩:=hn;obtain⟨xs,fp,h1,h2,h3,h4⟩:=AX (P:=P) (E:=E) (c:=c) hE' Td US hI xT n1;obtain⟨x0,Ta,Gr,a6B,a5m,a4f⟩:=sB hI Ky n2;have Yd:∀ k,k<sh.length->∃ cs,s.af (400000+k)=some (.box cs)/\G.η (400000+k) = .pointer (some ⟨B k,0,none⟩)/\af m k=some (400000+k):=λ k hk=>by
   obtain⟨id,cs,q1,q2⟩:=Ta k (Nat.zero_le _) (by simpa using hk);have q3:=x0 k (400000+k) (by rw[Zo,if_pos hk]);rw[q3] at q1;simp only[Option.some.injEq] at q1;subst q1;exact⟨cs,q2,hI.dq _ _ (hcB k hk) (by rw[q2];rfl),q3⟩
  have hbo:∀ k,k<sh.length->jw G m k=B k:=λ k hk=>by
   obtain⟨cs,_,q2,q3⟩:=Yd k hk;simp only[jw,q3,q2];rfl
  have a6C:=eO.congr (N:=sh.length) hbo (by omega) (Qn B4) (a6B m (jF.refl m));have gJ:bI (BX sh.length B fa) w w':=by
   have:=hI.aL;rwa [hcX,hcw] at this
  have fe:∀ ids b,tH G s.af ids b->(b∈fa\/(w.heap.size<=b/\b<w'.heap.size))/\¬ G.S b/\∀ k,k<sh.length->B k≠b:=λ ids b hb=>by
   obtain⟨id,hi,hq⟩:=hb;have hp:(c.w0.heap.size<=b\/c.X b)/\¬ G.S b/\b<w'.heap.size/\∀ k,k<sh.length->B k≠b:=by
    rcases hq with ⟨τ,ys,q1,q2⟩|⟨e',τ,ys,q1,q2⟩
    .obtain⟨p1,p2,p3,p4⟩:=hI.aO.pl id τ ys b q1 q2;refine⟨p1,p2,p3,λ k hk e=>?_⟩;obtain⟨cs,g1,g2,_⟩:=Yd k hk;exact p4 _ _ g1 (by rw[g2,<-e];rfl)
    .obtain⟨p1,p2,p3⟩:=hI.place id _ b q1 q2;refine⟨p1,p2,p3,λ k hk e=>?_⟩;obtain⟨cs,g1,g2,_⟩:=Yd k hk;have:=hI.apart id _ _ _ b q1 g1 q2 (by rw[g2,<-e];rfl);subst this;rw[q1] at g1;cases g1
   obtain⟨p1,p2,p3,p4⟩:=hp;refine⟨?_,p2,p4⟩;rw[hcw,hcX] at p1;rcases p1 with p1|p1|⟨k,hk,e⟩
   .exact .inr ⟨p1,p3⟩
   .exact .inl p1
   .exact absurd e.symm (p4 k hk)
  refine⟨hI.defers,(if h:xs.toArray.size=1 then xs.toArray[0] else .tuple xs.toArray),?_,_,G.S,fp,Gr,rfl,gJ,?_,hI.dI,?_,R7 h2,a6C,?_,?_,?_⟩
  .rw[qP,b0U];simp only[a9r,b2l,h1];rfl
  .intro b hb;exact hI.sX b (by rw[hcS];exact hb)
  .intro b hb hx;have:=hI.ej b (by rw[hcw];exact hb) (by rw[hcX];exact hx);rwa [hcS] at this
  .exact dL h3 a5m λ b hb cm=>hI.gK (h4 b hb) (a4f b cm) λ x hx y hy=>n3 x hx y hy
  .intro b hb;rcases a8X.1 hb with hb|hb
   .exact fe ids b (h4 b hb)
   .exact fe Da b (a4f b hb)
  .intro k hk;obtain⟨cs,q1,q2,_⟩:=Yd k hk;exact (hI.place _ _ (B k) q1 (by rw[q2];rfl)).2.1
 intro e a w' hq;cases e with
 | normal=>exact fin .normal a w' (.inl rfl) hq
 | ret=>exact fin .ret a w' (.inr rfl) hq
 | exit i=>obtain⟨_,_,_,hp⟩:=hq;exact hp.elim
 | goto l=>obtain⟨_,_,_,hp⟩:=hq;exact hp.elim
 | panic ch=>obtain⟨_,_,_,hp⟩:=hq;exact hp.elim
 | outgrown=>obtain⟨_,_,_,hp⟩:=hq;exact hp.elim
end
def AZ:List (Nat×Ty×Nat×Nat) :=
 [(2,(.int .i64),0,0),
  (3,(.int .i64),0,0),
  (4, .bool,0,0),
  (5,(.int .u8),0,0),
  (9, .str,0,0),
  (12,(.int .u64),0,0),
  (22,(.slice (.int .u8)),1,5),
  (25,(.st .sig),0,0),
  (26,(.slice (.st .expr)),40,28),
  (28,(.st .expr),0,0),
  (38,(.slice (.slice .bool)),24,50),
  (39,(.slice (.slice (.slice (.int .i64)))),24,55),
  (41,(.st .automaton),0,0),
  (50,(.slice .bool),1,4),
  (54,(.slice (.int .i64)),8,2),
  (55,(.slice (.slice (.int .i64))),24,54),
  (57, .ptr,0,0),
  (80,(.slice .str),16,9),
  (97,(.int .u64),0,0),
  (99,(.st .l00Src),0,0),
  (103,(.st .l01Gen),0,0),
  (115,(.st .word),0,0),
  (134,(.int .u64),0,0),
  (146,(.slice (.st .reached)),40,150),
  (148,(.st .arr2),0,0),
  (150,(.st .reached),0,0)]
def NK:List (Nat×Ty) :=
 [(57,(.st .l00Src)),(64,(.st .expr)),(79,(.st .automaton)),(101,(.st .l01Gen)),(158,(.int .u8)),(161,(.slice (.st .expr))),(212,(.int .i64))]
def Je:List (Nat×Ty×Ty):=[(122, .str,(.int .i64)),(164, .str, .bool),(170,(.st .arr2), .bool)]
def zY:List Nat:=[25]
abbrev N1:Nat:=2
abbrev Nx:Nat:=4
abbrev zG:Nat:=22
abbrev eP:Nat:=28
abbrev YL:Nat:=50
abbrev N2:Nat:=54
abbrev HE:Nat:=55
noncomputable abbrev prog:Program:=Tryz.prog
def Eo(E:Env):((AZ.all λ r=>oM prog { E with ty:=AZ,TT:=NK,K3:=Je,cmp:=zY } r.1 r.2.1 r.2.2.1 r.2.2.2)&&Je.all λ r=>PN prog { E with ty:=AZ,TT:=NK,K3:=Je,cmp:=zY } r.1 r.2.1 r.2.2)=true:=by kernel_rfl
def Ov:zY.all (SI prog)=true:=by kernel_rfl
def xl:prog.follows .mixedOrders=true:=Checked.mixed Tryz.checked
def bh(f:Func):Code:=match f.body with
 | some c=>c
 | none => .skip
abbrev lW:Nat:=4
noncomputable abbrev lM:Func:=Tryz.f4
def qw:prog.funcs[lW]?=some lM:=Tryz.func4
def zP:lM.body=some (bh lM):=by kernel_rfl
abbrev Dz:Nat:=5
noncomputable abbrev uq:Func:=Tryz.f5
def A7:prog.funcs[Dz]?=some uq:=Tryz.func5
def HZ:uq.body=some (bh uq):=by kernel_rfl
abbrev DA:Nat:=10
noncomputable abbrev ur:Func:=Tryz.f10
def Ba:prog.funcs[DA]?=some ur:=Tryz.func10
def H0:ur.body=some (bh ur):=by kernel_rfl
abbrev zg:Nat:=11
noncomputable abbrev pA:Func:=Tryz.f11
def wq:prog.funcs[zg]?=some pA:=Tryz.func11
def EE:pA.body=some (bh pA):=by kernel_rfl
abbrev y8:Nat:=12
noncomputable abbrev pj:Func:=Tryz.f12
def wh:prog.funcs[y8]?=some pj:=Tryz.func12
def Ey:pj.body=some (bh pj):=by kernel_rfl
abbrev sR:Nat:=13
noncomputable abbrev lJ:Func:=Tryz.f13
def qu:prog.funcs[sR]?=some lJ:=Tryz.func13
def zM:lJ.body=some (bh lJ):=by kernel_rfl
abbrev oA:Nat:=14
noncomputable abbrev iS:Func:=Tryz.f14
def np:prog.funcs[oA]?=some iS:=Tryz.func14
def vQ:iS.body=some (bh iS):=by kernel_rfl
abbrev o8:Nat:=15
noncomputable abbrev jy:Func:=Tryz.f15
def nN:prog.funcs[o8]?=some jy:=Tryz.func15
def xC:jy.body=some (bh jy):=by kernel_rfl
abbrev o7:Nat:=16
noncomputable abbrev jx:Func:=Tryz.f16
def nM:prog.funcs[o7]?=some jx:=Tryz.func16
def xB:jx.body=some (bh jx):=by kernel_rfl
abbrev pc:Nat:=17
noncomputable abbrev jz:Func:=Tryz.f17
def nP:prog.funcs[pc]?=some jz:=Tryz.func17
def xD:jz.body=some (bh jz):=by kernel_rfl
abbrev Jh:Nat:=18
noncomputable abbrev Ac:Func:=Tryz.f18
def Ff:prog.funcs[Jh]?=some Ac:=Tryz.func18
def MC:Ac.body=some (bh Ac):=by kernel_rfl
abbrev xg:Nat:=19
noncomputable abbrev nY:Func:=Tryz.f19
def tR:prog.funcs[xg]?=some nY:=Tryz.func19
def Cv:nY.body=some (bh nY):=by kernel_rfl
abbrev Bw:Nat:=20
noncomputable abbrev rh:Func:=Tryz.f20
def yi:prog.funcs[Bw]?=some rh:=Tryz.func20
def F0:rh.body=some (bh rh):=by kernel_rfl
abbrev Ds:Nat:=21
noncomputable abbrev ug:Func:=Tryz.f21
def A1:prog.funcs[Ds]?=some ug:=Tryz.func21
def HS:ug.body=some (bh ug):=by kernel_rfl
abbrev ze:Nat:=22
noncomputable abbrev pz:Func:=Tryz.f22
def wo:prog.funcs[ze]?=some pz:=Tryz.func22
def ED:pz.body=some (bh pz):=by kernel_rfl
abbrev mN:Nat:=23
noncomputable abbrev MH:Func:=Tryz.f23
def J3:prog.funcs[mN]?=some MH:=Tryz.func23
abbrev sU:Nat:=24
noncomputable abbrev lO:Func:=Tryz.f24
def qy:prog.funcs[sU]?=some lO:=Tryz.func24
def zR:lO.body=some (bh lO):=by kernel_rfl
abbrev zj:Nat:=25
noncomputable abbrev pD:Func:=Tryz.f25
def wv:prog.funcs[zj]?=some pD:=Tryz.func25
def EI:pD.body=some (bh pD):=by kernel_rfl
abbrev vB:Nat:=26
noncomputable abbrev mS:Func:=Tryz.f26
def sD:prog.funcs[vB]?=some mS:=Tryz.func26
def BQ:mS.body=some (bh mS):=by kernel_rfl
abbrev mQ:Nat:=27
noncomputable abbrev rE:Func:=Tryz.f27
def kJ:prog.funcs[mQ]?=some rE:=Tryz.func27
def tW:rE.body=some (bh rE):=by kernel_rfl
abbrev oB:Nat:=28
noncomputable abbrev uv:Func:=Tryz.f28
def mF:prog.funcs[oB]?=some uv:=Tryz.func28
def H3:uv.body=some (bh uv):=by kernel_rfl
abbrev FE:Nat:=29
noncomputable abbrev xJ:Func:=Tryz.f29
def Cq:prog.funcs[FE]?=some xJ:=Tryz.func29
def J7:xJ.body=some (bh xJ):=by kernel_rfl
abbrev sw:Nat:=30
noncomputable abbrev rI:Func:=Tryz.f30
def yr:prog.funcs[sw]?=some rI:=Tryz.func30
def Gk:rI.body=some (bh rI):=by kernel_rfl
abbrev Jg:Nat:=35
noncomputable abbrev Ab:Func:=Tryz.f35
def Fe:prog.funcs[Jg]?=some Ab:=Tryz.func35
def MB:Ab.body=some (bh Ab):=by kernel_rfl
abbrev Du:Nat:=37
noncomputable abbrev ui:Func:=Tryz.f37
def A3:prog.funcs[Du]?=some ui:=Tryz.func37
def HU:ui.body=some (bh ui):=by kernel_rfl
abbrev vC:Nat:=39
noncomputable abbrev mT:Func:=Tryz.f39
def sE:prog.funcs[vC]?=some mT:=Tryz.func39
def BR:mT.body=some (bh mT):=by kernel_rfl
abbrev xh:Nat:=40
noncomputable abbrev nZ:Func:=Tryz.f40
def tS:prog.funcs[xh]?=some nZ:=Tryz.func40
def Cw:nZ.body=some (bh nZ):=by kernel_rfl
abbrev xd:Nat:=41
noncomputable abbrev nV:Func:=Tryz.f41
def tO:prog.funcs[xd]?=some nV:=Tryz.func41
def Cs:nV.body=some (bh nV):=by kernel_rfl
abbrev zb:Nat:=42
noncomputable abbrev px:Func:=Tryz.f42
def wj:prog.funcs[zb]?=some px:=Tryz.func42
def EB:px.body=some (bh px):=by kernel_rfl
abbrev xe:Nat:=43
noncomputable abbrev nW:Func:=Tryz.f43
def tP:prog.funcs[xe]?=some nW:=Tryz.func43
def Ct:nW.body=some (bh nW):=by kernel_rfl
abbrev sS:Nat:=44
noncomputable abbrev lL:Func:=Tryz.f44
def qv:prog.funcs[sS]?=some lL:=Tryz.func44
def zO:lL.body=some (bh lL):=by kernel_rfl
abbrev FF:Nat:=45
noncomputable abbrev xK:Func:=Tryz.f45
def Cr:prog.funcs[FF]?=some xK:=Tryz.func45
def J8:xK.body=some (bh xK):=by kernel_rfl
abbrev Bz:Nat:=46
noncomputable abbrev rn:Func:=Tryz.f46
def ym:prog.funcs[Bz]?=some rn:=Tryz.func46
def F5:rn.body=some (bh rn):=by kernel_rfl
abbrev zm:Nat:=47
noncomputable abbrev Kk:Func:=Tryz.f47
def HO:prog.funcs[zm]?=some Kk:=Tryz.func47
abbrev Dw:Nat:=48
noncomputable abbrev uk:Func:=Tryz.f48
def A5:prog.funcs[Dw]?=some uk:=Tryz.func48
def HW:uk.body=some (bh uk):=by kernel_rfl
abbrev xf:Nat:=49
noncomputable abbrev nX:Func:=Tryz.f49
def tQ:prog.funcs[xf]?=some nX:=Tryz.func49
def Cu:nX.body=some (bh nX):=by kernel_rfl
abbrev oz:Nat:=50
noncomputable abbrev iR:Func:=Tryz.f50
def nk:prog.funcs[oz]?=some iR:=Tryz.func50
def vP:iR.body=some (bh iR):=by kernel_rfl
abbrev pb:Nat:=51
noncomputable abbrev BU:Func:=Tryz.f51
def zJ:prog.funcs[pb]?=some BU:=Tryz.func51
abbrev vE:Nat:=52
noncomputable abbrev mU:Func:=Tryz.f52
def sF:prog.funcs[vE]?=some mU:=Tryz.func52
def BS:mU.body=some (bh mU):=by kernel_rfl
abbrev BC:Nat:=53
noncomputable abbrev rq:Func:=Tryz.f53
def yn:prog.funcs[BC]?=some rq:=Tryz.func53
def F7:rq.body=some (bh rq):=by kernel_rfl
abbrev Dt:Nat:=54
noncomputable abbrev uh:Func:=Tryz.f54
def A2:prog.funcs[Dt]?=some uh:=Tryz.func54
def HT:uh.body=some (bh uh):=by kernel_rfl
abbrev sf:Nat:=55
noncomputable abbrev rl:Func:=Tryz.f55
def kz:prog.funcs[sf]?=some rl:=Tryz.func55
def F3:rl.body=some (bh rl):=by kernel_rfl
abbrev Dy:Nat:=56
noncomputable abbrev uo:Func:=Tryz.f56
def A6:prog.funcs[Dy]?=some uo:=Tryz.func56
def HY:uo.body=some (bh uo):=by kernel_rfl
abbrev sd:Nat:=57
noncomputable abbrev rj:Func:=Tryz.f57
def ky:prog.funcs[sd]?=some rj:=Tryz.func57
def F2:rj.body=some (bh rj):=by kernel_rfl
abbrev pT:Nat:=58
noncomputable abbrev pw:Func:=Tryz.f58
def jH:prog.funcs[pT]?=some pw:=Tryz.func58
def EA:pw.body=some (bh pw):=by kernel_rfl
abbrev mO:Nat:=59
noncomputable abbrev rv:Func:=Tryz.f59
def kE:prog.funcs[mO]?=some rv:=Tryz.func59
def Ga:rv.body=some (bh rv):=by kernel_rfl
abbrev sT:Nat:=60
noncomputable abbrev lN:Func:=Tryz.f60
def qx:prog.funcs[sT]?=some lN:=Tryz.func60
def zQ:lN.body=some (bh lN):=by kernel_rfl
abbrev lX:Nat:=61
noncomputable abbrev lP:Func:=Tryz.f61
def gj:prog.funcs[lX]?=some lP:=Tryz.func61
def zS:lP.body=some (bh lP):=by kernel_rfl
abbrev DC:Nat:=62
noncomputable abbrev uw:Func:=Tryz.f62
def Bc:prog.funcs[DC]?=some uw:=Tryz.func62
def H4:uw.body=some (bh uw):=by kernel_rfl
abbrev sj:Nat:=63
noncomputable abbrev ru:Func:=Tryz.f63
def kB:prog.funcs[sj]?=some ru:=Tryz.func63
def F9:ru.body=some (bh ru):=by kernel_rfl
abbrev pU:Nat:=64
noncomputable abbrev pC:Func:=Tryz.f64
def jI:prog.funcs[pU]?=some pC:=Tryz.func64
def EH:pC.body=some (bh pC):=by kernel_rfl
abbrev so:Nat:=65
noncomputable abbrev rB:Func:=Tryz.f65
def kH:prog.funcs[so]?=some rB:=Tryz.func65
def Gd:rB.body=some (bh rB):=by kernel_rfl
abbrev su:Nat:=66
noncomputable abbrev rH:Func:=Tryz.f66
def kL:prog.funcs[su]?=some rH:=Tryz.func66
def Gj:rH.body=some (bh rH):=by kernel_rfl
abbrev y9:Nat:=69
noncomputable abbrev pq:Func:=Tryz.f69
def wi:prog.funcs[y9]?=some pq:=Tryz.func69
def Ez:pq.body=some (bh pq):=by kernel_rfl
abbrev Jf:Nat:=70
noncomputable abbrev z8:Func:=Tryz.f70
def Fc:prog.funcs[Jf]?=some z8:=Tryz.func70
def Mz:z8.body=some (bh z8):=by kernel_rfl
abbrev AK:Nat:=71
noncomputable abbrev Aa:Func:=Tryz.f71
def qg:prog.funcs[AK]?=some Aa:=Tryz.func71
def MA:Aa.body=some (bh Aa):=by kernel_rfl
abbrev vA:Nat:=72
noncomputable abbrev um:Func:=Tryz.f72
def mE:prog.funcs[vA]?=some um:=Tryz.func72
def HX:um.body=some (bh um):=by kernel_rfl
abbrev zh:Nat:=75
noncomputable abbrev pB:Func:=Tryz.f75
def wu:prog.funcs[zh]?=some pB:=Tryz.func75
def EG:pB.body=some (bh pB):=by kernel_rfl
abbrev ss:Nat:=76
noncomputable abbrev rG:Func:=Tryz.f76
def kK:prog.funcs[ss]?=some rG:=Tryz.func76
def Gi:rG.body=some (bh rG):=by kernel_rfl
abbrev BE:Nat:=77
noncomputable abbrev rD:Func:=Tryz.f77
def yp:prog.funcs[BE]?=some rD:=Tryz.func77
def Gf:rD.body=some (bh rD):=by kernel_rfl
abbrev Dx:Nat:=78
noncomputable abbrev OL:Func:=Tryz.f78
def Mw:prog.funcs[Dx]?=some OL:=Tryz.func78
abbrev Bx:Nat:=79
noncomputable abbrev ri:Func:=Tryz.f79
def yj:prog.funcs[Bx]?=some ri:=Tryz.func79
def F1:ri.body=some (bh ri):=by kernel_rfl
abbrev FD:Nat:=80
noncomputable abbrev xI:Func:=Tryz.f80
def Cp:prog.funcs[FD]?=some xI:=Tryz.func80
def J6:xI.body=some (bh xI):=by kernel_rfl
abbrev x6:Nat:=85
noncomputable abbrev xH:Func:=Tryz.f85
def nO:prog.funcs[x6]?=some xH:=Tryz.func85
def J5:xH.body=some (bh xH):=by kernel_rfl
abbrev By:Nat:=86
noncomputable abbrev rm:Func:=Tryz.f86
def yl:prog.funcs[By]?=some rm:=Tryz.func86
def F4:rm.body=some (bh rm):=by kernel_rfl
abbrev sV:Nat:=87
noncomputable abbrev lQ:Func:=Tryz.f87
def qz:prog.funcs[sV]?=some lQ:=Tryz.func87
def zT:lQ.body=some (bh lQ):=by kernel_rfl
abbrev DB:Nat:=88
noncomputable abbrev uu:Func:=Tryz.f88
def Bb:prog.funcs[DB]?=some uu:=Tryz.func88
def H2:uu.body=some (bh uu):=by kernel_rfl
abbrev BD:Nat:=89
noncomputable abbrev rr:Func:=Tryz.f89
def yo:prog.funcs[BD]?=some rr:=Tryz.func89
def F8:rr.body=some (bh rr):=by kernel_rfl
abbrev kl:Nat:=90
noncomputable abbrev jZ:Func:=Tryz.f90
def fU:prog.funcs[kl]?=some jZ:=Tryz.func90
def yv:jZ.body=some (bh jZ):=by kernel_rfl
abbrev vF:Nat:=91
noncomputable abbrev OM:Func:=Tryz.f91
def Mx:prog.funcs[vF]?=some OM:=Tryz.func91
abbrev vD:Nat:=92
noncomputable abbrev ux:Func:=Tryz.f92
def mG:prog.funcs[vD]?=some ux:=Tryz.func92
def H5:ux.body=some (bh ux):=by kernel_rfl
abbrev BF:Nat:=93
noncomputable abbrev rF:Func:=Tryz.f93
def yq:prog.funcs[BF]?=some rF:=Tryz.func93
def Gg:rF.body=some (bh rF):=by kernel_rfl
abbrev BA:Nat:=97
noncomputable abbrev MF:Func:=Tryz.f97
def J1:prog.funcs[BA]?=some MF:=Tryz.func97
abbrev si:Nat:=98
noncomputable abbrev rp:Func:=Tryz.f98
def kA:prog.funcs[si]?=some rp:=Tryz.func98
def F6:rp.body=some (bh rp):=by kernel_rfl
abbrev zd:Nat:=99
noncomputable abbrev py:Func:=Tryz.f99
def wm:prog.funcs[zd]?=some py:=Tryz.func99
def EC:py.body=some (bh py):=by kernel_rfl
abbrev Dv:Nat:=100
noncomputable abbrev uj:Func:=Tryz.f100
def A4:prog.funcs[Dv]?=some uj:=Tryz.func100
def HV:uj.body=some (bh uj):=by kernel_rfl
abbrev lV:Nat:=101
noncomputable abbrev lK:Func:=Tryz.f101
def gi:prog.funcs[lV]?=some lK:=Tryz.func101
def zN:lK.body=some (bh lK):=by kernel_rfl
abbrev DD:Nat:=105
noncomputable abbrev uy:Func:=Tryz.f105
def Bd:prog.funcs[DD]?=some uy:=Tryz.func105
def H6:uy.body=some (bh uy):=by kernel_rfl
abbrev pV:Nat:=106
noncomputable abbrev pE:Func:=Tryz.f106
def jJ:prog.funcs[pV]?=some pE:=Tryz.func106
def EJ:pE.body=some (bh pE):=by kernel_rfl
abbrev sn:Nat:=107
noncomputable abbrev rz:Func:=Tryz.f107
def kF:prog.funcs[sn]?=some rz:=Tryz.func107
def Gb:rz.body=some (bh rz):=by kernel_rfl
abbrev pS:Nat:=114
noncomputable abbrev ph:Func:=Tryz.f114
def jG:prog.funcs[pS]?=some ph:=Tryz.func114
def Ex:ph.body=some (bh ph):=by kernel_rfl
abbrev sq:Nat:=123
noncomputable abbrev rC:Func:=Tryz.f123
def kI:prog.funcs[sq]?=some rC:=Tryz.func123
def Ge:rC.body=some (bh rC):=by kernel_rfl
abbrev mP:Nat:=130
noncomputable abbrev rA:Func:=Tryz.f130
def kG:prog.funcs[mP]?=some rA:=Tryz.func130
def Gc:rA.body=some (bh rA):=by kernel_rfl
abbrev BB:Nat:=143
noncomputable abbrev MG:Func:=Tryz.f143
def J2:prog.funcs[BB]?=some MG:=Tryz.func143
open Go.RowKit Go.Proofs
set_option maxRecDepth 100000 in
def WG(a:Option Addr)(n m:Nat)(w:World) :
  Calls prog mN #[.slice a n m] w λ e w'=>e = .returned (.pointer (some ⟨w.heap.size,0,none⟩))/\w'=w.alloc (.cells #[.slice a n m, .int .i64 0, .int .u64 0] 99):=by
 go_enter Tryz.func23,Tryz.ntmps23;go_wp2;go_ret;exact⟨rfl,rfl⟩
def NJ:Nat->List Arg->Option (Vc×XP):=λ f zs=>match Nat.beq f mN with
 | true=>match zs with
  | [.val ⟨.slice (.int .u8),O⟩]=>some (.none, .box [⟨.slice (.int .u8),O⟩,⟨.int .i64,(0:Int)⟩,⟨.int .u64,(0:Int)⟩])
  | _=>none
 | false=>none
def YX(O:List Int):Wf prog mN [.val ⟨.slice (.int .u8),O⟩] (.box [⟨.slice (.int .u8),O⟩,⟨.int .i64,(0:Int)⟩,⟨.int .u64,(0:Int)⟩]):=by
 intro w S T bV hS _ ha;match bV,ha with
 | [v],ha =>
  have h1:Rd w S (TV.aE ⟨.slice (.int .u8),O⟩) [v]:=ha.1;obtain⟨a,c,e,_⟩:=id h1;simp only[List.cons.injEq,and_true] at e;rw[show (List.map (Ty.int IntKind.u8).aE O).length=O.length from List.length_map _] at e;subst e;refine (WG a _ c w).mono ?_;rintro e w' ⟨rfl,rfl⟩;have hk:=eS w (.cells #[.slice a O.length c, .int .i64 0, .int .u64 0] 99);refine⟨_,S,rfl,hk,λ _ _=>Iff.rfl,λ k eK=>Nat.lt_of_lt_of_le (hS.1 k eK) hk.size,λ b hb=>?_,w.heap.size,[_, .int .i64 0, .int .u64 0],99,rfl,by simpa using heap_alloc_new w _,?_⟩
  .simp only[dk,a8V] at hb;subst hb;exact⟨a9n _,by simp,λ q=>b1t _ (hS.1 _ q)⟩
  refine⟨⟨rfl,Rd.aL (λ _ h=>h) (λ b hb=>hk.block b (hS.1 b hb) λ h=>h) _ h1⟩,⟨rfl,?_⟩,⟨rfl,?_⟩,U⟩
  .exact⟨rfl,by decide,by decide⟩
  .exact⟨rfl,by decide,by decide⟩
def PU:∀ f args pre cells,NJ f args=some (pre,cells)->pre.ok->lG prog f/\Wf prog f args cells:=by
 intro f args pre cells h _;unfold NJ at h;split at h
 .rename_i hf;have hf:=a8W hf;subst hf;split at h
  .simp only[a8V,a8Y] at h;obtain⟨rfl,rfl⟩:=h;exact⟨⟨_,J3,rfl,by decide⟩,YX _⟩
  .cases h
 .cases h
end Go.Proofs.YtofnjfpeimhifaaGreatDoor

namespace Go.Proofs.YtofnjfpeimhifaaGreatDoor
abbrev bH{α:Type}[SizeOf α](x:α):Nat:=SizeOf.sizeOf x
def cB{α:Type}[SizeOf α](d:α):∀ (xs:List α) (i:Nat),i<xs.length->bH (xs.getD i d)<bH xs
 | [],i,h=>by simp at h
 | x::xs,0,h=>by simp[bH];omega
 | x::xs,i+1,h=>by
  have:=cB d xs i (by simpa using h);simp[bH] at this ⊢;omega
def fK(e:J):bH e.ae<bH e:=by
 cases e;simp[bH];omega
inductive PK where
 | v (τ:Ty)
 | r (τ:Ty)
 | f
 | c (ps:List Ty) (r:Ty)
 | o (τ:Ty)
 | b (k:Nat)
@[reducible] def KT:List PK->Type 1
 | []=>ULift (Vc×List TV)
 | .v τ::l=>τ.den->KT l
 | .r τ::l=>τ.den->KT l
 | .f::l=>FuncId->KT l
 | .c ps r::l=>FN ps r->KT l
 | .o τ::l=>τ.den->KT l
 | .b _::l=>KT l
def cU:(l:List PK)->KT l->List Arg->Option (Vc×List TV)
 | [],x,[]=>some x.down
 | .v τ::l,g, .val a::zs=>match a.Z9 τ with
  | some x=>cU l (g x) zs
  | none=>none
 | .r τ::l,g, .ref a::zs=>match a.Z9 τ with
  | some x=>cU l (g x) zs
  | none=>none
 | .f::l,g, .fn a::zs=>cU l (g a) zs
 | .c ps r::l,g, .cN a::zs=>match a.Z9 ps r with
  | some x=>cU l (g x) zs
  | none=>none
 | .o τ::l,g, .own a::zs=>match a.Z9 τ with
  | some x=>cU l (g x) zs
  | none=>none
 | _,_,_=>none
def Uk(P:Program)(f:FuncId):(l:List PK)->KT l->List Arg->Prop
 | [],x,acc=>x.down.1.ok->fT P f acc (·=x.down.2)
 | .v τ::l,g,acc=>∀ x,Uk P f l (g x) (acc++[.val ⟨τ,x⟩])
 | .r τ::l,g,acc=>∀ x,Uk P f l (g x) (acc++[.ref ⟨τ,x⟩])
 | .f::l,g,acc=>∀ x,Uk P f l (g x) (acc++[.fn x])
 | .c ps r::l,g,acc=>∀ x,Uk P f l (g x) (acc++[.cN ⟨ps,r,x⟩])
 | .o τ::l,g,acc=>∀ x,Uk P f l (g x) (acc++[.own ⟨τ,x⟩])
 | .b _::_,_,_=>True
def pX{P:Program}{f:FuncId}:∀ (l:List PK) (g:KT l) (acc zs:List Arg) (pre:Vc) (res:List TV),Uk P f l g acc->cU l g zs=some (pre,res)->pre.ok->fT P f (acc++zs) (·=res)
 | [],g,acc,zs,pre,res,h,e,hp=>by
  cases zs with
  | nil =>
   simp only[cU,a8V] at e;have h':g.down.1.ok->fT P f acc (·=g.down.2):=h;rw[e] at h';rw[a9U];exact h' hp
  | cons a zs=>simp[cU] at e
 | .v τ::l,g,acc,zs,pre,res,h,e,hp=>by
  cases zs with
  | nil=>simp[cU] at e
  | cons a zs =>
   cases a with
   | val a =>
    rw[cU] at e;split at e
    .rename_i x hx;have:=pX l (g x) (acc++[.val ⟨τ,x⟩]) zs pre res (h x) e hp;rw[TV.aQ hx];simpa using this
    .cases e
   | ref a=>simp[cU] at e
   | cN a=>simp[cU] at e
   | own a=>simp[cU] at e
   | fn a=>simp[cU] at e
   | box a=>simp[cU] at e
 | .r τ::l,g,acc,zs,pre,res,h,e,hp=>by
  cases zs with
  | nil=>simp[cU] at e
  | cons a zs =>
   cases a with
   | ref a =>
    rw[cU] at e;split at e
    .rename_i x hx;have:=pX l (g x) (acc++[.ref ⟨τ,x⟩]) zs pre res (h x) e hp;rw[TV.aQ hx];simpa using this
    .cases e
   | val a=>simp[cU] at e
   | cN a=>simp[cU] at e
   | own a=>simp[cU] at e
   | fn a=>simp[cU] at e
   | box a=>simp[cU] at e
 | .f::l,g,acc,zs,pre,res,h,e,hp=>by
  cases zs with
  | nil=>simp[cU] at e
  | cons a zs =>
   cases a with
   | fn a =>
    rw[cU] at e;have:=pX l (g a) (acc++[.fn a]) zs pre res (h a) e hp;simpa using this
   | val a=>simp[cU] at e
   | cN a=>simp[cU] at e
   | own a=>simp[cU] at e
   | ref a=>simp[cU] at e
   | box a=>simp[cU] at e
 | .c ps r::l,g,acc,zs,pre,res,h,e,hp=>by
  cases zs with
  | nil=>simp[cU] at e
  | cons a zs =>
   cases a with
   | cN a =>
    rw[cU] at e;split at e
    .rename_i x hx;have:=pX l (g x) (acc++[.cN ⟨ps,r,x⟩]) zs pre res (h x) e hp;rw[FV.aQ hx];simpa using this
    .cases e
   | val a=>simp[cU] at e
   | ref a=>simp[cU] at e
   | fn a=>simp[cU] at e
   | own a=>simp[cU] at e
   | box a=>simp[cU] at e
 | .o τ::l,g,acc,zs,pre,res,h,e,hp=>by
  cases zs with
  | nil=>simp[cU] at e
  | cons a zs =>
   cases a with
   | own a =>
    rw[cU] at e;split at e
    .rename_i x hx;have:=pX l (g x) (acc++[.own ⟨τ,x⟩]) zs pre res (h x) e hp;rw[TV.aQ hx];simpa using this
    .cases e
   | val a=>simp[cU] at e
   | ref a=>simp[cU] at e
   | fn a=>simp[cU] at e
   | cN a=>simp[cU] at e
   | box a=>simp[cU] at e
 | .b k::l,g,acc,zs,pre,res,h,e,hp=>by
  cases zs<;>simp[cU] at e
structure aX where
 n:Nat
 l:List PK
 g:KT l
def aX.Good(c:aX):Prop:=lG prog c.n/\Uk prog c.n c.l c.g []
def CB:List aX->Nat->List Arg->Option (Vc×List TV)
 | [],_,_=>none
 | c::r,f,zs=>match Nat.beq c.n f with
  | true=>cU c.l c.g zs
  | false=>CB r f zs
def PK.own:PK->Bool
 | .o _=>true
 | _=>false
def a4F:List aX->Nat->List Bool
 | [],_=>[]
 | c::r,f=>match Nat.beq c.n f with
  | true=>match c.l.any PK.own with
   | true=>c.l.map PK.own
   | false=>[]
  | false=>a4F r f
def CJ(l:List aX)(wr:List Nat:=[])(cl:List (Nat×yc):=[])(ro:List Nat:=[]):Env:=Env.mk AZ NK (CB l) wr [] (λ _ _=>none) (λ _=>none) (af cl) ro (λ _=>[]) (λ _=>none) (λ _ _ _=>none) Je NJ zY
def bo:List aX->Prop
 | []=>True
 | c::r=>c.Good/\bo r
def Kd:∀ (l:List aX),bo l->∀ f args pre res,CB l f args=some (pre,res)->pre.ok->lG prog f/\fT prog f args (·=res)
 | [],_,f,args,pre,res,e,_=>by cases e
 | c::r,h,f,args,pre,res,e,hp=>by
  rw[CB] at e;split at e
  .rename_i hb;have hb:=a8W hb;subst hb;exact⟨h.1.1,pX c.l c.g [] args pre res h.1.2 e hp⟩
  .exact Kd r h.2 f args pre res e hp
def Dl{α:Type}:∀ (l:List (Nat×α)) (n:Nat) (v:α),af l n=some v->(n,v)∈l
 | [],n,v,h=>by cases h
 | (k,u)::r,n,v,h=>by
  rw[af] at h;split at h
  .rename_i hb;cases h;rw[a8W hb];exact b1f ..
  .exact b0u _ (Dl r n v h)
def D5{l:List aX}{wr:List Nat}{cl:List (Nat×yc)}{ro:List Nat}(h:bo l):bn prog (CJ l wr cl ro) where
 ty T τ b e ht:=by
  have h1:=a9H.mp (b1K.1 (Eo (CJ l wr cl ro))).1 _ (Dl _ _ _ ht);exact h1
 K3 T κ ε ht:=by
  have h1:=a9H.mp (b1K.1 (Eo (CJ l wr cl ro))).2 _ (Dl _ _ _ ht);exact h1
 TT _ _ _:=trivial
 Kc:=Kd l h
 Jl _ _ _ _ h:=by cases h
 mark _ _ h:=by cases h
 PT:=PU
 cmp T h:=List.all_eq_true.mp Ov T (by have h1:zY.contains T=true:=h;simpa using h1)
 Se _ _ _ _ _ _ _ h:=by cases h
def aD {f:FuncId} {fn:Func} (h:prog.funcs[f]?=some fn) (hb:fn.body.isNone=false:=by rfl) (hn:(fn.name == "runtime.NumGoroutine")=false:=by decide):lG prog f:=⟨fn,h,hb,hn⟩
def nj:∀ {l m:List TV},tL l m->l=m
 | [],[],_=>rfl
 | [v],[u],h=>by rw[jd h]
 | v::v'::vs,[u],h=>by
  have:=nj (l:=v'::vs) (m:=[]) h.2;cases this
 | [v],u::u'::us,h=>by
  have:=nj (l:=[]) (m:=u'::us) h.2;cases this
 | v::v'::vs,u::u'::us,h=>by rw[jd h.1,nj (l:=v'::vs) (m:=u'::us) h.2]
 | [],u::us,h=>by cases h
 | v::vs,[],h=>by
  cases vs<;>cases h
def fT.mono{P:Program}{f:FuncId}{args:List Arg}{p q:List TV->Prop}(h:fT P f args p)(Ze:∀ r,p r->q r):fT P f args q:=by
 intro w S bV hS ha;refine (h w S bV hS ha).mono λ e w'=>?_;rintro⟨x,S',res,h1,h2,h3⟩;exact⟨x,S',res,h1,Ze _ h2,h3⟩
def Xl{f:FuncId}{fn:Func}{O:Code}{l:List aX}{wr:List Nat}{cl:List (Nat×yc)}{ro:List Nat}(hl:bo l)(hf:prog.funcs[f]?=some fn)(hb:fn.body=some O)(Λ:Nat->aJ){args:List Arg}{res:List TV}
  (h:tT (CJ l wr cl ro) O Λ 0 (uz (CJ l wr cl ro) fn λ r=>tL r res) (dB fn args)):fT prog f args (·=res) :=
 (RO (D5 hl) xl hf hb Λ h).mono λ _=>nj
def tJ(P:Program)(f:FuncId):(l:List PK)->KT l->List Arg->Prop
 | [],x,acc=>x.down.1.ok->xx P f acc x.down.2
 | .v τ::l,g,acc=>∀ x,tJ P f l (g x) (acc++[.val ⟨τ,x⟩])
 | .r τ::l,g,acc=>∀ x,tJ P f l (g x) (acc++[.ref ⟨τ,x⟩])
 | .f::l,g,acc=>∀ x,tJ P f l (g x) (acc++[.fn x])
 | .c ps r::l,g,acc=>∀ x,tJ P f l (g x) (acc++[.cN ⟨ps,r,x⟩])
 | .o τ::l,g,acc=>∀ x,tJ P f l (g x) (acc++[.own ⟨τ,x⟩])
 | .b _::_,_,_=>True
def nD{P:Program}{f:FuncId}:∀ (l:List PK) (g:KT l) (acc zs:List Arg) (pre:Vc) (res:List TV),tJ P f l g acc->cU l g zs=some (pre,res)->pre.ok->xx P f (acc++zs) res
 | [],g,acc,zs,pre,res,h,e,hp=>by
  cases zs with
  | nil =>
   simp only[cU,a8V] at e;have h':g.down.1.ok->xx P f acc g.down.2:=h;rw[e] at h';rw[a9U];exact h' hp
  | cons a zs=>simp[cU] at e
 | .v τ::l,g,acc,zs,pre,res,h,e,hp=>by
  cases zs with
  | nil=>simp[cU] at e
  | cons a zs =>
   cases a with
   | val a =>
    rw[cU] at e;split at e
    .rename_i x hx;have:=nD l (g x) (acc++[.val ⟨τ,x⟩]) zs pre res (h x) e hp;rw[TV.aQ hx];simpa using this
    .cases e
   | ref a=>simp[cU] at e
   | cN a=>simp[cU] at e
   | own a=>simp[cU] at e
   | fn a=>simp[cU] at e
   | box a=>simp[cU] at e
 | .r τ::l,g,acc,zs,pre,res,h,e,hp=>by
  cases zs with
  | nil=>simp[cU] at e
  | cons a zs =>
   cases a with
   | ref a =>
    rw[cU] at e;split at e
    .rename_i x hx;have:=nD l (g x) (acc++[.ref ⟨τ,x⟩]) zs pre res (h x) e hp;rw[TV.aQ hx];simpa using this
    .cases e
   | val a=>simp[cU] at e
   | cN a=>simp[cU] at e
   | own a=>simp[cU] at e
   | fn a=>simp[cU] at e
   | box a=>simp[cU] at e
 | .f::l,g,acc,zs,pre,res,h,e,hp=>by
  cases zs with
  | nil=>simp[cU] at e
  | cons a zs =>
   cases a with
   | fn a =>
    rw[cU] at e;have:=nD l (g a) (acc++[.fn a]) zs pre res (h a) e hp;simpa using this
   | val a=>simp[cU] at e
   | cN a=>simp[cU] at e
   | own a=>simp[cU] at e
   | ref a=>simp[cU] at e
   | box a=>simp[cU] at e
 | .c ps r::l,g,acc,zs,pre,res,h,e,hp=>by
  cases zs with
  | nil=>simp[cU] at e
  | cons a zs =>
   cases a with
   | cN a =>
    rw[cU] at e;split at e
    .rename_i x hx;have:=nD l (g x) (acc++[.cN ⟨ps,r,x⟩]) zs pre res (h x) e hp;rw[FV.aQ hx];simpa using this
    .cases e
   | val a=>simp[cU] at e
   | ref a=>simp[cU] at e
   | fn a=>simp[cU] at e
   | own a=>simp[cU] at e
   | box a=>simp[cU] at e
 | .o τ::l,g,acc,zs,pre,res,h,e,hp=>by
  cases zs with
  | nil=>simp[cU] at e
  | cons a zs =>
   cases a with
   | own a =>
    rw[cU] at e;split at e
    .rename_i x hx;have:=nD l (g x) (acc++[.own ⟨τ,x⟩]) zs pre res (h x) e hp;rw[TV.aQ hx];simpa using this
    .cases e
   | val a=>simp[cU] at e
   | ref a=>simp[cU] at e
   | fn a=>simp[cU] at e
   | cN a=>simp[cU] at e
   | box a=>simp[cU] at e
 | .b k::l,g,acc,zs,pre,res,h,e,hp=>by
  cases zs<;>simp[cU] at e
def aX.tK(c:aX):Prop:=lG prog c.n/\tJ prog c.n c.l c.g []
def BN.Zw{w:World}{S:Nat->Prop}{v:TV}{x:Value}{fp:List Nat}(h:BN w v x fp)(hb:∀ b∈fp,S b):dC w S v x:=by
 obtain⟨τ,y⟩:=v;cases τ with
 | st s =>
  obtain⟨cs,h1,h2⟩:=h;exact⟨cs,h1,h2.rd _ hb⟩
 | _=>exact Ow.rd _ h hb
def HC.Zw{w:World}{S:Nat->Prop}:∀ {vs:List TV} {xs:List Value} {fp:List Nat},HC w vs xs fp->(∀ b∈fp,S b)->aM (dC w S) vs xs
 | [],[],_,_,_=>trivial
 | v::vs,x::xs,fp,h,hb=>by
  obtain⟨f1,f2,rfl,h1,h2⟩:=h;exact⟨h1.Zw λ b cm=>hb b (b0W _ cm),HC.Zw h2 λ b cm=>hb b (List.mem_append_right _ cm)⟩
 | [],_::_,_,h,_=>h.elim
 | _::_,[],_,h,_=>h.elim
def xx.plain{P:Program}{f:FuncId}{args:List Arg}{res:List TV}(h:xx P f args res):fT P f args (·=res):=by
 intro w S bV hS ha;refine (h w S bV [] hS (qW.P2 ha) (.inl rfl) b0c (λ b hb=>by cases hb)).mono ?_;rintro e w' ⟨x,fp,rfl,hk,hr,_,oN⟩;have hn:∀ b∈fp,w.heap.size<=b/\b<w'.heap.size:=λ b hb=>(oN b hb).elim (λ q=>by cases q) id;refine⟨x,λ b=>S b\/b∈fp,res,rfl,rfl,⟨hk.os,hk.tape,hk.output,hk.size,λ b hb _=>hk.block b hb λ q=>by cases q⟩,λ b hb=>⟨λ q=>q.elim id λ q=>absurd (hn b q).1 (by omega), .inl⟩,λ b q=>q.elim (λ q=>a9g (hS.1 b q) hk.size) λ q=>(hn b q).2,?_⟩;match res,hr with
 | [v],hr=>exact BN.Zw (v:=v) hr λ b hb => .inr hb
 | [],hr =>
  obtain⟨l,h1,h2⟩:=hr;exact⟨l,h1,h2.Zw λ b hb => .inr hb⟩
 | v::u::vs,hr =>
  obtain⟨l,h1,h2⟩:=hr;exact⟨l,h1,h2.Zw λ b hb => .inr hb⟩
def tJ.plain{P:Program}{f:FuncId}:∀ (l:List PK) (g:KT l) (acc:List Arg),tJ P f l g acc->Uk P f l g acc
 | [],_,_,h=>λ hp=>(h hp).plain
 | .v _::l,g,_,h=>λ x=>tJ.plain l (g x) _ (h x)
 | .r _::l,g,_,h=>λ x=>tJ.plain l (g x) _ (h x)
 | .f::l,g,_,h=>λ x=>tJ.plain l (g x) _ (h x)
 | .c _ _::l,g,_,h=>λ x=>tJ.plain l (g x) _ (h x)
 | .o _::l,g,_,h=>λ x=>tJ.plain l (g x) _ (h x)
 | .b _::_,_,_,_=>trivial
def aX.tK.plain{k:aX}(h:k.tK):k.Good:=⟨h.1,tJ.plain k.l k.g [] h.2⟩
def vX:List aX->Prop
 | []=>True
 | c::r=>c.tK/\vX r
def P1:∀ (l:List aX),vX l->∀ f args pre res,CB l f args=some (pre,res)->pre.ok->lG prog f/\xx prog f args res
 | [],_,f,args,pre,res,e,_=>by cases e
 | c::r,h,f,args,pre,res,e,hp=>by
  rw[CB] at e;split at e
  .rename_i hb;have hb:=a8W hb;subst hb;exact⟨h.1.1,nD c.l c.g [] args pre res h.1.2 e hp⟩
  .exact P1 r h.2 f args pre res e hp
structure MK where
 n:Nat
 m:Ul
def MK.Good(c:MK):Prop:=lG prog c.n/\Sp prog c.n c.m
def A0:List MK->Prop
 | []=>True
 | c::r=>c.Good/\A0 r
def NH:List MK->Nat->Option Ul
 | [],_=>none
 | c::r,f=>match Nat.beq c.n f with
  | true=>some c.m
  | false=>NH r f
def PO:∀ (l:List MK),A0 l->∀ f m,NH l f=some m->lG prog f/\Sp prog f m
 | [],_,f,m,e=>by cases e
 | c::r,h,f,m,e=>by
  rw[NH] at e;split at e
  .rename_i hb;have hb:=a8W hb;subst hb;cases e;exact h.1
  .exact PO r h.2 f m e
@[reducible] def Z2:List Ty->Type 1->Type 1
 | [],R=>R
 | t::ts,R=>t.den->Z2 ts R
@[reducible] def We:List (List Ty)->Type 1
 | []=>ULift (Vc×List TV×List (List TV))
 | ts::D=>Z2 ts (We D)
@[reducible] def QJ:List PK->List (List Ty)->Type 1
 | [],D=>We D
 | .v τ::l,D=>τ.den->QJ l D
 | .r τ::l,D=>τ.den->QJ l D
 | .f::l,D=>FuncId->QJ l D
 | .b _::l,D=>QJ l D
 | .c ps r::l,D=>FN ps r->QJ l D
 | .o _::l,D=>QJ l D
def kC:(ts:List Ty)->(R:Type 1)->Z2 ts R->List TV->Option R
 | [],_,r,[]=>some r
 | t::ts,R,g,v::vs=>match v.Z9 t with
  | some x=>kC ts R (g x) vs
  | none=>none
 | _,_,_,_=>none
def kD:(D:List (List Ty))->We D->List (List TV)->Option (Vc×List TV×List (List TV))
 | [],r,[]=>some r.down
 | ts::D,g,vs::bu=>match kC ts (We D) g vs with
  | some h=>kD D h bu
  | none=>none
 | _,_,_=>none
def kS:(l:List PK)->(D:List (List Ty))->QJ l D->List Arg->List (List TV)->Option (Vc×List TV×List (List TV))
 | [],D,g,[],bu=>kD D g bu
 | .v τ::l,D,g, .val a::zs,bu=>match a.Z9 τ with
  | some x=>kS l D (g x) zs bu
  | none=>none
 | .r τ::l,D,g, .ref a::zs,bu=>match a.Z9 τ with
  | some x=>kS l D (g x) zs bu
  | none=>none
 | .f::l,D,g, .fn a::zs,bu=>kS l D (g a) zs bu
 | .c ps r::l,D,g, .cN a::zs,bu=>match a.Z9 ps r with
  | some F=>kS l D (g F) zs bu
  | none=>none
 | .b k::l,D,g, .box j::zs,bu=>match Nat.beq k j with
  | true=>kS l D g zs bu
  | false=>none
 | _,_,_,_,_=>none
def Z0:(ts:List Ty)->(R:Type 1)->(R->List TV->Prop)->Z2 ts R->List TV->Prop
 | [],_,p,r,acc=>p r acc
 | t::ts,R,p,g,acc=>∀ x,Z0 ts R p (g x) (acc++[⟨t,x⟩])
def Z1(q:List (List TV)->Vc×List TV×List (List TV)->Prop):(D:List (List Ty))->We D->List (List TV)->Prop
 | [],r,acc=>q acc r.down
 | ts::D,g,acc=>Z0 ts (We D) (λ h vs=>Z1 q D h (acc++[vs])) g []
def NY(P:Program)(f:FuncId)(sh:List (List CK)):(l:List PK)->(D:List (List Ty))->QJ l D->List Arg->Prop
 | [],D,g,acc=>Z1 (λ bu r=>r.1.ok->HB P f sh acc bu r.2.1 r.2.2) D g []
 | .v τ::l,D,g,acc=>∀ x,NY P f sh l D (g x) (acc++[.val ⟨τ,x⟩])
 | .r τ::l,D,g,acc=>∀ x,NY P f sh l D (g x) (acc++[.ref ⟨τ,x⟩])
 | .f::l,D,g,acc=>∀ x,NY P f sh l D (g x) (acc++[.fn x])
 | .b k::l,D,g,acc=>NY P f sh l D g (acc++[.box k])
 | .c ps r::l,D,g,acc=>∀ x,NY P f sh l D (g x) (acc++[.cN ⟨ps,r,x⟩])
 | .o _::_,_,_,_=>True
def a1h:∀ (ts:List Ty) (R:Type 1) (p:R->List TV->Prop) (g:Z2 ts R) (acc vs:List TV) (r:R),Z0 ts R p g acc->kC ts R g vs=some r->p r (acc++vs)
 | [],R,p,g,acc,vs,r,h,e=>by
  cases vs with
  | nil =>
   simp only[kC,a8V] at e;subst e;rw[a9U];exact h
  | cons v vs=>simp[kC] at e
 | t::ts,R,p,g,acc,vs,r,h,e=>by
  cases vs with
  | nil=>simp[kC] at e
  | cons v vs =>
   rw[kC] at e;split at e
   .rename_i x hx;have:=a1h ts R p (g x) (acc++[⟨t,x⟩]) vs r (h x) e;rw[TV.aQ hx];simpa using this
   .cases e
def a1i(q:List (List TV)->Vc×List TV×List (List TV)->Prop):∀ (D:List (List Ty)) (g:We D) (acc bu:List (List TV)) (r:Vc×List TV×List (List TV)),Z1 q D g acc->kD D g bu=some r->q (acc++bu) r
 | [],g,acc,bu,r,h,e=>by
  cases bu with
  | nil =>
   simp only[kD,a8V] at e;subst e;rw[a9U];exact h
  | cons v vs=>simp[kD] at e
 | ts::D,g,acc,bu,r,h,e=>by
  cases bu with
  | nil=>simp[kD] at e
  | cons vs bu =>
   rw[kD] at e;split at e
   .rename_i k hk;have h1:=a1h ts _ _ g [] vs k h hk;have:=a1i q D k (acc++[vs]) bu r (by simpa using h1) e;simpa using this
   .cases e
def KJ{P:Program}{f:FuncId}{sh:List (List CK)}:∀ (l:List PK) (D:List (List Ty)) (g:QJ l D) (acc zs:List Arg) (bu:List (List TV)) (pre:Vc) (res:List TV) (dw:List (List TV)),NY P f sh l D g acc->kS l D g zs bu=some (pre,res,dw)->pre.ok->HB P f sh (acc++zs) bu res dw
 | [],D,g,acc,zs,bu,pre,res,dw,h,e,hp=>by
  cases zs with
  | nil =>
   have:=a1i _ D g [] bu _ h e;simpa using this hp
  | cons z zs=>simp[kS] at e
 | .v τ::l,D,g,acc,zs,bu,pre,res,dw,h,e,hp=>by
  cases zs with
  | nil=>simp[kS] at e
  | cons a zs =>
   cases a with
   | val a =>
    rw[kS] at e;split at e
    .rename_i x hx;have:=KJ l D (g x) (acc++[.val ⟨τ,x⟩]) zs bu pre res dw (h x) e hp;rw[TV.aQ hx];simpa using this
    .cases e
   | _=>simp[kS] at e
 | .r τ::l,D,g,acc,zs,bu,pre,res,dw,h,e,hp=>by
  cases zs with
  | nil=>simp[kS] at e
  | cons a zs =>
   cases a with
   | ref a =>
    rw[kS] at e;split at e
    .rename_i x hx;have:=KJ l D (g x) (acc++[.ref ⟨τ,x⟩]) zs bu pre res dw (h x) e hp;rw[TV.aQ hx];simpa using this
    .cases e
   | _=>simp[kS] at e
 | .f::l,D,g,acc,zs,bu,pre,res,dw,h,e,hp=>by
  cases zs with
  | nil=>simp[kS] at e
  | cons a zs =>
   cases a with
   | fn a =>
    rw[kS] at e;have:=KJ l D (g a) (acc++[.fn a]) zs bu pre res dw (h a) e hp;simpa using this
   | _=>simp[kS] at e
 | .b k::l,D,g,acc,zs,bu,pre,res,dw,h,e,hp=>by
  cases zs with
  | nil=>simp[kS] at e
  | cons a zs =>
   cases a with
   | box j =>
    rw[kS] at e;split at e
    .rename_i hb;have hb:=Nat.eq_of_beq_eq_true hb;subst hb;have:=KJ l D g (acc++[.box k]) zs bu pre res dw h e hp;simpa using this
    .cases e
   | _=>simp[kS] at e
 | .c ps r::l,D,g,acc,zs,bu,pre,res,dw,h,e,hp=>by
  cases zs with
  | nil=>simp[kS] at e
  | cons a zs =>
   cases a with
   | cN a =>
    rw[kS] at e;split at e
    .rename_i F hF;have:=KJ l D (g F) (acc++[.cN ⟨ps,r,F⟩]) zs bu pre res dw (h F) e hp;rw[FV.aQ hF];simpa using this
    .cases e
   | _=>simp[kS] at e
 | .o _::l,D,g,acc,zs,bu,pre,res,dw,h,e,hp=>by cases zs<;>simp[kS] at e
structure nH where
 n:Nat
 sh:List (List CK)
 l:List PK
 D:List (List Ty)
 g:QJ l D
def nH.Good(c:nH):Prop:=lG prog c.n/\NY prog c.n c.sh c.l c.D c.g []
def yb:List nH->Prop
 | []=>True
 | c::r=>c.Good/\yb r
def a1H:List PK->List (Option Nat)
 | []=>[]
 | .b k::l=>some k::a1H l
 | _::l=>none::a1H l
def YA:List nH->Nat->Option SK
 | [],_=>none
 | c::r,f=>match Nat.beq c.n f with
  | true=>some ⟨a1H c.l,c.sh⟩
  | false=>YA r f
def NM:List nH->Nat->List Arg->List (List TV)->Option (Vc×List TV×List (List TV))
 | [],_,_,_=>none
 | c::r,f,zs,bu=>match Nat.beq c.n f with
  | true=>kS c.l c.D c.g zs bu
  | false=>NM r f zs bu
def Qj:∀ (l:List nH),yb l->∀ f sk args bu pre res dw,YA l f=some sk->NM l f args bu=some (pre,res,dw)->pre.ok->lG prog f/\HB prog f sk.sh args bu res dw
 | [],_,f,sk,args,bu,pre,res,dw,h,_,_=>by cases h
 | c::r,h,f,sk,args,bu,pre,res,dw,hs,e,hp=>by
  rw[YA] at hs;rw[NM] at e;split at e
  .rename_i hb;rw[hb] at hs;have hb:=Nat.eq_of_beq_eq_true hb;subst hb;simp only[Option.some.injEq] at hs;subst hs;exact⟨h.1.1,by simpa using KJ c.l c.D c.g [] args bu pre res dw h.1.2 e hp⟩
  .rename_i hb;rw[hb] at hs;exact Qj r h.2 f sk args bu pre res dw hs e hp
def uf(l:List aX)(ol:List aX)(ml:List MK)(own wr:List Nat)(cl:List (Nat×yc):=[])(ro:List Nat:=[])(sl:List nH:=[]):Env:=Env.mk AZ NK (CB l) wr own (CB ol) (NH ml) (af cl) ro (a4F ol) (YA sl) (NM sl) Je NJ zY
def OG{l ol:List aX}{ml:List MK}{own wr:List Nat}{cl:List (Nat×yc)}{ro:List Nat}{sl:List nH}(h:bo l)(ho:vX ol)(hm:A0 ml)(hs:yb sl):bn prog (uf l ol ml own wr cl ro sl) where
 ty T τ b e ht:=by
  have h1:=a9H.mp (b1K.1 (Eo (uf l ol ml own wr cl ro sl))).1 _ (Dl _ _ _ ht);exact h1
 K3 T κ ε ht:=by
  have h1:=a9H.mp (b1K.1 (Eo (uf l ol ml own wr cl ro sl))).2 _ (Dl _ _ _ ht);exact h1
 TT _ _ _:=trivial
 Kc:=Kd l h
 Jl:=P1 ol ho
 mark:=PO ml hm
 PT:=PU
 cmp T h:=List.all_eq_true.mp Ov T (by have h1:zY.contains T=true:=h;simpa using h1)
 Se:=Qj sl hs
def Vw{f:FuncId}{fn:Func}{O:Code}{l ol:List aX}{ml:List MK}{own wr:List Nat}{cl:List (Nat×yc)}{ro:List Nat}{sl:List nH}(hl:bo l)(ho:vX ol)(hm:A0 ml)(hs:yb sl)(hf:prog.funcs[f]?=some fn)(hb:fn.body=some O)(Λ:Nat->aJ){args:List Arg}{res:List TV}
  (h:tT (uf l ol ml own wr cl ro sl) O Λ 0 (uz (uf l ol ml own wr cl ro sl) fn λ r=>tL r res) (dB fn args)):fT prog f args (·=res) :=
 (RO (OG hl ho hm hs) xl hf hb Λ h).mono λ _=>nj
def Vy{f:FuncId}{fn:Func}{O:Code}{l ol:List aX}{ml:List MK}{own wr:List Nat}{cl:List (Nat×yc)}{ro:List Nat}{sl:List nH}(hl:bo l)(ho:vX ol)(hm:A0 ml)(hs:yb sl)(hf:prog.funcs[f]?=some fn)(hb:fn.body=some O)(Λ:Nat->aJ){args:List Arg}{res:List TV}
  (h:tT (uf l ol ml own wr cl ro sl) O Λ 0 (DK (uf l ol ml own wr cl ro sl) fn λ r=>tL r res) (NT fn args)):xx prog f args res :=
 QO (OG hl ho hm hs) xl hf hb Λ (λ _=>nj) h
def Nz:List (List TV)->List (List TV)->Prop
 | [],[]=>True
 | a::r,b::q=>tL a b/\Nz r q
 | _,_=>False
def N8:∀ {a b:List (List TV)},Nz a b->a=b
 | [],[],_=>rfl
 | _::_,_::_,h=>by rw[nj h.1,N8 h.2]
 | [],_::_,h=>h.elim
 | _::_,[],h=>h.elim
def H7(args:List Arg)(n:Nat):Bool:=args.all λ a=>match a with
 | .box k=>Nat.blt k n
 | _=>true
def QK{args:List Arg}{n:Nat}(h:H7 args n=true):∀ k,Arg.box k∈args->k<n:=λ k hk=>by
 unfold H7 at h;rw[List.all_eq_true] at h;exact Nat.le_of_ble_eq_true (h _ hk)
def XD{f:FuncId}{fn:Func}{O:Code}{l ol:List aX}{ml:List MK}{own wr:List Nat}{cl:List (Nat×yc)}{ro:List Nat}{sl:List nH}(hl:bo l)(ho:vX ol)(hm:A0 ml)(hs:yb sl)(hf:prog.funcs[f]?=some fn)(hb:fn.body=some O)(Λ:Nat->aJ){args:List Arg}{sh:List (List CK)}{bu:List (List TV)}{res:List TV}{dw:List (List TV)}
  (B4:Qm sh=true) (C2:H7 args sh.length=true) (h:tT (uf l ol ml own wr cl ro sl) O Λ 0 (Ek (uf l ol ml own wr cl ro sl) fn sh λ r ds=>tL r res/\Nz ds dw) (dK fn args sh bu)):HB prog f sh args bu res dw :=
 SZ (OG hl ho hm hs) xl hf hb Λ (λ _ _ q=>⟨nj q.1,N8 q.2⟩) B4 (QK C2) h
def aY{f:FuncId}{fn:Func}{O:Code}(l:List aX)(wr:List Nat)(cl:List (Nat×yc))(ro:List Nat)(hl:bo l)(hf:prog.funcs[f]?=some fn)(hb:fn.body=some O)(Λ:Nat->aJ){args:List Arg}{res:List TV}(V:Prop)(h:V)
  (e:tT (CJ l wr cl ro) O Λ 0 (uz (CJ l wr cl ro) fn λ r=>tL r res) (dB fn args)=V:=by kernel_rfl):fT prog f args (·=res) :=
 Xl hl hf hb Λ (Eq.mpr e h)
def Xm{f:FuncId}{fn:Func}{O:Code}(l ol:List aX)(ml:List MK)(sl:List nH)(own wr:List Nat)(cl:List (Nat×yc))(ro:List Nat)(hl:bo l)(ho:vX ol)(hm:A0 ml)(hs:yb sl)(hf:prog.funcs[f]?=some fn)(hb:fn.body=some O)(Λ:Nat->aJ){args:List Arg}{res:List TV}(V:Prop)(h:V)
  (e:tT (uf l ol ml own wr cl ro sl) O Λ 0 (uz (uf l ol ml own wr cl ro sl) fn λ r=>tL r res) (dB fn args)=V:=by kernel_rfl):fT prog f args (·=res) :=
 Vw hl ho hm hs hf hb Λ (Eq.mpr e h)
def p9{f:FuncId}{fn:Func}{O:Code}(l ol:List aX)(ml:List MK)(sl:List nH)(own wr:List Nat)(cl:List (Nat×yc))(ro:List Nat)(hl:bo l)(ho:vX ol)(hm:A0 ml)(hs:yb sl)(hf:prog.funcs[f]?=some fn)(hb:fn.body=some O)(Λ:Nat->aJ){args:List Arg}{res:List TV}(V:Prop)(h:V)
  (e:tT (uf l ol ml own wr cl ro sl) O Λ 0 (DK (uf l ol ml own wr cl ro sl) fn λ r=>tL r res) (NT fn args)=V:=by kernel_rfl):xx prog f args res :=
 Vy hl ho hm hs hf hb Λ (Eq.mpr e h)
def qe{f:FuncId}{fn:Func}{O:Code}(l ol:List aX)(ml:List MK)(sl:List nH)(own wr:List Nat)(cl:List (Nat×yc))(ro:List Nat)(hl:bo l)(ho:vX ol)(hm:A0 ml)(hs:yb sl)(hf:prog.funcs[f]?=some fn)(hb:fn.body=some O)(Λ:Nat->aJ){args:List Arg}{sh:List (List CK)}{bu:List (List TV)}{res:List TV}{dw:List (List TV)}
  (B4:Qm sh=true) (C2:H7 args sh.length=true) (V:Prop) (h:V) (e:tT (uf l ol ml own wr cl ro sl) O Λ 0 (Ek (uf l ol ml own wr cl ro sl) fn sh λ r ds=>tL r res/\Nz ds dw) (dK fn args sh bu)=V:=by kernel_rfl):HB prog f sh args bu res dw :=
 XD hl ho hm hs hf hb Λ B4 C2 (Eq.mpr e h)
open Go.ChangeShapes Go.WideShapes Go.ChangeAt Go.RowKit
theorem cJ.append{w:World}{S:Nat->Prop}:∀ (ds es:List D) {l m:List Value},cJ w S ds l->cJ w S es m->cJ w S (ds++es) (l++m)
 | [],_,_,_,h,k=>by rw[show _=[] from h];simpa using k
 | d::ds,es,_,m,h,k=>by
  obtain⟨c,r,rfl,h2,h3⟩:=h;exact⟨c,r++m,by simp,h2,cJ.append ds es h3 k⟩
theorem Zx{w:World}{S:Nat->Prop}(t:Ty)(y:t.den){cs:List Value}(h:Rd w S (t.aE y) cs):cJ w S ((TV.cells ⟨t,y⟩).map TV.aE) cs:=by
 have one:∀ d:D,d.leaf=true->Rd w S d cs->cJ w S [d] cs:=by
  intro d hd h;obtain⟨v,rfl,_⟩:=Rd.rZ hd h;exact⟨v,[],rfl,h,rfl⟩
 cases t with
 | st s =>
  have h':Rd w S (s.aE y) cs:=h;rw[aG.bQ] at h';exact h'
 | int k=>exact one _ rfl h
 | bool=>exact one _ rfl h
 | str=>exact one _ rfl h
 | slice t=>exact one _ rfl h
 | mv t=>exact one _ (K4 _ _ _) h
 | ptr=>exact one _ rfl h
theorem Gs{w:World}{S:Nat->Prop}:∀ (ts:List Ty) (cs:List Value),cs.length=(ts.map Ty.size).sum ->
  (∀ i t,ts[i]?=some t->∃ y:t.den,Rd w S (t.aE y) ((cs.drop ((ts.take i).map Ty.size).sum).take t.size)) ->
  ∃ fl:List TV,fl.map TV.τ=ts/\cJ w S ((fl.flatMap TV.cells).map TV.aE) cs
 | [],cs,h,_=>⟨[],rfl,by
   have:cs=[]:=by simpa using h
   subst this;exact rfl⟩
 | t::ts,cs,h,k=>by
  obtain⟨y,hy⟩:=k 0 t rfl;simp only[b1a,b0y,List.sum_nil,b2i] at hy;simp only[a9x,b3d] at h;obtain⟨fl,h1,h2⟩:=Gs ts (cs.drop t.size) (by simp;omega) (λ i u hu=>by
   obtain⟨z,hz⟩:=k (i+1) u hu;simp only[b2e,a9x,b3d] at hz;rw[<-b2h] at hz;exact⟨z,hz⟩)
  refine⟨⟨t,y⟩::fl,by simp[h1],?_⟩;simp only[b1P,b0p];have:=cJ.append _ _ (Zx t y hy) h2;rwa [b0r] at this
theorem Yu{w:World}{S:Nat->Prop}(t:Ty)(b:Nat):∀ (n o:Nat),(∀ i,i<n->∃ (x:t.den) (cs:List Value),cs.length=t.size/\Rd w S (t.aE x) cs/\bm w b (o+i * t.size) cs) ->
  ∃ xs:List t.den,xs.length=n/\cF w S (xs.map t.aE) b o
 | 0,o,_=>⟨[],rfl,U⟩
 | n+1,o,h=>by
  obtain⟨x,cs,h1,h2,h3⟩:=h 0 (by omega);obtain⟨xs,h4,h5⟩:=Yu t b n (o+t.size) (λ i hi=>by
   obtain⟨y,c,g1,g2,g3⟩:=h (i+1) (by omega);exact⟨y,c,g1,g2,by rw[show o+t.size+i * t.size=o+(i+1) * t.size by rw[a9Y];omega];exact g3⟩)
  refine⟨x::xs,by simp[h4],⟨cs,by rw[Ty.cq];exact h1,h2,by simpa using h3⟩,?_⟩;rw[Ty.cq];exact h5
section
variable {H:Type} {enc:TypeId×Value->H} {w:World} {spare:Nat->Bool} {held:Bool}
theorem TN(d:DataW H):1<=Rows.uptoBulk d:=by
 cases d with
 | lit l=>cases l<;>simp[Rows.uptoBulk]
 | nil=>simp[Rows.uptoBulk]
 | ptr d=>simp[Rows.uptoBulk]
 | slice elems spare=>simp[Rows.uptoBulk]
 | agg parts=>simp[Rows.uptoBulk]
 | iface t d=>simp[Rows.uptoBulk]
 | map entries=>simp[Rows.uptoBulk]
 | held h=>simp[Rows.uptoBulk]
theorem Jr{d:DataW H}{l:List (DataW H)}(h:d∈l):Rows.uptoBulk d<=Rows.uptoBulkAll l:=by
 induction l with
 | nil=>cases h
 | cons x r ih =>
  simp only[Rows.uptoBulkAll];cases a9k.1 h with
  | inl e=>subst e;omega
  | inr e=>have:=ih e;omega
theorem Nl(l:List (DataW H)):l.length<=Rows.uptoBulkAll l:=by
 induction l with
 | nil=>simp[Rows.uptoBulkAll]
 | cons x r ih=>have:=TN x;simp only[Rows.uptoBulkAll,a9f];omega
theorem jD:bn prog (CJ []):=D5 trivial
theorem nS{T b e:Nat}{τ:Ty}(h:af AZ T=some (τ,b,e)):prog.cellsOf T=τ.size:=by
 obtain⟨i,z,h1,h2,_⟩:=(jD.info (T:=T) (τ:=τ) (b:=b) (e:=e) h).ex;simp[Program.cellsOf,h1,h2]
theorem VE:∀ (fuel:Nat) (τ:Ty) (T b e:Nat) (cs:List Value) (x:DataW H×List MemPlace),af AZ T=some (τ,b,e)->DataW.trod enc prog w 0 spare held fuel T cs=some x ->
  Rows.uptoBulk x.1<=1048576->∃ y:τ.den,Rd w (·<w.heap.size) (τ.aE y) cs:=by
 intro fuel;induction fuel with
 | zero =>
  intro τ T b e cs x ht h hk;have h':(none:Option (DataW H×List MemPlace))=some x:=h;cases h'
 | succ fuel ih =>
 intro τ T b e cs x ht h hk;cases τ with
 | int k =>
  obtain⟨n,rfl,rfl,hw⟩:=DataW.trod_int (jD.int ht) h;refine⟨n,rfl,?_⟩;simpa [Lit.wf] using hw
 | bool =>
  obtain⟨n,rfl,rfl⟩:=DataW.trod_bool (jD.bool ht) h;exact⟨n,rfl⟩
 | str =>
  obtain⟨n,rfl,rfl,hw⟩:=DataW.trod_string (jD.str ht) h;refine⟨n.data.toList,n,rfl,rfl,?_⟩;simp[Rows.uptoBulk] at hk;have:n.size=n.data.size:=rfl;omega
 | mv t=>exact (jD.a1B ht).elim
 | ptr =>
  obtain⟨t,hu⟩:=jD.ptr ht;rcases DataW.trod_pointer hu h with ⟨rfl,_⟩|⟨a,_,_,_,_,rfl,_⟩
  .exact⟨(),_,rfl⟩
  .exact⟨(),_,rfl⟩
 | slice t =>
  obtain⟨hu,⟨b',e',he⟩,_⟩:=jD.slice ht;have hc:=nS he;rcases DataW.trod_slice hu h with ⟨rfl,rfl⟩|⟨a,len,cap,elems,rest,n,hn,rfl,rfl,hb,hl,hm,hlen,QT,_⟩
  .exact⟨[],none,0,rfl,a9n _,a9F _,a9F _, .inl rfl⟩
  .obtain rfl:n=fuel:=by omega
   rw[hc] at QT;have WT:∀ (i:Nat) (z:DataW H×List MemPlace),elems[i]?=some z->Rows.uptoBulk z.1<=1048576:=by
    intro i z hz;have h1:=Jr (d:=z.1) (l:=elems.map (·.1)) (a9b.2 ⟨z,a9C hz,rfl⟩);simp only[Rows.uptoBulk] at hk;omega
   have uM:∀ i,i<len->∃ (y:t.den) (c:List Value),c.length=t.size/\Rd w (·<w.heap.size) (t.aE y) c/\(∀ j v,c[j]?=some v->w.cell? ((a.add (i * t.size)).add j)=some v):=by
    intro i hi;have hz:elems[i]?=some (elems[i]'(by omega)):=a9j (by omega);have:=QT i hi;rw[hz,b0e] at this;obtain⟨c,Kw,hc2⟩:=this;obtain⟨y,hy⟩:=ih t e b' e' c _ he hc2 (WT i _ hz);obtain⟨_,h5,h6⟩:=World.cells?_some Kw;refine⟨y,c,h5,hy,λ j v hj=>?_⟩;rw[h6 j (by rw[<-h5];exact (a9p.1 hj).1),hj]
   have hlb:len<=1048576:=by
    have h1:=Nl (elems.map (·.1));simp only[Rows.uptoBulk,a9M] at hk h1;omega
   rcases Nat.eq_zero_or_pos len with h0|h0
   .subst h0;exact⟨[],some a,cap,rfl,a9F _,hm,a9F _, .inl rfl⟩
   .have hp:=Ty.size_pos t;have Tn:a.spot=none:=by
     obtain⟨y,c,g1,g2,g3⟩:=uM 0 h0;have hj:c[0]?=some (c[0]'(by omega)):=List.getElem?_eq_getElem (by omega);have:=World.cell?_spot (g3 0 _ hj);simpa [Addr.add] using this
    obtain⟨ab,ao,asp⟩:=a;simp only at Tn;subst Tn;have a4c:∀ i j,((⟨ab,ao,none⟩:Addr).add i).add j=⟨ab,ao+i+j,none⟩:=by
     intro i j;unfold Addr.add;split<;>split<;>simp_all<;>omega
    obtain⟨xs,h1,h2⟩:=Yu (w:=w) (S:=(·<w.heap.size)) t ab len ao (λ i hi=>by
     obtain⟨y,c,g1,g2,g3⟩:=uM i hi;exact⟨y,c,g1,g2,λ j v hj=>by rw[<-a4c];exact g3 j v hj⟩)
    have bj:ab<w.heap.size:=by
     obtain⟨y,c,g1,g2,g3⟩:=uM 0 h0;have hj:c[0]?=some (c[0]'(by omega)):=List.getElem?_eq_getElem (by omega);have:=g3 0 _ hj;rw[a4c] at this;unfold World.cell? at this;split at this
     .rename_i hh;exact (b0s.1 hh).1
     .cases this
    have Th:(xs.map t.aE).length=len:=by simp[h1]
    refine⟨xs,some ⟨ab,ao,none⟩,cap,by rw[Th],by rw[Th];exact hl,hm,by rw[Th];omega, .inr ⟨ab,ao,rfl,bj,h2⟩⟩
 | st s =>
  obtain⟨fl,h1,h2⟩:∃ fl:List TV,fl.map TV.τ=s.dc/\cJ w (·<w.heap.size) ((fl.flatMap TV.cells).map TV.aE) cs:=by
   cases ha:s.arr with
   | true =>
    obtain⟨e1,hu,_⟩:=jD.arr ht ha;obtain⟨xs,n,hn,rfl,uI,qF,hx⟩:=DataW.trod_array hu h;obtain rfl:n=fuel:=by omega
    have iG:cs.length=(s.dc.map Ty.size).sum:=by
     rw[uI,nS ht];cases s<;>rfl
    exact Gs (w:=w) (S:=(·<w.heap.size)) s.dc cs iG (λ i t hi=>by
     have bj:=(a9p.1 hi).1;obtain⟨e2,k1,⟨b',e',k2⟩,k3⟩:=jD.SB ht ha hi;rw[hu] at k1;simp only[a8V,b2T,b0z] at k1;subst k1;have hy:=hx i bj;have hz:xs[i]?=some (xs[i]'(by omega)):=a9j (by omega);rw[hz,nS k2,<-k3] at hy;refine ih t _ b' e' _ _ k2 hy ?_;have h3:=Jr (d:=(xs[i]'(by omega)).1) (l:=xs.map (·.1)) (a9b.2 ⟨_,b0G _,rfl⟩);simp only[Rows.uptoBulk] at hk;omega)
   | false =>
    obtain⟨fs,hu,bZ,hf⟩:=jD.st ht ha;obtain⟨xs,n,hn,rfl,uI,qF,hx⟩:=DataW.trod_struct hu h;obtain rfl:n=fuel:=by omega
    have iG:cs.length=(s.dc.map Ty.size).sum:=by
     rw[uI,nS ht];cases s<;>rfl
    exact Gs (w:=w) (S:=(·<w.heap.size)) s.dc cs iG (λ i t hi=>by
     have bj:i<fs.size:=by rw[bZ];exact (a9p.1 hi).1
     obtain⟨t',b',e',g1,g2,g3⟩:=hf i (fs[i]'bj) (a9S bj);rw[hi] at g1;cases g1;have hy:=hx i (fs[i]'bj) (a9S bj);have hz:xs[i]?=some (xs[i]'(by omega)):=a9j (by omega);rw[hz,nS g2,g3] at hy;refine ih t _ b' e' _ _ g2 hy ?_;have h3:=Jr (d:=(xs[i]'(by omega)).1) (l:=xs.map (·.1)) (a9b.2 ⟨_,b0G _,rfl⟩);simp only[Rows.uptoBulk] at hk;omega)
  obtain⟨y,hy⟩:=aG.Wy s fl h1;refine⟨y,?_⟩;show Rd w _ (s.aE y) cs;rw[aG.bQ,aG.xF,hy];exact h2
end
end Go.Proofs.YtofnjfpeimhifaaGreatDoor

namespace Go.Proofs.YtofnjfpeimhifaaGreatDoor
open Go.ChangeShapes Go.WideShapes Go.ChangeAt Go.RowKit
theorem Xu:laidOutB prog=true:=by kernel_rfl
theorem Zu:ownKnob prog.godebug=none:=by kernel_rfl
section
variable {H:Type} {enc:TypeId×Value->H}
theorem FP{W W':World}{sp:Nat->Bool}(hb:Below W.heap.size W W'):∀ (ts:List TypeId) {vs:List Value} {ds:List (DataW H)} {ps:List MemPlace},(∀ t∈ts,prog.readableRec t=true/\t<prog.types.size) ->
  DataW.TrodAll enc prog W 0 (λ _=>true) true ts vs ds ps->(∀ p∈ps,p.block<W.heap.size)->(∀ p∈ps,sp p.block=true)->DataW.TrodAll enc prog W' 0 sp true ts vs ds ps
 | [],[],[],ps,_,h,_,_=>h
 | t::ts,v::vs,d::ds,ps,ht,h,bj,Tn=>by
  obtain⟨p,q,h1,h2,rfl⟩:=h;refine⟨p,q,?_,?_,rfl⟩
  .exact WideElems.Trod_stays Xu (ht t (by simp)).1 (ht t (by simp)).2 h1 (λ x hx=>hb.same (bj x (by simp[hx]))) (λ x hx=>Tn x (by simp[hx]))
  .exact FP hb ts (λ t h=>ht t (by simp[h])) h2 (λ x hx=>bj x (by simp[hx])) (λ x hx=>Tn x (by simp[hx]))
 | [],_::_,_,_,_,h,_,_=>h.elim
 | [],[],_::_,_,_,h,_,_=>h.elim
 | _::_,[],_,_,_,h,_,_=>h.elim
 | _::_,_::_,[],_,_,h,_,_=>h.elim
theorem VC{f:Func}{s:ChangeSpec}{apart fresh handsOn again:Bool}{W W':World}{args:Array Value}{v:Value}{ds gs:List (DataW H)}{before pa pv:List MemPlace}
  (hW:DataW.Whole enc prog f.params.toList s.vars apart W args.toList ds gs before)
  (Yl:∀ (b:Nat) (sp:Nat->Bool) (hd:Bool),DataW.TrodAll enc prog W' b sp hd f.resultTypes.toList (v.resultList f.resultTypes.size) (s.fn H (ds++gs)).results [])
  (dU:∀ sp:Nat->Bool,(∀ p∈before,sp p.block=true)->DataW.TrodAll enc prog W' 0 sp true f.params.toList args.toList (s.fn H (ds++gs)).args pa)
  (Pg:∀ sp:Nat->Bool,(∀ p∈before,sp p.block=true)->DataW.TrodVars enc prog W' sp s.vars (s.fn H (ds++gs)).vars pv)
  (hps:before=pa++pv) (hb:Below W.heap.size W W')
  (Zb:∀ (j:Nat) (t:TypeId) (r:Value),f.resultTypes[j]?=some t->(v.resultList f.resultTypes.size)[j]?=some r->Value.okWide prog W' .any 0 t r) :
  s.post enc prog f apart fresh handsOn again W args v W':=by
 have bj:∀ p∈before,p.block<W.heap.size:=λ p hp=>hW.lt p hp;have hold:∀ p∈before,(λ b=>decide (b<W.heap.size)) p.block=true:=λ p hp=>by simpa using bj p hp
 refine⟨ds,gs,before,[],pa,pv,hW,Yl _ _ _,dU _ hold,Pg _ hold,World.keptBut_mono (λ p hp=>⟨hp,?_⟩) (hb.frame (·∈before)),λ _=>?_⟩
 .rw[hps,a8X] at hp;exact Or.inr hp
 .obtain⟨_,_,_,_,_,hz,hn⟩:=hW;refine⟨Zb,_,_,([]++pa)++pv,⟨[]++pa,pv,trodAll_append (dU _ (λ _ _=>rfl)) (Yl _ _ _),Pg _ (λ _ _=>rfl),rfl,?_,?_⟩,?_⟩
  .intro b off hp;have fe:MemPlace.cell b off∈before:=by rw[hps];simpa using hp
   rw[hb.frozen (bj _ fe)];exact hz b off fe
  .intro ha;have:=hn ha;rw[hps] at this;simpa using this
  .intro p hp _;rw[hps];simpa using hp
def VP(τ:Ty)(v:Value):Prop:=match τ with
 | .st _=>∃ cs,v = .agg cs
 | _=>v.cells = #[v]
theorem a3m{w:World}{S:Nat->Prop}(τ:Ty)(y:τ.den){v:Value}(hv:VP τ v)(h:Rd w S (τ.aE y) v.cells.toList):dC w S ⟨τ,y⟩ v:=by
 cases τ with
 | st s =>
  obtain⟨cs,rfl⟩:=hv;exact⟨cs.toList,by simp,h⟩
 | int k=>simp only[show v.cells = #[v] from hv] at h;exact h
 | bool=>simp only[show v.cells = #[v] from hv] at h;exact h
 | str=>simp only[show v.cells = #[v] from hv] at h;exact h
 | slice t=>simp only[show v.cells = #[v] from hv] at h;exact h
 | mv t=>simp only[show v.cells = #[v] from hv] at h;exact h
 | ptr=>simp only[show v.cells = #[v] from hv] at h;exact h
theorem Uq{w:World}:∀ (ts:List TypeId) (τs:List Ty) {vs:List Value} {ds:List (DataW H)} {ps:List MemPlace},aM (λ T τ=>∃ b e,af AZ T=some (τ,b,e)) ts τs ->
  DataW.TrodAll enc prog w 0 (λ _=>true) true ts vs ds ps->(∀ d∈ds,Rows.uptoBulk d<=1048576)->(∀ (j:Nat) t v,ts[j]?=some t->vs[j]?=some v->Value.okWide prog w .any 0 t v\/∃ b,Value.okWide prog w .any b t v) ->
  ∃ JR:List TV,JR.map TV.τ=τs/\ds.length=τs.length/\aM (tD prog w (·<w.heap.size)) (JR.map .val) vs
 | [],[],[],[],_,_,_,_,_=>⟨[],rfl,rfl,U⟩
 | T::ts,τ::τs,v::vs,d::ds,ps,ht,h,hk,hv=>by
  obtain⟨p,q,⟨n,h1⟩,h2,rfl⟩:=h;obtain⟨⟨b,e,hT⟩,W6⟩:=ht;obtain⟨y,hy⟩:=VE n τ T b e _ _ hT h1 (hk d (by simp));obtain⟨JR,g1,g2,g3⟩:=Uq ts τs W6 h2 (λ d hd=>hk d (by simp[hd])) (λ j t v hj yK=>hv (j+1) t v hj yK);refine⟨⟨τ,y⟩::JR,by simp[g1],by simp[g2],⟨?_,g3⟩⟩;refine a3m τ y ?_ hy;have IW:=hv 0 T v rfl rfl;have key:∀ b,Value.okWide prog w .any b T v->VP τ v:=by
   intro b' hb;cases τ with
   | st s =>
    cases ha:s.arr with
    | true =>
     obtain⟨e',hu,_⟩:=jD.arr hT ha;simp only[Value.okWide,hu] at hb;obtain⟨cs,rfl,_⟩:=hb;exact⟨cs,rfl⟩
    | false =>
    obtain⟨fs,hu,_⟩:=jD.st hT ha;simp only[Value.okWide,hu] at hb;obtain⟨cs,rfl,_⟩:=hb;exact⟨cs,rfl⟩
   | int k =>
    have hu:=jD.int hT;simp only[Value.okWide,hu,Cell.okWide,Cell.ok] at hb;cases v<;>first|rfl|cases hb
   | bool =>
    have hu:=jD.bool hT;simp only[Value.okWide,hu,Cell.okWide,Cell.ok] at hb;cases v<;>first|rfl|cases hb
   | str =>
    have hu:=jD.str hT;simp only[Value.okWide,hu,Cell.okWide,Cell.ok] at hb;cases v<;>first|rfl|cases hb
   | mv t=>exact (jD.a1B hT).elim
   | ptr =>
    obtain⟨t,hu⟩:=jD.ptr hT;simp only[Value.okWide,hu,Cell.okWide,Cell.ok] at hb;cases v<;>first|rfl|cases hb
   | slice t =>
    have hu:=(jD.slice hT).1;simp only[Value.okWide,hu,Cell.okWide,Cell.ok] at hb;cases v<;>first|rfl|cases hb
  rcases IW with h|⟨b',h⟩
  .exact key _ h
  .exact key _ h
 | [],_::_,_,_,_,h,_,_,_=>h.elim
 | _::_,[],_,_,_,h,_,_,_=>h.elim
 | [],[],_::_,_,_,_,h,_,_=>h.elim
 | [],[],[],_::_,_,_,h,_,_=>h.elim
 | _::_,_::_,[],_,_,_,h,_,_=>h.elim
 | _::_,_::_,_::_,[],_,_,h,_,_=>h.elim
noncomputable def a3X(g:Nat):Bool:=g<prog.globals.size&&match ((begin prog (λ _ _=>0) default).world.heap[g]?).bind Obj.row? with
 | some (zero,t)=>zero.size == 1&&prog.buildable t&&(match prog.cellTypes prog.depth t with|some [u]=>u == t|_=>false)&&(match prog.underlying t with|some (.int .i64)=>true|_=>false)
 | none=>false
theorem Y0:WI.all a3X=true:=by kernel_rfl
theorem OV{W:World}(h:W.ShapedOpen prog):jf W (·<W.heap.size):=⟨λ _ h=>h,λ g hg=>by
 have hk:=List.all_eq_true.1 Y0 g hg;unfold a3X at hk;rw[Bool.and_eq_true] at hk;obtain⟨h1,h2⟩:=hk;split at h2
 .rename_i zero t h0;simp only[a9e] at h2;obtain⟨⟨⟨k1,k2⟩,k3⟩,k4⟩:=h2;have k3':prog.cellTypes prog.depth t=some [t]:=by
   split at k3
   .rename_i u hu;rw[hu,eq_of_beq k3]
   .cases k3
  have k4':prog.underlying t=some (.int .i64):=by
   split at k4
   .rename_i hu;exact hu
   .cases k4
  obtain⟨m,hm⟩:=cell_of_shapedOpen_int h (of_decide_eq_true h1) h0 (eq_of_beq k1) k2 k3' k4';refine⟨?_,m,hm⟩;unfold World.cell? at hm;rcases Nat.lt_or_ge g W.heap.size with q|q
  .exact q
  .rw[show W.heap[g]?=none from b0o q] at hm;cases hm
 .cases h2⟩
theorem a1j{n:FuncId}{fn:Func}{s:ChangeSpec}{τs:List Ty}{handsOn again:Bool}(Pf:aM (λ T τ=>∃ b e,af AZ T=some (τ,b,e)) fn.params.toList τs)
  (Tm:∀ t∈fn.params.toList,prog.readableRec t=true/\t<prog.types.size) (hr:fn.resultTypes = #[Nx]) (Pg:s.vars=[])
  (hs:∀ ds:List (DataW H),ds.length=τs.length->s.fn H ds={ results:=[.lit (.bool true)],args:=ds })
  (a7b:∀ JR:List TV,JR.map TV.τ=τs->fT prog n (JR.map .val) (·=[⟨.bool,true⟩]))
  {W:World} {base:Nat} {args:Array Value} {ds gs:List (DataW H)} {before:List MemPlace}
  (U6:∀ (j:Nat) t v,fn.params[j]?=some t->args[j]?=some v->Value.okWide prog W .any base t v)
  (hW:DataW.Whole enc prog fn.params.toList s.vars false W args.toList ds gs before) (hk:Rows.uptoSmall H (ds++gs)=true) (B4:jf W (·<W.heap.size)) :
  Calls prog n args W λ e W'=>∃ v,e = .returned v/\s.post enc prog fn false true handsOn again W args v W':=by
 have hW':=hW;obtain⟨p,q,hA,hV,Ze,hfz,dj⟩:=hW;rw[Pg] at hV;obtain⟨rfl,rfl⟩:=trodVars_none hV;have WT:∀ d∈ds,Rows.uptoBulk d<=1048576:=by
  intro d hd;have h1:=Jr hd;simp only[Rows.uptoSmall,a9U,a9d] at hk;omega
 obtain⟨JR,h1,h2,h3⟩:=Uq fn.params.toList τs Pf hA WT (λ j t v hj yK => .inr ⟨base,U6 j t v (by simpa using hj) (by simpa using yK)⟩);have lU:=a7b JR h1 W (·<W.heap.size) args.toList B4 h3;rw[show args.toList.toArray=args by simp] at lU;refine lU.mono λ e W'=>?_;rintro⟨x,S',res,rfl,rfl,gJ,WN,Y2,Yl⟩;have hx:x = .bool true:=by
  have hx:dC W' S' ⟨.bool,true⟩ x:=Yl;have hx:[x]=[Value.bool true]:=hx;simpa using hx
 subst hx;have hb:Below W.heap.size W W':=⟨gJ.os,gJ.tape,gJ.output,gJ.size,λ k hk=>gJ.block k hk (λ h=>h)⟩;refine⟨_,rfl,VC (pa:=p) (pv:=[]) hW' ?_ ?_ ?_ Ze hb ?_⟩
 .intro b sp hd;rw[hs _ (by simpa using h2),hr];exact trodAll_mk1 ⟨1,by
   have hu:prog.underlying Nx=some .bool:=by kernel_rfl
   simp only[DataW.trod,Value.cells];rw[hu]⟩
 .intro sp Tn;rw[hs _ (by simpa using h2),List.append_nil];have bj:∀ x∈before,x.block<W.heap.size:=λ x hx=>hW'.lt x hx;rw[Ze] at bj Tn;exact FP hb _ Tm hA (λ x hx=>bj x (by simp[hx])) (λ x hx=>Tn x (by simp[hx]))
 .intro sp Tn;rw[hs _ (by simpa using h2),Pg];rfl
 .refine ok_one hr rfl ?_;have hu:prog.underlying Nx=some .bool:=by kernel_rfl
  simp[Value.okWide,hu,Cell.okWide,Cell.ok]
end
end Go.Proofs.YtofnjfpeimhifaaGreatDoor

namespace Go.Proofs.YtofnjfpeimhifaaGreatDoor
def cT{α:Type}(f:α->Nat):List α->Nat
 | []=>0
 | x::xs=>f x+cT f xs
section
variable {α:Type} (f:α->Nat)
theorem nF(d:α):∀ (xs:List α) (k:Nat),k<xs.length->cT f (xs.take (k+1))=cT f (xs.take k)+f (xs.getD k d)
 | [],k,h=>by simp at h
 | x::xs,0,h=>by simp[cT]
 | x::xs,k+1,h=>by
  have:=nF d xs k (by simpa using h);simp[cT] at this ⊢;omega
theorem er:∀ (xs:List α) (k:Nat),cT f (xs.take k)<=cT f xs
 | [],k=>by simp
 | x::xs,0=>by simp[cT]
 | x::xs,k+1=>by
  have:=er xs k;simp[cT];omega
theorem vK(xs:List α)(k:Nat):xs.length<=k->cT f (xs.take k)=cT f xs:=λ h=>by rw[a9A h]
theorem Em(xs:List α):cT f (xs.take 0)=0:=by simp[cT]
theorem Lq(d:α):∀ (xs:List α) (k:Nat),k<xs.length->f (xs.getD k d)<=cT f xs
 | [],k,h=>by simp at h
 | x::xs,0,h=>by simp[cT]
 | x::xs,k+1,h=>by
  have:=Lq d xs k (by simpa using h);simp[cT] at this ⊢;omega
end
def E8(t:Nat)(left:Int):Int:=if (t:Int)<=left then left - t else -1
theorem En(t:Nat)(left:Int):((t:Int)<=left/\E8 t left=left - t)\/(left<(t:Int)/\E8 t left = -1):=by
 unfold E8;split
 .exact .inl ⟨by assumption,rfl⟩
 .exact .inr ⟨by omega,rfl⟩
noncomputable def gu{α:Type}(a b:α):Bool := @decide (a=b) (Classical.propDecidable _)
@[simp] theorem CL{α:Type}{a b:α}:gu a b=true↔a=b:=by simp[gu]
@[simp] theorem RI{α:Type}{a b:α}:gu a b=false↔a≠b:=by simp[gu]
@[simp] theorem a5T{α:Type}{a:α}:gu a a=true:=by simp[gu]
section
variable {α:Type}
theorem eu(d:α):∀ (xs:List α) (k:Nat),k<xs.length->xs.take (k+1)=xs.take k++[xs.getD k d]
 | [],k,h=>by simp at h
 | x::xs,0,h=>by simp
 | x::xs,k+1,h=>by
  have:=eu d xs k (by simpa using h);simp at this ⊢;exact this
theorem AY(d:α)(xs ys:List α)(k:Nat)(h1:k<xs.length)(h2:k<ys.length)(h:xs.take k=ys.take k)(e:xs.getD k d=ys.getD k d):xs.take (k+1)=ys.take (k+1):=by
 rw[eu d xs k h1,eu d ys k h2,h,e]
theorem oL(xs ys:List α)(k:Nat)(h1:xs.length<=k)(h2:ys.length<=k)(h:xs.take k=ys.take k):xs=ys:=by
 rwa [a9A h1,a9A h2] at h
def fill(xs:List α)(k:Nat)(z:α):List α:=xs.take k++List.replicate (xs.length - k) z
end
def iB{α:Type}(f:α->Nat):List α->Nat
 | []=>0
 | x::xs=>max (f x) (iB f xs)
section
variable {α:Type} (f:α->Nat)
theorem pR(d:α):∀ (xs:List α) (k:Nat),k<xs.length->iB f (xs.take (k+1))=max (iB f (xs.take k)) (f (xs.getD k d))
 | [],k,h=>by simp at h
 | x::xs,0,h=>by simp[iB]
 | x::xs,k+1,h=>by
  have:=pR d xs k (by simpa using h);simp[iB] at this ⊢;omega
theorem gQ:∀ (xs:List α) (k:Nat),iB f (xs.take k)<=iB f xs
 | [],k=>by simp
 | x::xs,0=>by simp[iB]
 | x::xs,k+1=>by
  have:=gQ xs k;simp[iB];omega
theorem yY(xs:List α)(k:Nat):xs.length<=k->iB f (xs.take k)=iB f xs:=λ h=>by rw[a9A h]
theorem PR(xs:List α):iB f (xs.take 0)=0:=by simp[iB]
theorem PQ(d:α):∀ (xs:List α) (k:Nat),k<xs.length->f (xs.getD k d)<=iB f xs
 | [],k,h=>by simp at h
 | x::xs,0,h=>by simp[iB];omega
 | x::xs,k+1,h=>by
  have:=PQ d xs k (by simpa using h);simp[iB] at this ⊢;omega
end
def bX{α:Type}(f:α->Bool):List α->Bool
 | []=>true
 | x::xs=>f x&&bX f xs
section
variable {α:Type} (f:α->Bool)
theorem HI:∀ (xs ys:List α),bX f (xs++ys)=(bX f xs&&bX f ys)
 | [],ys=>by simp[bX]
 | x::xs,ys=>by simp[bX,HI xs ys,Bool.and_assoc]
theorem de(d:α)(xs:List α)(k:Nat)(h:k<xs.length):bX f (xs.take (k+1))=(bX f (xs.take k)&&f (xs.getD k d)):=by
 rw[eu d xs k h,HI];simp[bX]
theorem dJ(d:α):∀ (xs:List α) (k:Nat),k<xs.length->f (xs.getD k d)=false->bX f xs=false
 | [],k,h,_=>by simp at h
 | x::xs,0,h,e=>by simp at e;simp[bX,e]
 | x::xs,k+1,h,e=>by
  have:=dJ d xs k (by simpa using h) (by simpa using e);simp[bX,this]
theorem eJ(xs:List α)(k:Nat):xs.length<=k->bX f (xs.take k)=bX f xs:=λ h=>by rw[a9A h]
theorem all_zero(xs:List α):bX f (xs.take 0)=true:=by simp[bX]
theorem D1(d:α):∀ (xs:List α) (k:Nat),k<xs.length->bX f xs=true->f (xs.getD k d)=true
 | [],k,h,_=>by simp at h
 | x::xs,0,h,e=>by simp[bX] at e;simp[e.1]
 | x::xs,k+1,h,e=>by
  simp only[bX,Bool.and_eq_true] at e;have:=D1 d xs k (by simpa using h) e.2;simpa using this
end
end Go.Proofs.YtofnjfpeimhifaaGreatDoor

namespace Go.Proofs.YtofnjfpeimhifaaGreatDoor
noncomputable section
def YV(x y:J):gu x y=(decide (x.ah=y.ah)&&decide (x.bl=y.bl)&&gu x.ae y.ae):=by
 refine Bool.eq_iff_iff.2 ?_;cases x;cases y;simp[and_assoc]
def lj(n:Nat):aX:=⟨mO,[.r (.st .expr), .r (.st .expr)],λ (x:J) (y:J)=>⟨(some (bH x<n),[⟨.bool,gu x y⟩])⟩⟩
def rU:aX:=⟨mO,[.r (.st .expr), .r (.st .expr)],λ (x:J) (y:J)=>⟨(none,[⟨.bool,gu x y⟩])⟩⟩
def M9(x:J)(y:J):Nat->aJ:=(eA 0 (.b (Nat) (λ k=>k<=x.ae.length/\x.ae.length=y.ae.length/\x.ae.take k=y.ae.take k/\x.ah=y.ah/\x.bl=y.bl) (λ k=>x.ae.length - k) [6,7,8,9,10,11,12,13,14,15,16,17,18,19,20,21,22,23,24,25,26,27,28,29,30,31,32,33,34,35,36,37,38] (λ k=>[(5, .aN ⟨(.int .i64),((k:Int):Int)⟩)])) cj)
abbrev oq(n:Nat)(x:J)(y:J):Prop:=(let v0:=(x.ae.length:Int);((∃ k1:Nat,((k1<=x.ae.length/\x.ae.length=y.ae.length/\x.ae.take k1=y.ae.take k1/\x.ah=y.ah/\x.bl=y.bl)/\((x=x/\(y=y/\((0:Int)=(k1:Int)/\True)))/\True)))/\(∀ k1:Nat,let v1 := !(gu (x.ae.getD k1 zE) (y.ae.getD k1 zE));let v2:=(k1:Int);((k1<=x.ae.length/\x.ae.length=y.ae.length/\x.ae.take k1=y.ae.take k1/\x.ah=y.ah/\x.bl=y.bl) ->
 (x.ae.length<=140737488355328 ->
 (ai v0 ->
 (((decide (v2<v0))=true ->
 (aB v2 x.ae.length/\(aB v2 y.ae.length/\(x.ae.length<=140737488355328 ->
 (y.ae.length<=140737488355328 ->
 (bH (x.ae.getD k1 zE)<n/\((v1=true ->
 false=(gu x y))/\(v1=false ->
 (ai (v2+(1:Int))/\(∃ k2:Nat,((k2<=x.ae.length/\x.ae.length=y.ae.length/\x.ae.take k2=y.ae.take k2/\x.ah=y.ah/\x.bl=y.bl)/\(x.ae.length - k2<x.ae.length - k1/\((x=x/\(y=y/\((v2+(1:Int))=(k2:Int)/\True)))/\True)))))))))))))/\((decide (v2<v0))=false ->
 true=(gu x y)))))))))
abbrev wR(n:Nat)(x:J)(y:J):Prop:=(let v0 := !(decide (((x.ae.length:Int))=((y.ae.length:Int))));(x.ae.length<=140737488355328 ->
 (ai ((x.ae.length:Int)) ->
 (y.ae.length<=140737488355328 ->
 (ai ((y.ae.length:Int)) ->
 ((v0=true ->
 false=(gu x y))/\(v0=false ->
 (oq n x y))))))))
def Lb(n:Nat)(hE:bo [lj n]):aX.Good (lj (n+1)):=by
 refine⟨aD kE,?_⟩;intro (x:J) (y:J) (hp:bH x<n+1);refine aY [lj n] [] [] [] hE kE Ga (M9 x y) ((((!(decide (x.ah=y.ah)))=false->(((!(decide (x.bl=y.bl)))=false->(ai x.ah->(ai y.ah->(ai x.bl->(ai y.bl->(wR n x y))))))/\((!(decide (x.bl=y.bl)))=(!false)->(ai x.ah->(ai y.ah->(ai x.bl->(ai y.bl->((true=true->false=(gu x y))/\(true=false->(oq n x y))))))))))/\((!(decide (x.ah=y.ah)))=(!false)->((true=false->(ai x.ah->(ai y.ah->(wR n x y))))/\(true=(!false)->(ai x.ah->(ai y.ah->((true=true->false=(gu x y))/\(true=false->(oq n x y)))))))))) ?_;have f0:=fK x;have f3:=YV x y;refine⟨λ _=>⟨λ _ _ _ _ _ _ _ _ _=>⟨λ _=>?_,λ _=>⟨⟨0,?_,⟨rfl,rfl,?_,U⟩,U⟩,λ k1 _=>have Wm:=AY zE x.ae y.ae k1;have Wn:=oL x.ae y.ae k1;have Wo:=cB zE x.ae k1;λ _ _=>⟨λ _=>⟨?_,?_,λ _ _=>⟨?_,λ _=>?_,λ _=>⟨?_,k1+1,?_,?_,⟨rfl,rfl,?_,U⟩,U⟩⟩⟩,λ _=>?_⟩⟩⟩,λ _ _ _ _ _=>⟨λ _=>?_,λ _=>⟨⟨0,?_,⟨rfl,rfl,?_,U⟩,U⟩,λ k1 _=>have a0j:=AY zE x.ae y.ae k1;have a0k:=oL x.ae y.ae k1;have a0l:=cB zE x.ae k1;λ _ _=>⟨λ _=>⟨?_,?_,λ _ _=>⟨?_,λ _=>?_,λ _=>⟨?_,k1+1,?_,?_,⟨rfl,rfl,?_,U⟩,U⟩⟩⟩,λ _=>?_⟩⟩⟩⟩,λ _=>⟨λ _ _ _ _ _ _ _=>⟨λ _=>?_,λ _=>⟨⟨0,?_,⟨rfl,rfl,?_,U⟩,U⟩,λ k1 _=>have a3I:=AY zE x.ae y.ae k1;have a3J:=oL x.ae y.ae k1;have a3K:=cB zE x.ae k1;λ _ _=>⟨λ _=>⟨?_,?_,λ _ _=>⟨?_,λ _=>?_,λ _=>⟨?_,k1+1,?_,?_,⟨rfl,rfl,?_,U⟩,U⟩⟩⟩,λ _=>?_⟩⟩⟩,λ _ _ _=>⟨λ _=>?_,λ _=>⟨⟨0,?_,⟨rfl,rfl,?_,U⟩,U⟩,λ k1 _=>have a6a:=AY zE x.ae y.ae k1;have a6b:=oL x.ae y.ae k1;have a6c:=cB zE x.ae k1;λ _ _=>⟨λ _=>⟨?_,?_,λ _ _=>⟨?_,λ _=>?_,λ _=>⟨?_,k1+1,?_,?_,⟨rfl,rfl,?_,U⟩,U⟩⟩⟩,λ _=>?_⟩⟩⟩⟩⟩;all_goals try and_intros
 all_goals first|rfl|trivial|(simp only[decide_eq_true_eq,decide_eq_false_iff_not,Bool.not_eq_false',Bool.not_eq_true',decide_not,aB,ai] at *;first|omega|grind)|grind [CL,RI]
def Lz :∀ n,bo [lj n]
 | 0=>⟨⟨aD kE,λ _ _ h=>absurd h (a9K _)⟩,U⟩
 | n+1=>by
  have ih:=Lz  n;exact⟨Lb n ⟨ih.1,U⟩,U⟩
def mX :aX.Good rU :=
 ⟨aD kE,λ x y hp=>(Lz  (bH x+1)).1.2 x y (a9o _)⟩
end
end Go.Proofs.YtofnjfpeimhifaaGreatDoor
